import PyProof.Rows.All
import Wide.All
import OpenK.AllK
import Wide.FinOn
import KE.KStateDown
import Lean
import HandS.ForMost
import HandS.Walk
import HandS.Style
import HandS.TupAny
import HandS.TupMul
import HandS.Deep
import HandS.Exc
import HandS.ExcOwn
import HandS.HeadHook1
import KE.KDictKeyed
import HandS.Defaults
import KE.GoesMore
import KE.GoesEnum
import KE.KDictLaw
import KE.SortData
import HandS.IsInst
import HandS.SortOrd
import KE.KTupSum
import PyProof.WalkInts
import HandS.Head0
import HandS.Head1
import HandS.Head2
import HandS.HeadEnd
import HandS.HeadHook2
import HandS.More
import KE.DataMinMax
import HandS.ExcIs
import HandS.ExcField
import KE.KExcIs
import HandS.ExcInit
import HandS.Conv
import KE.KDictSum
import HandS.Text
import HandS.DictComp
import KE.KDictCopyH
import PyProof.Rows.SetFrom
import PyProof.SetRoads
import KE.KDictOf
import KE.DataCmp
import PyProof.ZipIter
import HandS.Zip
import HandS.TupSets
import HandS.MakeKwOnly
import HandS.NamedTupGet
import HandS.SlotsOwn
import PyProof.DictMoreH
import HandS.Replace
import HandS.FStr
import HandS.StrMore
import PyProof.StrOps2
import KE.DataFind
import PySem.Challenge.RW_handsarc_k04_whole_next_beats
set_option Elab.async false
set_option linter.all false
set_option maxRecDepth 100000
set_option maxHeartbeats 0
namespace J
open PySem PySem.Spec PyProof.Rows L2

/-! ## plain data, the store, results -/
inductive D where
  | non | bl (b : Bool) | int (i : Int) | str (x : Str)
  | tup (xs : List D)
  | new (xs : List D)
  | scr (xs : List D)
  | ktp (xs : List D)
  | ref (n : Nat)
  | exn (c : Str)
  | dic (ks vs : List D)
  | rdc (n : Nat)
  | obj (n : Nat)
  deriving Inhabited

inductive O where
  | lst (xs : List D)
  | dic (ks vs : List D)
  | fdic (ks vs : List D)
  | obj (c : Str) (fs : List (Str × D))
  deriving Inhabited

abbrev Sto := List O
abbrev Env := List (Option D)
structure Exn where
  cls : Str
  fs : List (Str × D)

inductive R (α : Type) where
  | ok (a : α) (S : Sto)
  | exc (x : Exn) (S : Sto)
  | bad
def R.bind {α β : Type} : R α → (α → Sto → R β) → R β
  | .ok a S, f => f a S
  | .exc x S, _ => .exc x S
  | .bad, _ => .bad
@[simp] theorem R.bind_ok {α β : Type} (a : α) (S : Sto) (f : α → Sto → R β) : (R.ok a S).bind f = f a S := Eq.trans rfl rfl
@[simp] theorem R.bind_exc {α β : Type} (x : Exn) (S : Sto) (f : α → Sto → R β) : (R.exc x S).bind f = .exc x S := Eq.trans rfl rfl
@[simp] theorem R.bind_bad {α β : Type} (f : α → Sto → R β) : (R.bad).bind f = .bad := Eq.trans rfl rfl

abbrev CE := Env → Sto → R D
abbrev CT := Env → Sto → R Bool
abbrev CA := Env → Sto → R (List D)

/-! ## how data stands in the abstract heap -/
/-- where the store's things stand; what is out of reach -/
structure Rg where
  st : List Addr
  hid : List Addr
  fz : List Addr
def Rg.In (ρ : Rg) (a : Addr) : Prop := a ∈ ρ.st ∨ a ∈ ρ.hid
def Rg.push (ρ : Rg) (a : Addr) : Rg := ⟨ρ.st ++ [a], ρ.hid, ρ.fz⟩
def Rg.hide (ρ : Rg) (a : Addr) : Rg := ⟨ρ.st, a :: ρ.hid, ρ.fz⟩
def Rg.lock (ρ : Rg) (a : Addr) : Rg := ⟨ρ.st, ρ.hid, ρ.fz ++ [a]⟩
def KL (K : PySem.W.Frag) (a : Addr) (xs : List V) : Prop :=
  ∃ (o : Obj) (its : Array Value) (n : Nat), K.lookup a = some o ∧ o.cls = .type "list" ∧ o.dict = none ∧ o.data = .seq its n ∧ its.size ≤ sizeLine ∧ Vals xs its.toList
/-- a list that nobody changes any more -/
def SqN (H : Hp) (ρ : Rg) (a : Addr) (xs : List V) : Prop := ¬ ρ.In a ∧ H a = some (.lst xs)
/-- a list that is only read -/
def SqS (K : PySem.W.Frag) (H : Hp) (ρ : Rg) (a : Addr) (xs : List V) : Prop := (¬ ρ.In a ∧ ∃ o, H a = some (.frz o (.lst xs))) ∨ KL K a xs
theorem SqN.sq {K : PySem.W.Frag} {H : Hp} {ρ : Rg} {a : Addr} {xs : List V} (h : SqN H ρ a xs) : SqL K H a xs := .inl (.inl h.2)
theorem SqS.sq {K : PySem.W.Frag} {H : Hp} {ρ : Rg} {a : Addr} {xs : List V} (h : SqS K H ρ a xs) : SqL K H a xs := by
  rcases h with ⟨_, h⟩ | h
  · exact .inl (.inr h)
  · exact .inr h

/-- a tuple that has no dict of its own -/
def SqK (H : Hp) (ρ : Rg) (a : Addr) (xs : List V) : Prop := ¬ ρ.In a ∧ ∃ o, H a = some (.frz o (.tup xs)) ∧ o.dict = none
theorem SqK.sq {K : PySem.W.Frag} {H : Hp} {ρ : Rg} {a : Addr} {xs : List V} (h : SqK H ρ a xs) : SqT K H a xs := by
  obtain ⟨_, o, h, _⟩ := h
  exact .inl (.inr ⟨o, h⟩)

/-- a caught exception, held as a value -/
def ExT (cls : Value) (d : Option Addr) (a : Addr) : HO := .ext fun h => ∃ (oe : Obj) (vs : Array Value), h.get? a = some oe ∧ Zc cls d oe ∧ oe.data = .fields vs
def ExR (K : PySem.W.Frag) (H : Hp) (ρ : Rg) (c : Str) (a : Addr) (d : Option Addr) : Prop :=
  ¬ ρ.In a ∧ H a = some (ExT (.ref (He.ga K c)) d a) ∧ ∀ dd, d = some dd → ¬ ρ.In dd ∧ ∃ fs, H dd = some (.xd fs)
/-- a dict: its entries (the key, its value, the value), its count of changes -/
abbrev Ent := NestedKey × V × V
def DicT (a : Addr) (es : List Ent) (ep : Nat) : HO := .ext fun h => (a == sysModules) = false ∧ es.length ≤ sizeLine ∧ (es.map (·.1)).Nodup ∧ ∃ (o : Obj) (xs : Array DictEntry), h.get? a = some o ∧ o.ExactDict ∧ o.data = .dict xs ep ∧
  Paired (fun (e : Ent) (x : DictEntry) => (∀ w, x.hash = e.1.hash w) ∧ RelV e.2.1 x.key ∧ RelV e.2.2 x.val) es xs.toList
mutual
/-- data as a key -/
def D.nk : D → Option NestedKey
  | .non => some .none
  | .bl b => some (.num (if b = true then 1 else 0))
  | .int i => some (.num i)
  | .tup xs => (D.nks xs).map .tup
  | _ => none
def D.nks : List D → Option (List NestedKey)
  | [] => some []
  | x :: xs => match D.nk x, D.nks xs with
    | some a, some b => some (a :: b)
    | _, _ => none
end
mutual
def RepV (K : PySem.W.Frag) (H : Hp) (ρ : Rg) : D → V → Prop
  | .non, v => v = .non
  | .bl b, v => v = .bl b
  | .int i, v => v = .int i
  | .str x, v => v = .str x
  | .tup ds, v => ∃ a vs, v = .ref a ∧ SqT K H a vs ∧ RepVs K H ρ ds vs
  | .new ds, v => ∃ a vs, v = .ref a ∧ SqN H ρ a vs ∧ RepVs K H ρ ds vs
  | .scr ds, v => ∃ a vs, v = .ref a ∧ SqS K H ρ a vs ∧ RepVs K H ρ ds vs
  | .ktp ds, v => ∃ a vs, v = .ref a ∧ SqK H ρ a vs ∧ RepVs K H ρ ds vs
  | .ref n, v => ∃ a, v = .ref a ∧ ρ.st[n]? = some a ∧ ∃ us, H a = some (.lst us)
  | .exn c, v => ∃ a d, v = .ref a ∧ ExR K H ρ c a d
  | .dic ks vs, v => ∃ a es ep, v = .ref a ∧ (¬ ρ.In a ∧ H a = some (DicT a es ep)) ∧ D.nks ks = some (es.map (·.1)) ∧ RepVs K H ρ ks (es.map (·.2.1)) ∧ RepVs K H ρ vs (es.map (·.2.2))
  | .rdc n, v => ∃ a, v = .ref a ∧ ρ.st[n]? = some a ∧ ∃ es ep, H a = some (DicT a es ep)
  | .obj n, v => ∃ a, v = .ref a ∧ ρ.st[n]? = some a
def RepVs (K : PySem.W.Frag) (H : Hp) (ρ : Rg) : List D → List V → Prop
  | [], vs => vs = []
  | d :: ds, vs => ∃ v r, vs = v :: r ∧ RepV K H ρ d v ∧ RepVs K H ρ ds r
end

/-- keys and values of entries -/
def RepD (K : PySem.W.Frag) (H : Hp) (ρ : Rg) (ks vs : List D) (es : List Ent) : Prop := D.nks ks = some (es.map (·.1)) ∧ RepVs K H ρ ks (es.map (·.2.1)) ∧ RepVs K H ρ vs (es.map (·.2.2))
def RepO (K : PySem.W.Frag) (H : Hp) (ρ : Rg) (a : Addr) : O → Prop
  | .lst ds => ∃ vs, H a = some (.lst vs) ∧ RepVs K H ρ ds vs
  | .dic ks vs => ∃ es ep, H a = some (DicT a es ep) ∧ RepD K H ρ ks vs es ∧ a ∉ ρ.fz
  | .fdic ks vs => ∃ es ep, H a = some (DicT a es ep) ∧ RepD K H ρ ks vs es ∧ a ∈ ρ.fz
  | .obj c fs => ∃ dx us, H a = some (.ins (He.ga K c) dx us) ∧ us.map (fun u => u.1) = fs.map (fun f => f.1) ∧ RepVs K H ρ (fs.map fun f => f.2) (us.map fun u => u.2)

structure Sim (K : PySem.W.Frag) (ρ : Rg) (S : Sto) (H : Hp) : Prop where
  len : ρ.st.length = S.length
  nd : ρ.st.Nodup
  at_ : ∀ (i : Nat) (a : Addr) (o : O), ρ.st[i]? = some a → S[i]? = some o → RepO K H ρ a o
  hid : ∀ a ∈ ρ.hid, H a ≠ none ∧ a ∉ ρ.st
  fz : ∀ a ∈ ρ.fz, ∃ es ep, H a = some (DicT a es ep)

/-- what stood and is not in the store stands; what is new in the store is new -/
structure Ext (K : PySem.W.Frag) (ρ : Rg) (H : Hp) (ρ' : Rg) (H' : Hp) : Prop where
  pre : ∃ e f, ρ' = ⟨ρ.st ++ e, ρ.hid, ρ.fz ++ f⟩ ∧ (∀ a ∈ e, H a = none) ∧ ∀ a ∈ f, a ∈ ρ.st ∨ H a = none
  tup : ∀ a xs, SqT K H a xs → SqT K H' a xs
  old : ∀ a o, H a = some o → (a ∉ ρ.st ∨ a ∈ ρ.fz) → H' a = some o
  trk : ∀ a, H a ≠ none → H' a ≠ none
  lst : ∀ a us, H a = some (.lst us) → ∃ us', H' a = some (.lst us')
  dic : ∀ a es ep, H a = some (DicT a es ep) → ∃ es' ep', H' a = some (DicT a es' ep')

def RepSt (K : PySem.W.Frag) (H : Hp) (ρ : Rg) (σ : L2.St) (env : Env) : Prop :=
  σ.length = env.length ∧ ∀ (i : Nat) (d : D), env[i]? = some (some d) → ∃ v, σ[i]? = some (some v) ∧ RepV K H ρ d v

section
variable {K : PySem.W.Frag} {H H' H'' : Hp} {ρ ρ' ρ'' : Rg} {S S' : Sto} {a : Addr} {σ : L2.St} {env : Env}

theorem Ext.refl : Ext K ρ H ρ H := ⟨⟨[], [], by simp, by simp, by simp⟩, fun _ _ h => h, fun _ _ h _ => h, fun _ h => h, fun _ us h => ⟨us, h⟩, fun _ es ep h => ⟨es, ep, h⟩⟩
theorem Ext.hid (x : Ext K ρ H ρ' H') : ρ'.hid = ρ.hid := by
  obtain ⟨e, f, rfl, _, _⟩ := x.pre; rfl
theorem Ext.notst (x : Ext K ρ H ρ' H') {a : Addr} {o : HO} (h : H a = some o) (n : a ∉ ρ.st) : a ∉ ρ'.st := by
  obtain ⟨e, f, rfl, he, _⟩ := x.pre
  intro z
  rcases List.mem_append.mp z with z | z
  · exact n z
  · rw [he a z] at h; cases h
theorem Ext.notin (x : Ext K ρ H ρ' H') {a : Addr} {o : HO} (h : H a = some o) (n : ¬ ρ.In a) : ¬ ρ'.In a := by
  rintro (z | z)
  · exact x.notst h (fun q => n (.inl q)) z
  · rw [x.hid] at z; exact n (.inr z)
theorem Ext.fz (x : Ext K ρ H ρ' H') {a : Addr} (h : a ∈ ρ.fz) : a ∈ ρ'.fz := by
  obtain ⟨e, f, rfl, _, _⟩ := x.pre
  exact List.mem_append_left _ h
theorem Ext.trans (x : Ext K ρ H ρ' H') (y : Ext K ρ' H' ρ'' H'') : Ext K ρ H ρ'' H'' := by
  obtain ⟨e, f, he, hn1, hf1⟩ := id x.pre
  obtain ⟨e2, f2, he2, hn2, hf2⟩ := id y.pre
  have back : ∀ a, H' a = none → H a = none := fun a q => by
    cases r : H a with
    | none => rfl
    | some o => exact absurd q (x.trk a (by rw [r]; simp))
  refine ⟨⟨e ++ e2, f ++ f2, by rw [he2, he]; simp, fun a ha => ?_, fun a ha => ?_⟩, fun a xs h => y.tup a xs (x.tup a xs h), fun a o h n => y.old a o (x.old a o h n) (n.imp (x.notst h) x.fz), fun a h => y.trk a (x.trk a h),
    fun a us h => let ⟨us', h'⟩ := x.lst a us h; y.lst a us' h', fun a es ep h => let ⟨es', ep', h'⟩ := x.dic a es ep h; y.dic a es' ep' h'⟩
  · rcases List.mem_append.mp ha with z | z
    · exact hn1 a z
    · exact back a (hn2 a z)
  · rcases List.mem_append.mp ha with z | z
    · exact hf1 a z
    · rcases hf2 a z with q | q
      · rw [he] at q
        rcases List.mem_append.mp q with q | q
        · exact .inl q
        · exact .inr (hn1 a q)
      · exact .inr (back a q)
/-- what is out of reach is not locked -/
theorem Ext.nolock (x : Ext K ρ H ρ' H') {a : Addr} {o : HO} (h : H a = some o) (n : a ∉ ρ.st) (z : a ∉ ρ.fz) : a ∉ ρ'.fz := by
  obtain ⟨e, f, rfl, _, hf⟩ := x.pre
  intro q
  rcases List.mem_append.mp q with q | q
  · exact z q
  · rcases hf a q with q | q
    · exact n q
    · rw [h] at q; cases q
theorem Ext.get (x : Ext K ρ H ρ' H') {n : Nat} {a : Addr} (h : ρ.st[n]? = some a) : ρ'.st[n]? = some a := by
  obtain ⟨e, f, rfl, _, _⟩ := x.pre
  show (ρ.st ++ e)[n]? = some a
  rw [List.getElem?_append_left]
  · exact h
  · exact (List.getElem?_eq_some_iff.mp h).1
theorem Ext.sqn (x : Ext K ρ H ρ' H') {a : Addr} {xs : List V} (h : SqN H ρ a xs) : SqN H' ρ' a xs := ⟨x.notin h.2 h.1, x.old _ _ h.2 (.inl fun q => h.1 (.inl q))⟩
theorem Ext.sqs (x : Ext K ρ H ρ' H') {a : Addr} {xs : List V} (h : SqS K H ρ a xs) : SqS K H' ρ' a xs := by
  rcases h with ⟨n, o, h⟩ | h
  · exact .inl ⟨x.notin h n, o, x.old _ _ h (.inl fun q => n (.inl q))⟩
  · exact .inr h
theorem Ext.sqk (x : Ext K ρ H ρ' H') {a : Addr} {xs : List V} (h : SqK H ρ a xs) : SqK H' ρ' a xs := by
  obtain ⟨n, o, h, d⟩ := h
  exact ⟨x.notin h n, o, x.old _ _ h (.inl fun q => n (.inl q)), d⟩

mutual
theorem RepV.ext (x : Ext K ρ H ρ' H') : ∀ (d : D) (v : V), RepV K H ρ d v → RepV K H' ρ' d v
  | .non, _, h => by unfold RepV at *; exact h
  | .bl _, _, h => by unfold RepV at *; exact h
  | .int _, _, h => by unfold RepV at *; exact h
  | .str _, _, h => by unfold RepV at *; exact h
  | .tup ds, v, h => by
    unfold RepV at *
    obtain ⟨a, vs, e, q, r⟩ := h
    exact ⟨a, vs, e, x.tup _ _ q, RepVs.ext x ds vs r⟩
  | .new ds, v, h => by
    unfold RepV at *
    obtain ⟨a, vs, e, q, r⟩ := h
    exact ⟨a, vs, e, x.sqn q, RepVs.ext x ds vs r⟩
  | .scr ds, v, h => by
    unfold RepV at *
    obtain ⟨a, vs, e, q, r⟩ := h
    exact ⟨a, vs, e, x.sqs q, RepVs.ext x ds vs r⟩
  | .ktp ds, v, h => by
    unfold RepV at *
    obtain ⟨a, vs, e, q, r⟩ := h
    exact ⟨a, vs, e, x.sqk q, RepVs.ext x ds vs r⟩
  | .ref n, v, h => by
    unfold RepV at *
    obtain ⟨a, e, q, us, hu⟩ := h
    exact ⟨a, e, x.get q, x.lst a us hu⟩
  | .rdc n, v, h => by
    unfold RepV at *
    obtain ⟨a, e, q, es, ep, hu⟩ := h
    exact ⟨a, e, x.get q, x.dic a es ep hu⟩
  | .obj n, v, h => by
    unfold RepV at *
    obtain ⟨a, e, q⟩ := h
    exact ⟨a, e, x.get q⟩
  | .exn c, v, h => by
    unfold RepV at *
    obtain ⟨a, d, e, n, q, r⟩ := h
    refine ⟨a, d, e, x.notin q n, x.old _ _ q (.inl fun z => n (.inl z)), fun dd ed => ?_⟩
    obtain ⟨n2, fs, q2⟩ := r dd ed
    exact ⟨x.notin q2 n2, fs, x.old _ _ q2 (.inl fun z => n2 (.inl z))⟩
  | .dic ks vs, v, h => by
    unfold RepV at *
    obtain ⟨a, es, ep, e, ⟨n, q⟩, hk, r1, r2⟩ := h
    exact ⟨a, es, ep, e, ⟨x.notin q n, x.old _ _ q (.inl fun z => n (.inl z))⟩, hk, RepVs.ext x ks _ r1, RepVs.ext x vs _ r2⟩
theorem RepVs.ext (x : Ext K ρ H ρ' H') : ∀ (ds : List D) (vs : List V), RepVs K H ρ ds vs → RepVs K H' ρ' ds vs
  | [], _, h => by unfold RepVs at *; exact h
  | d :: ds, vs, h => by
    unfold RepVs at *
    obtain ⟨v, r, e, q, t⟩ := h
    exact ⟨v, r, e, RepV.ext x d v q, RepVs.ext x ds r t⟩
end
theorem RepSt.ext (x : Ext K ρ H ρ' H') (h : RepSt K H ρ σ env) : RepSt K H' ρ' σ env :=
  ⟨h.1, fun i d e => let ⟨v, q, r⟩ := h.2 i d e; ⟨v, q, RepV.ext x d v r⟩⟩

theorem RepVs.length : ∀ {ds : List D} {vs : List V}, RepVs K H ρ ds vs → vs.length = ds.length
  | [], _, h => by unfold RepVs at h; subst h; rfl
  | d :: ds, vs, h => by
    unfold RepVs at h
    obtain ⟨v, r, rfl, _, t⟩ := h
    simp [RepVs.length t]
theorem RepVs.get : ∀ {ds : List D} {vs : List V} {i : Nat} {d : D}, RepVs K H ρ ds vs → ds[i]? = some d → ∃ v, vs[i]? = some v ∧ RepV K H ρ d v
  | [], _, i, d, h, e => by simp at e
  | d :: ds, vs, 0, d', h, e => by
    unfold RepVs at h
    obtain ⟨v, r, rfl, q, t⟩ := h
    simp at e; subst e
    exact ⟨v, by simp, q⟩
  | d :: ds, vs, i + 1, d', h, e => by
    unfold RepVs at h
    obtain ⟨v, r, rfl, q, t⟩ := h
    obtain ⟨u, e1, e2⟩ := RepVs.get (i := i) t (by simpa using e)
    exact ⟨u, by simpa using e1, e2⟩
theorem RepVs.nil : RepVs K H ρ [] [] := by unfold RepVs; rfl
theorem RepVs.cons {d : D} {ds : List D} {v : V} {vs : List V} (h : RepV K H ρ d v) (t : RepVs K H ρ ds vs) : RepVs K H ρ (d :: ds) (v :: vs) := by
  unfold RepVs; exact ⟨v, vs, rfl, h, t⟩
theorem RepVs.append : ∀ {ds es : List D} {vs us : List V}, RepVs K H ρ ds vs → RepVs K H ρ es us → RepVs K H ρ (ds ++ es) (vs ++ us)
  | [], _, _, _, h, t => by unfold RepVs at h; subst h; exact t
  | d :: ds, es, vs, us, h, t => by
    unfold RepVs at h
    obtain ⟨v, r, rfl, q, t'⟩ := h
    exact RepVs.cons q (RepVs.append t' t)
theorem RepVs.take : ∀ {ds : List D} {vs : List V} (n : Nat), RepVs K H ρ ds vs → RepVs K H ρ (ds.take n) (vs.take n)
  | _, _, 0, h => by simpa using RepVs.nil
  | [], _, n + 1, h => by unfold RepVs at h; subst h; simpa using RepVs.nil
  | d :: ds, vs, n + 1, h => by
    unfold RepVs at h
    obtain ⟨v, r, rfl, q, t⟩ := h
    exact RepVs.cons q (RepVs.take n t)
theorem RepVs.drop : ∀ {ds : List D} {vs : List V} (n : Nat), RepVs K H ρ ds vs → RepVs K H ρ (ds.drop n) (vs.drop n)
  | _, _, 0, h => h
  | [], _, n + 1, h => by unfold RepVs at h; subst h; simpa using RepVs.nil
  | d :: ds, vs, n + 1, h => by
    unfold RepVs at h
    obtain ⟨v, r, rfl, q, t⟩ := h
    simpa using RepVs.drop n t
theorem RepVs.set : ∀ {ds : List D} {vs : List V} {d : D} {v : V} (i : Nat), RepV K H ρ d v → RepVs K H ρ ds vs → RepVs K H ρ (ds.set i d) (vs.set i v)
  | [], _, _, _, _, _, h => by unfold RepVs at h; subst h; simpa using RepVs.nil
  | d :: ds, vs, d', v', 0, q', h => by
    unfold RepVs at h
    obtain ⟨v, r, rfl, q, t⟩ := h
    exact RepVs.cons q' t
  | d :: ds, vs, d', v', i + 1, q', h => by
    unfold RepVs at h
    obtain ⟨v, r, rfl, q, t⟩ := h
    exact RepVs.cons q (RepVs.set i q' t)
theorem RepVs.reverse : ∀ {ds : List D} {vs : List V}, RepVs K H ρ ds vs → RepVs K H ρ ds.reverse vs.reverse
  | [], _, h => by unfold RepVs at h; subst h; exact RepVs.nil
  | d :: ds, vs, h => by
    unfold RepVs at h
    obtain ⟨v, r, rfl, q, t⟩ := h
    rw [List.reverse_cons, List.reverse_cons]
    exact RepVs.append (RepVs.reverse t) (RepVs.cons q RepVs.nil)
theorem RepVs.eraseIdx : ∀ {ds : List D} {vs : List V} (i : Nat), RepVs K H ρ ds vs → RepVs K H ρ (ds.eraseIdx i) (vs.eraseIdx i)
  | [], _, _, h => by unfold RepVs at h; subst h; exact RepVs.nil
  | d :: ds, vs, 0, h => by
    unfold RepVs at h
    obtain ⟨v, r, rfl, q, t⟩ := h
    exact t
  | d :: ds, vs, i + 1, h => by
    unfold RepVs at h
    obtain ⟨v, r, rfl, q, t⟩ := h
    exact RepVs.cons q (RepVs.eraseIdx i t)
theorem RepVs.rep {ds : List D} {vs : List V} (h : RepVs K H ρ ds vs) : ∀ k : Nat, RepVs K H ρ (List.replicate k ds).flatten (List.replicate k vs).flatten
  | 0 => by simpa using RepVs.nil
  | k + 1 => by
    rw [List.replicate_succ, List.replicate_succ, List.flatten_cons, List.flatten_cons]
    exact RepVs.append h (RepVs.rep h k)
theorem RepVs.all_ints : ∀ (ns : List Int), RepVs K H ρ (ns.map D.int) (ns.map V.int)
  | [] => RepVs.nil
  | n :: ns => RepVs.cons (by unfold RepV; rfl) (RepVs.all_ints ns)
theorem RepVs.ints_of : ∀ {ns : List Int} {vs : List V}, RepVs K H ρ (ns.map D.int) vs → vs = ns.map V.int
  | [], _, h => by unfold RepVs at h; exact h
  | n :: ns, _, h => by
    unfold RepVs at h
    obtain ⟨v, r, rfl, q, t⟩ := h
    unfold RepV at q
    rw [q, RepVs.ints_of t]; rfl
theorem RepVs.bls_of : ∀ {bs : List Bool} {vs : List V}, RepVs K H ρ (bs.map D.bl) vs → vs = bs.map V.bl
  | [], _, h => by unfold RepVs at h; exact h
  | n :: ns, _, h => by
    unfold RepVs at h
    obtain ⟨v, r, rfl, q, t⟩ := h
    unfold RepV at q
    rw [q, RepVs.bls_of t]; rfl

/-! ## steps of the heap -/
theorem sqt_upd_new {o : HO} {p : Addr} (hp : H p = none) {a : Addr} {xs : List V} (h : SqT K H a xs) : SqT K (upd H p o) a xs := by
  rcases h with h | h
  · rcases h with h | ⟨ob, h⟩
    · exact .inl (.inl (by rw [upd_ne (ne_of_none h hp)]; exact h))
    · exact .inl (.inr ⟨ob, by rw [upd_ne (ne_of_none h hp)]; exact h⟩)
  · exact .inr h
/-- a new thing that is not in the store -/
theorem Ext.new {o : HO} {p : Addr} (hp : H p = none) : Ext K ρ H ρ (upd H p o) :=
  ⟨⟨[], [], by simp, by simp, by simp⟩, fun _ _ h => sqt_upd_new hp h, fun a u h _ => by rw [upd_ne (ne_of_none h hp)]; exact h, fun a h => by
    by_cases e : a = p
    · subst e; rw [upd_same]; simp
    · rw [upd_ne e]; exact h, fun a us h => ⟨us, by rw [upd_ne (ne_of_none h hp)]; exact h⟩, fun a es ep h => ⟨es, ep, by rw [upd_ne (ne_of_none h hp)]; exact h⟩⟩
/-- no tuple -/
def NTup (o : HO) : Prop := (∀ xs, o ≠ .tup xs) ∧ ∀ ob xs, o ≠ .frz ob (.tup xs)
theorem NTup.lst {xs : List V} : NTup (.lst xs) := ⟨fun _ h => (nomatch h), fun _ _ h => (nomatch h)⟩
theorem NTup.ins {C dx : Addr} {us : List (Str × V)} : NTup (.ins C dx us) := ⟨fun _ h => (nomatch h), fun _ _ h => (nomatch h)⟩
theorem NTup.dic {a : Addr} {es : List Ent} {ep : Nat} : NTup (DicT a es ep) := ⟨fun _ h => (nomatch h), fun _ _ h => (nomatch h)⟩
theorem Sim.tracked (s : Sim K ρ S H) {a : Addr} (ha : a ∈ ρ.st) : ∃ o, H a = some o ∧ NTup o := by
  obtain ⟨i, hi, e⟩ := List.getElem_of_mem ha
  have h1 : ρ.st[i]? = some a := by rw [List.getElem?_eq_getElem hi, e]
  have h2 : i < S.length := by rw [← s.len]; exact hi
  have := s.at_ i a S[i] h1 (List.getElem?_eq_getElem h2)
  cases q : S[i] with
  | lst ds =>
    rw [q] at this
    obtain ⟨vs, h, _⟩ := this
    exact ⟨_, h, NTup.lst⟩
  | dic ks vs =>
    rw [q] at this
    obtain ⟨es, ep, h, _⟩ := this
    exact ⟨_, h, NTup.dic⟩
  | fdic ks vs =>
    rw [q] at this
    obtain ⟨es, ep, h, _⟩ := this
    exact ⟨_, h, NTup.dic⟩
  | obj c fs =>
    rw [q] at this
    obtain ⟨dx, us, h, _⟩ := this
    exact ⟨_, h, NTup.ins⟩
theorem Sim.notst (s : Sim K ρ S H) {a : Addr} (h : H a = none) : a ∉ ρ.st := fun z => by
  obtain ⟨o, q, _⟩ := s.tracked z
  rw [h] at q; cases q
theorem Sim.notin (s : Sim K ρ S H) {a : Addr} (h : H a = none) : ¬ ρ.In a := by
  rintro (z | z)
  · exact s.notst h z
  · exact (s.hid a z).1 h
theorem RepD.ext (x : Ext K ρ H ρ' H') {ks vs : List D} {es : List Ent} (h : RepD K H ρ ks vs es) : RepD K H' ρ' ks vs es := ⟨h.1, RepVs.ext x _ _ h.2.1, RepVs.ext x _ _ h.2.2⟩
theorem RepO.ext (x : Ext K ρ H ρ' H') {a : Addr} {o : O} (h : RepO K H ρ a o) (ha : H' a = H a) (hz : a ∈ ρ'.fz → a ∈ ρ.fz) : RepO K H' ρ' a o := by
  cases o with
  | lst ds =>
    obtain ⟨vs, h, r⟩ := h
    exact ⟨vs, by rw [ha]; exact h, RepVs.ext x ds vs r⟩
  | dic ks vs =>
    obtain ⟨es, ep, h, r, z⟩ := h
    exact ⟨es, ep, by rw [ha]; exact h, r.ext x, fun q => z (hz q)⟩
  | fdic ks vs =>
    obtain ⟨es, ep, h, r, z⟩ := h
    exact ⟨es, ep, by rw [ha]; exact h, r.ext x, x.fz z⟩
  | obj c fs =>
    obtain ⟨dx, us, h, e, r⟩ := h
    exact ⟨dx, us, by rw [ha]; exact h, e, RepVs.ext x _ _ r⟩
/-- the store stays over a step that leaves it -/
theorem Sim.ext (s : Sim K ρ S H) (x : Ext K ρ H ρ H') (h : ∀ a ∈ ρ.st, H' a = H a) : Sim K ρ S H' :=
  ⟨s.len, s.nd, fun i a o e1 e2 => RepO.ext x (s.at_ i a o e1 e2) (h a (List.mem_of_getElem? e1)) id, fun a ha => ⟨x.trk a (s.hid a ha).1, (s.hid a ha).2⟩,
    fun a ha => let ⟨es, ep, e⟩ := s.fz a ha; ⟨es, ep, x.old a _ e (.inr ha)⟩⟩
theorem Sim.new (s : Sim K ρ S H) {o : HO} {p : Addr} (hp : H p = none) : Sim K ρ S (upd H p o) :=
  s.ext (Ext.new hp) fun a ha => upd_ne fun e => by
    obtain ⟨vs, q, _⟩ := s.tracked ha
    rw [e, hp] at q; cases q
/-- a list that is not in the store comes into it -/
theorem Ext.take {p : Addr} (hp : H p = none) {H' : Hp} (x : Ext K ρ H ρ H') : Ext K ρ H (ρ.push p) H' :=
  ⟨⟨[p], [], by simp [Rg.push], fun a ha => by rw [List.mem_singleton.mp ha]; exact hp, by simp⟩, x.tup, x.old, x.trk, x.lst, x.dic⟩

/-! ## a thing put out of reach, and back -/
def del (H : Hp) (a : Addr) : Hp := fun b => if b = a then none else H b
theorem del_same {H : Hp} {a : Addr} : del H a a = none := by unfold del; rw [if_pos rfl]
theorem del_ne {H : Hp} {a b : Addr} (h : b ≠ a) : del H a b = H b := by unfold del; rw [if_neg h]
theorem upd_del {H : Hp} {a : Addr} {o : HO} (h : H a = some o) : upd (del H a) a o = H := by
  funext b
  by_cases e : b = a
  · subst e; rw [upd_same, h]
  · rw [upd_ne e, del_ne e]
theorem Rg.notin_hide {ρ : Rg} {a p : Addr} (ne : a ≠ p) (n : ¬ ρ.In a) : ¬ (ρ.hide p).In a := by
  rintro (z | z)
  · exact n (.inl z)
  · rcases List.mem_cons.mp z with z | z
    · exact ne z
    · exact n (.inr z)
theorem Rg.notin_unhide {ρ : Rg} {a p : Addr} (n : ¬ (ρ.hide p).In a) : a ≠ p ∧ ¬ ρ.In a := by
  refine ⟨fun e => n (.inr (by rw [e]; exact List.mem_cons_self)), ?_⟩
  rintro (z | z)
  · exact n (.inl z)
  · exact n (.inr (List.mem_cons_of_mem _ z))
theorem SqN.hide {p : Addr} {o : HO} (hp : H p = none) {a : Addr} {vs : List V} (h : SqN H ρ a vs) : SqN (upd H p o) (ρ.hide p) a vs :=
  have ne : a ≠ p := ne_of_none h.2 hp
  ⟨Rg.notin_hide ne h.1, by rw [upd_ne ne]; exact h.2⟩
theorem SqN.unhide {p : Addr} {a : Addr} {vs : List V} (h : SqN H (ρ.hide p) a vs) : SqN (del H p) ρ a vs :=
  have q := Rg.notin_unhide h.1
  ⟨q.2, by rw [del_ne q.1]; exact h.2⟩
theorem SqS.hide {p : Addr} {o : HO} (hp : H p = none) {a : Addr} {vs : List V} (h : SqS K H ρ a vs) : SqS K (upd H p o) (ρ.hide p) a vs := by
  rcases h with ⟨n, o', h⟩ | h
  · have ne : a ≠ p := ne_of_none h hp
    exact .inl ⟨Rg.notin_hide ne n, o', by rw [upd_ne ne]; exact h⟩
  · exact .inr h
theorem SqS.unhide {p : Addr} {a : Addr} {vs : List V} (h : SqS K H (ρ.hide p) a vs) : SqS K (del H p) ρ a vs := by
  rcases h with ⟨n, o', h⟩ | h
  · have q := Rg.notin_unhide n
    exact .inl ⟨q.2, o', by rw [del_ne q.1]; exact h⟩
  · exact .inr h
theorem SqK.hide {p : Addr} {o : HO} (hp : H p = none) {a : Addr} {vs : List V} (h : SqK H ρ a vs) : SqK (upd H p o) (ρ.hide p) a vs := by
  obtain ⟨n, o', h, d⟩ := h
  have ne : a ≠ p := ne_of_none h hp
  exact ⟨Rg.notin_hide ne n, o', by rw [upd_ne ne]; exact h, d⟩
theorem SqK.unhide {p : Addr} {a : Addr} {vs : List V} (h : SqK H (ρ.hide p) a vs) : SqK (del H p) ρ a vs := by
  obtain ⟨n, o', h, d⟩ := h
  have q := Rg.notin_unhide n
  exact ⟨q.2, o', by rw [del_ne q.1]; exact h, d⟩
mutual
theorem RepV.hide {p : Addr} {o : HO} (hp : H p = none) : ∀ (d : D) (v : V), RepV K H ρ d v → RepV K (upd H p o) (ρ.hide p) d v
  | .non, _, h => by unfold RepV at *; exact h
  | .bl _, _, h => by unfold RepV at *; exact h
  | .int _, _, h => by unfold RepV at *; exact h
  | .str _, _, h => by unfold RepV at *; exact h
  | .tup ds, v, h => by
    unfold RepV at *
    obtain ⟨a, vs, e, q, r⟩ := h
    exact ⟨a, vs, e, sqt_upd_new hp q, RepVs.hide hp ds vs r⟩
  | .new ds, v, h => by
    unfold RepV at *
    obtain ⟨a, vs, e, q, r⟩ := h
    exact ⟨a, vs, e, q.hide hp, RepVs.hide hp ds vs r⟩
  | .scr ds, v, h => by
    unfold RepV at *
    obtain ⟨a, vs, e, q, r⟩ := h
    exact ⟨a, vs, e, q.hide hp, RepVs.hide hp ds vs r⟩
  | .ktp ds, v, h => by
    unfold RepV at *
    obtain ⟨a, vs, e, q, r⟩ := h
    exact ⟨a, vs, e, q.hide hp, RepVs.hide hp ds vs r⟩
  | .ref n, v, h => by
    unfold RepV at *
    obtain ⟨a, e, q, us, hu⟩ := h
    exact ⟨a, e, q, us, by rw [upd_ne (ne_of_none hu hp)]; exact hu⟩
  | .rdc n, v, h => by
    unfold RepV at *
    obtain ⟨a, e, q, es, ep, hu⟩ := h
    exact ⟨a, e, q, es, ep, by rw [upd_ne (ne_of_none hu hp)]; exact hu⟩
  | .obj n, v, h => by unfold RepV at *; exact h
  | .exn c, v, h => by
    unfold RepV at *
    obtain ⟨a, d, e, n, q, r⟩ := h
    have ne := ne_of_none q hp
    refine ⟨a, d, e, Rg.notin_hide ne n, by rw [upd_ne ne]; exact q, fun dd ed => ?_⟩
    obtain ⟨n2, fs, q2⟩ := r dd ed
    have ne2 := ne_of_none q2 hp
    exact ⟨Rg.notin_hide ne2 n2, fs, by rw [upd_ne ne2]; exact q2⟩
  | .dic ks vs, v, h => by
    unfold RepV at *
    obtain ⟨a, es, ep, e, ⟨n, q⟩, hk, r1, r2⟩ := h
    have ne := ne_of_none q hp
    exact ⟨a, es, ep, e, ⟨Rg.notin_hide ne n, by rw [upd_ne ne]; exact q⟩, hk, RepVs.hide hp ks _ r1, RepVs.hide hp vs _ r2⟩
theorem RepVs.hide {p : Addr} {o : HO} (hp : H p = none) : ∀ (ds : List D) (vs : List V), RepVs K H ρ ds vs → RepVs K (upd H p o) (ρ.hide p) ds vs
  | [], _, h => by unfold RepVs at *; exact h
  | d :: ds, vs, h => by
    unfold RepVs at *
    obtain ⟨v, r, e, q, t⟩ := h
    exact ⟨v, r, e, RepV.hide hp d v q, RepVs.hide hp ds r t⟩
end
theorem sqt_del {p : Addr} {us : HO} (hp : H p = some us) (hu : NTup us) {a : Addr} {xs : List V} (h : SqT K H a xs) : SqT K (del H p) a xs := by
  rcases h with h | h
  · have ne : a ≠ p := by
      rcases h with h | ⟨_, h⟩
      · intro e; rw [e, hp] at h; exact hu.1 _ (Option.some.inj h)
      · intro e; rw [e, hp] at h; exact hu.2 _ _ (Option.some.inj h)
    rcases h with h | ⟨ob, h⟩
    · exact .inl (.inl (by rw [del_ne ne]; exact h))
    · exact .inl (.inr ⟨ob, by rw [del_ne ne]; exact h⟩)
  · exact .inr h
mutual
theorem RepV.unhide {p : Addr} {us : HO} (hp : H p = some us) (hu : NTup us) (hn : p ∉ ρ.st) : ∀ (d : D) (v : V), RepV K H (ρ.hide p) d v → RepV K (del H p) ρ d v
  | .non, _, h => by unfold RepV at *; exact h
  | .bl _, _, h => by unfold RepV at *; exact h
  | .int _, _, h => by unfold RepV at *; exact h
  | .str _, _, h => by unfold RepV at *; exact h
  | .tup ds, v, h => by
    unfold RepV at *
    obtain ⟨a, vs, e, q, r⟩ := h
    exact ⟨a, vs, e, sqt_del hp hu q, RepVs.unhide hp hu hn ds vs r⟩
  | .new ds, v, h => by
    unfold RepV at *
    obtain ⟨a, vs, e, q, r⟩ := h
    exact ⟨a, vs, e, q.unhide, RepVs.unhide hp hu hn ds vs r⟩
  | .scr ds, v, h => by
    unfold RepV at *
    obtain ⟨a, vs, e, q, r⟩ := h
    exact ⟨a, vs, e, q.unhide, RepVs.unhide hp hu hn ds vs r⟩
  | .ktp ds, v, h => by
    unfold RepV at *
    obtain ⟨a, vs, e, q, r⟩ := h
    exact ⟨a, vs, e, q.unhide, RepVs.unhide hp hu hn ds vs r⟩
  | .ref n, v, h => by
    unfold RepV at *
    obtain ⟨a, e, q, us, hv⟩ := h
    exact ⟨a, e, q, us, by rw [del_ne (fun z => hn (by rw [← z]; exact List.mem_of_getElem? q))]; exact hv⟩
  | .rdc n, v, h => by
    unfold RepV at *
    obtain ⟨a, e, q, es, ep, hv⟩ := h
    exact ⟨a, e, q, es, ep, by rw [del_ne (fun z => hn (by rw [← z]; exact List.mem_of_getElem? q))]; exact hv⟩
  | .obj n, v, h => by unfold RepV at *; exact h
  | .exn c, v, h => by
    unfold RepV at *
    obtain ⟨a, d, e, n, q, r⟩ := h
    have z := Rg.notin_unhide n
    refine ⟨a, d, e, z.2, by rw [del_ne z.1]; exact q, fun dd ed => ?_⟩
    obtain ⟨n2, fs, q2⟩ := r dd ed
    have z2 := Rg.notin_unhide n2
    exact ⟨z2.2, fs, by rw [del_ne z2.1]; exact q2⟩
  | .dic ks vs, v, h => by
    unfold RepV at *
    obtain ⟨a, es, ep, e, ⟨n, q⟩, hk, r1, r2⟩ := h
    have z := Rg.notin_unhide n
    exact ⟨a, es, ep, e, ⟨z.2, by rw [del_ne z.1]; exact q⟩, hk, RepVs.unhide hp hu hn ks _ r1, RepVs.unhide hp hu hn vs _ r2⟩
theorem RepVs.unhide {p : Addr} {us : HO} (hp : H p = some us) (hu : NTup us) (hn : p ∉ ρ.st) : ∀ (ds : List D) (vs : List V), RepVs K H (ρ.hide p) ds vs → RepVs K (del H p) ρ ds vs
  | [], _, h => by unfold RepVs at *; exact h
  | d :: ds, vs, h => by
    unfold RepVs at *
    obtain ⟨v, r, e, q, t⟩ := h
    exact ⟨v, r, e, RepV.unhide hp hu hn d v q, RepVs.unhide hp hu hn ds r t⟩
end
theorem RepSt.hide {p : Addr} {o : HO} (hp : H p = none) (h : RepSt K H ρ σ env) : RepSt K (upd H p o) (ρ.hide p) σ env :=
  ⟨h.1, fun i d e => let ⟨v, q, r⟩ := h.2 i d e; ⟨v, q, RepV.hide hp d v r⟩⟩
theorem RepSt.unhide {p : Addr} {us : HO} (hp : H p = some us) (hu : NTup us) (hn : p ∉ ρ.st) (h : RepSt K H (ρ.hide p) σ env) : RepSt K (del H p) ρ σ env :=
  ⟨h.1, fun i d e => let ⟨v, q, r⟩ := h.2 i d e; ⟨v, q, RepV.unhide hp hu hn d v r⟩⟩
theorem RepD.hide {p : Addr} {o : HO} (hp : H p = none) {ks vs : List D} {es : List Ent} (h : RepD K H ρ ks vs es) : RepD K (upd H p o) (ρ.hide p) ks vs es := ⟨h.1, RepVs.hide hp _ _ h.2.1, RepVs.hide hp _ _ h.2.2⟩
theorem RepD.unhide {p : Addr} {us : HO} (hp : H p = some us) (hu : NTup us) (hn : p ∉ ρ.st) {ks vs : List D} {es : List Ent} (h : RepD K H (ρ.hide p) ks vs es) : RepD K (del H p) ρ ks vs es := ⟨h.1, RepVs.unhide hp hu hn _ _ h.2.1, RepVs.unhide hp hu hn _ _ h.2.2⟩
theorem Sim.hide {p : Addr} {o : HO} (s : Sim K ρ S H) (hp : H p = none) : Sim K (ρ.hide p) S (upd H p o) := by
  refine ⟨s.len, s.nd, fun i a ob e1 e2 => ?_, fun a ha => ?_, fun a ha => ?_⟩
  · have h := s.at_ i a ob e1 e2
    cases ob with
    | lst ds =>
      obtain ⟨vs, h, r⟩ := h
      exact ⟨vs, by rw [upd_ne (ne_of_none h hp)]; exact h, RepVs.hide hp _ _ r⟩
    | dic ks vs =>
      obtain ⟨es, ep, h, r, z⟩ := h
      exact ⟨es, ep, by rw [upd_ne (ne_of_none h hp)]; exact h, r.hide hp, z⟩
    | fdic ks vs =>
      obtain ⟨es, ep, h, r, z⟩ := h
      exact ⟨es, ep, by rw [upd_ne (ne_of_none h hp)]; exact h, r.hide hp, z⟩
    | obj c fs =>
      obtain ⟨dx, us, h, e, r⟩ := h
      exact ⟨dx, us, by rw [upd_ne (ne_of_none h hp)]; exact h, e, RepVs.hide hp _ _ r⟩
  · rcases List.mem_cons.mp ha with z | z
    · subst z; exact ⟨by rw [upd_same]; simp, s.notst hp⟩
    · obtain ⟨q1, q2⟩ := s.hid a z
      refine ⟨?_, q2⟩
      by_cases e : a = p
      · subst e; rw [upd_same]; simp
      · rw [upd_ne e]; exact q1
  · obtain ⟨es, ep, h⟩ := s.fz a ha
    exact ⟨es, ep, by rw [upd_ne (ne_of_none h hp)]; exact h⟩
theorem Sim.unhide {p : Addr} {us : HO} (s : Sim K (ρ.hide p) S H) (hp : H p = some us) (hu : NTup us) (hq : p ∉ ρ.hid) (hz : p ∉ ρ.fz) : Sim K ρ S (del H p) := by
  have np : p ∉ ρ.st := (s.hid p List.mem_cons_self).2
  refine ⟨s.len, s.nd, fun i a ob e1 e2 => ?_, fun a ha => ?_, fun a ha => ?_⟩
  · have h := s.at_ i a ob e1 e2
    have ne : a ≠ p := fun e => np (by rw [← e]; exact List.mem_of_getElem? e1)
    cases ob with
    | lst ds =>
      obtain ⟨vs, h, r⟩ := h
      exact ⟨vs, by rw [del_ne ne]; exact h, RepVs.unhide hp hu np _ _ r⟩
    | dic ks vs =>
      obtain ⟨es, ep, h, r, z⟩ := h
      exact ⟨es, ep, by rw [del_ne ne]; exact h, r.unhide hp hu np, z⟩
    | fdic ks vs =>
      obtain ⟨es, ep, h, r, z⟩ := h
      exact ⟨es, ep, by rw [del_ne ne]; exact h, r.unhide hp hu np, z⟩
    | obj c fs =>
      obtain ⟨dx, us, h, e, r⟩ := h
      exact ⟨dx, us, by rw [del_ne ne]; exact h, e, RepVs.unhide hp hu np _ _ r⟩
  · obtain ⟨q1, q2⟩ := s.hid a (List.mem_cons_of_mem _ ha)
    have ne : a ≠ p := fun e => by subst e; exact hq ha
    exact ⟨by rw [del_ne ne]; exact q1, q2⟩
  · obtain ⟨es, ep, h⟩ := s.fz a ha
    have ne : a ≠ p := fun e => by subst e; exact hz ha
    exact ⟨es, ep, by rw [del_ne ne]; exact h⟩
theorem Ext.unhide {p : Addr} {us us' : HO} {ρ₀ : Rg} {H₀ : Hp} (h0 : H₀ p = none) (x : Ext K (ρ₀.hide p) (upd H₀ p us) ρ' H') (hp : H' p = some us') (hu : NTup us') :
    ∃ ρ1, ρ' = ρ1.hide p ∧ Ext K ρ₀ H₀ ρ1 (del H' p) := by
  obtain ⟨e, f, rfl, he, hf⟩ := id x.pre
  refine ⟨⟨ρ₀.st ++ e, ρ₀.hid, ρ₀.fz ++ f⟩, rfl, ⟨e, f, rfl, fun a ha => ?_, fun a ha => (hf a ha).imp id fun q => ?_⟩, fun a xs h => sqt_del hp hu (x.tup a xs (sqt_upd_new h0 h)), fun a o h n => ?_, fun a h => ?_, fun a us h => ?_, fun a es ep h => ?_⟩
  · have q := he a ha
    by_cases z : a = p
    · subst z; exact h0
    · rw [upd_ne z] at q; exact q
  · by_cases z : a = p
    · subst z; exact h0
    · rw [upd_ne z] at q; exact q
  · have z : a ≠ p := ne_of_none h h0
    rw [del_ne z]
    exact x.old a o (by rw [upd_ne z]; exact h) n
  · by_cases z : a = p
    · subst z; exact absurd h0 h
    · rw [del_ne z]
      exact x.trk a (by rw [upd_ne z]; exact h)
  · have z : a ≠ p := ne_of_none h h0
    rw [del_ne z]
    exact x.lst a us (by rw [upd_ne z]; exact h)
  · have z : a ≠ p := ne_of_none h h0
    rw [del_ne z]
    exact x.dic a es ep (by rw [upd_ne z]; exact h)
end
end J

namespace J
open PySem PySem.Spec PyProof.Rows L2

/-! ## judgements -/
def RepX (K : PySem.W.Frag) (mg : Str → Option Value) (H : Hp) (ρ : Rg) (x : Exn) (cls : Value) (dd : Option Addr) : Prop :=
  mg x.cls = some cls ∧ match dd with
    | none => x.fs = []
    | some a => ¬ ρ.In a ∧ ∃ fs : List (Str × V), H a = some (.xd fs) ∧ x.fs.map (·.1) = fs.map (·.1) ∧ RepVs K H ρ (x.fs.map (·.2)) (fs.map (·.2))

abbrev XW := Value → Option Addr → Hp → Prop
def Post {α β : Type} (K : PySem.W.Frag) (mg : Str → Option Value) (rep : Hp → Rg → α → β → Prop) (W : XW) (ρ : Rg) (H : Hp) (r : R α) (Q : β → Hp → Prop) : Prop :=
  match r with
  | .ok d S' => ∀ v H' ρ', Ext K ρ H ρ' H' → Sim K ρ' S' H' → rep H' ρ' d v → Q v H'
  | .exc x S' => ∀ cls dd H' ρ', Ext K ρ H ρ' H' → Sim K ρ' S' H' → RepX K mg H' ρ' x cls dd → W cls dd H'
  | .bad => False

def tG {α β : Type} (K : PySem.W.Frag) (mg : Str → Option Value) (rep : Hp → Rg → α → β → Prop) (W : WX) (f : Env → Sto → R α) : L2.St → Hp → (β → Hp → Prop) → Prop :=
  fun σ H Q => ∃ env ρ S, RepSt K H ρ σ env ∧ Sim K ρ S H ∧ Post K mg rep (fun c d H' => W c d σ H') ρ H (f env S) Q

def eqR {α : Type} : Hp → Rg → α → α → Prop := fun _ _ a b => a = b

def DE (X : Cx) (W : WX) (e : Expr) (f : CE) : Prop := PE X e (tG X.K X.mg (RepV X.K) W f)
def DT (X : Cx) (W : WX) (e : Expr) (f : CT) : Prop := PT X e (tG X.K X.mg eqR W f)
def DW (X : Cx) (W : WX) (e : Expr) (f : CT) : Prop := PW X e (tG X.K X.mg eqR W f)
def DA (X : Cx) (W : WX) (es : List Expr) (f : CA) : Prop := PA X es (tG X.K X.mg (RepVs X.K) W f)

section
variable {K : PySem.W.Frag} {mg : Str → Option Value} {α β γ δ : Type} {rep : Hp → Rg → α → β → Prop} {rep' : Hp → Rg → γ → δ → Prop} {W : WX} {w : XW} {ρ ρ1 : Rg} {H H1 : Hp} {σ : L2.St}
theorem Post.mono {r : R α} {Q Q' : β → Hp → Prop} (h : Post K mg rep w ρ H r Q) (q : ∀ v H', Q v H' → Q' v H') : Post K mg rep w ρ H r Q' := by
  cases r with
  | ok d S => exact fun v H' ρ' x s p => q _ _ (h v H' ρ' x s p)
  | exc x S => exact h
  | bad => exact h
theorem Post.ext {r : R α} {Q : β → Hp → Prop} (x : Ext K ρ H ρ1 H1) (h : Post K mg rep w ρ H r Q) : Post K mg rep w ρ1 H1 r Q := by
  cases r with
  | ok d S => exact fun v H' ρ' y s p => h v H' ρ' (x.trans y) s p
  | exc e S => exact fun v dd H' ρ' y s p => h v dd H' ρ' (x.trans y) s p
  | bad => exact h
theorem tG.mono {f : Env → Sto → R α} {Q Q' : β → Hp → Prop} (h : tG K mg rep W f σ H Q) (q : ∀ v H', Q v H' → Q' v H') : tG K mg rep W f σ H Q' := by
  obtain ⟨env, ρ, S, a, b, c⟩ := h
  exact ⟨env, ρ, S, a, b, c.mono q⟩
/-- one behind the other -/
theorem Post.bind {r : R α} {g : α → Sto → R γ} {Q : δ → Hp → Prop} (h : Post K mg rep' w ρ H (r.bind g) Q) :
    Post K mg rep w ρ H r (fun v H1 => ∃ ρ1 S1 a, Ext K ρ H ρ1 H1 ∧ Sim K ρ1 S1 H1 ∧ rep H1 ρ1 a v ∧ Post K mg rep' w ρ1 H1 (g a S1) Q) := by
  cases r with
  | ok a S => exact fun v H1 ρ1 x s p => ⟨ρ1, S, a, x, s, p, Post.ext x h⟩
  | exc e S => exact h
  | bad => exact h
theorem PE.mono {X : Cx} {e : Expr} {t t' : TE} (h : PE X e t) (q : ∀ σ H Q, t' σ H Q → t σ H Q) : PE X e t' := ⟨fun pins s σ H Q I z => h.run pins s σ H Q I (q _ _ _ z)⟩
theorem PT.mono {X : Cx} {e : Expr} {t t' : TT} (h : PT X e t) (q : ∀ σ H Q, t' σ H Q → t σ H Q) : PT X e t' := ⟨fun pins s σ H Q I z => h.run pins s σ H Q I (q _ _ _ z)⟩
theorem PW.mono {X : Cx} {e : Expr} {t t' : TT} (h : PW X e t) (q : ∀ σ H Q, t' σ H Q → t σ H Q) : PW X e t' := ⟨fun wh pins s σ H Q I z => h.run wh pins s σ H Q I (q _ _ _ z)⟩
theorem PA.mono {X : Cx} {es : List Expr} {t t' : TA} (h : PA X es t) (q : ∀ σ H Q, t' σ H Q → t σ H Q) : PA X es t' := ⟨fun pos pins s σ H Q I z => h.run pos pins s σ H Q I (q _ _ _ z)⟩
theorem PS.mono {X : Cx} {e : Stmt} {t t' : TS} (h : PS X e t) (q : ∀ D σ H, t' D σ H → t D σ H) : PS X e t' := ⟨fun pins s σ H D I z => h.run pins s σ H D I (q _ _ _ z)⟩
theorem PSs.mono {X : Cx} {e : List Stmt} {t t' : TS} (h : PSs X e t) (q : ∀ D σ H, t' D σ H → t D σ H) : PSs X e t' := ⟨fun pins s σ H D I z => h.run pins s σ H D I (q _ _ _ z)⟩
/-- here and now, at known slots -/
theorem tG.of {f : Env → Sto → R α} {Q : β → Hp → Prop} {env : Env} {S : Sto} (a : RepSt K H ρ σ env) (b : Sim K ρ S H) (c : Post K mg rep (fun c d H' => W c d σ H') ρ H (f env S) Q) : tG K mg rep W f σ H Q := ⟨env, ρ, S, a, b, c⟩
/-- the value is there -/
theorem Post.ret {d : α} {S : Sto} {v : β} {Q : β → Hp → Prop} (h : Post K mg rep w ρ H (.ok d S) Q) (s : Sim K ρ S H) (r : rep H ρ d v) : Q v H := h v H ρ Ext.refl s r
/-- .. behind a new thing -/
theorem Post.retN {d : α} {S : Sto} {v : β} {Q : β → Hp → Prop} {p : Addr} {o : HO} (h : Post K mg rep w ρ H (.ok d S) Q) (s : Sim K ρ S H) (hp : H p = none) (r : rep (upd H p o) ρ d v) : Q v (upd H p o) :=
  h v _ ρ (Ext.new hp) (s.new hp) r
end

/-! ## expressions -/
def eVar (i : Nat) : CE := fun env S => match env[i]? with | some (some d) => .ok d S | _ => .bad
def eC (d : D) : CE := fun _ S => .ok d S
/-- two, then an operation -/
def eOp (g : D → D → Sto → R D) (a b : CE) : CE := fun env S => (a env S).bind fun x S => (b env S).bind fun y S => g x y S
def eUn (g : D → Sto → R D) (a : CE) : CE := fun env S => (a env S).bind fun x S => g x S
def aNil : CA := fun _ S => .ok [] S
def aCons (a : CE) (r : CA) : CA := fun env S => (a env S).bind fun x S => (r env S).bind fun xs S => .ok (x :: xs) S
/-- a call by values -/
def eCall (F : List D → Sto → R D) (a : CA) : CE := fun env S => (a env S).bind fun xs S => F xs S

/-- what an operation on values promises -/
def Op2 (K : PySem.W.Frag) (mg : Str → Option Value) (r : R2) (g : D → D → Sto → R D) : Prop :=
  ∀ (H : Hp) (ρ : Rg) (S : Sto) (a b : D) (x y : V) (w : XW) (Q : VK), Sim K ρ S H → RepV K H ρ a x → RepV K H ρ b y → Post K mg (RepV K) w ρ H (g a b S) Q → r x y H Q
def Op1 (K : PySem.W.Frag) (mg : Str → Option Value) (r : V → Hp → VK → Prop) (g : D → Sto → R D) : Prop :=
  ∀ (H : Hp) (ρ : Rg) (S : Sto) (a : D) (x : V) (w : XW) (Q : VK), Sim K ρ S H → RepV K H ρ a x → Post K mg (RepV K) w ρ H (g a S) Q → r x H Q
def OpN (K : PySem.W.Frag) (mg : Str → Option Value) (r : List V → Hp → VK → Prop) (g : List D → Sto → R D) : Prop :=
  ∀ (H : Hp) (ρ : Rg) (S : Sto) (as : List D) (xs : List V) (w : XW) (Q : VK), Sim K ρ S H → RepVs K H ρ as xs → Post K mg (RepV K) w ρ H (g as S) Q → r xs H Q
def OpM (K : PySem.W.Frag) (mg : Str → Option Value) (r : V → List V → Hp → VK → Prop) (g : D → List D → Sto → R D) : Prop :=
  ∀ (H : Hp) (ρ : Rg) (S : Sto) (a : D) (as : List D) (x : V) (xs : List V) (w : XW) (Q : VK), Sim K ρ S H → RepV K H ρ a x → RepVs K H ρ as xs → Post K mg (RepV K) w ρ H (g a as S) Q → r x xs H Q

section
variable {X : Cx} {W : WX} {a b c : Expr} {fa fb fc : CE} {pos : Pos}
theorem DE.of {e : Expr} {t : TE} {f : CE} (h : PE X e t) (q : ∀ σ H Q env ρ S, RepSt X.K H ρ σ env → Sim X.K ρ S H → Post X.K X.mg (RepV X.K) (fun c d H' => W c d σ H') ρ H (f env S) Q → t σ H Q) : DE X W e f :=
  PE.mono h fun σ H Q ⟨env, ρ, S, a, b, c⟩ => q σ H Q env ρ S a b c
theorem de_var {i : Nat} {e : Expr} (h : PE X e (tVar i)) : DE X W e (eVar i) := DE.of h fun σ H Q env ρ S a b c => by
  unfold eVar at c
  cases q : env[i]? with
  | none => rw [q] at c; exact c.elim
  | some o =>
    cases o with
    | none => rw [q] at c; exact c.elim
    | some d =>
      rw [q] at c
      obtain ⟨v, e1, e2⟩ := a.2 i d q
      exact ⟨v, e1, c.ret b e2⟩
theorem de_c {e : Expr} {v : V} {d : D} (h : PE X e (tC v)) (r : ∀ H ρ, RepV X.K H ρ d v) : DE X W e (eC d) := DE.of h fun σ H Q env ρ S a b c => c.ret b (r _ _)
theorem de_int {i j} : DE X W (.Constant (.int i) j pos) (eC (.int i)) := de_c pe_int fun _ _ => by unfold RepV; rfl
theorem de_bl {i j} : DE X W (.Constant (.bool i) j pos) (eC (.bl i)) := de_c pe_bl fun _ _ => by unfold RepV; rfl
/-- a binary reading -/
theorem de_tOp {e : Expr} {r : R2} {g : D → D → Sto → R D} {ta tb : TE} (h : PE X e (tOp r (tG X.K X.mg (RepV X.K) W fa) (tG X.K X.mg (RepV X.K) W fb))) (o : Op2 X.K X.mg r g) : DE X W e (eOp g fa fb) :=
  DE.of h fun σ H Q env ρ S a b c => by
    refine tG.of a b ((Post.bind (rep := RepV X.K) c).mono fun x H1 ⟨ρ1, S1, d1, x1, s1, r1, c1⟩ => ?_)
    refine tG.of (a.ext x1) s1 ((Post.bind (rep := RepV X.K) c1).mono fun y H2 ⟨ρ2, S2, d2, x2, s2, r2, c2⟩ => ?_)
    exact o H2 ρ2 S2 d1 d2 x y _ Q s2 (RepV.ext x2 _ _ r1) r2 c2
theorem de_op {op : Operator} {r : R2} {g : D → D → Sto → R D} (ho : OpR X (binaryOp op) r) (o : Op2 X.K X.mg r g) (ha : DE X W a fa) (hb : DE X W b fb) : DE X W (.BinOp a op b pos) (eOp g fa fb) :=
  de_tOp (ta := fun _ _ _ => True) (tb := fun _ _ _ => True) (pe_op ho ha hb) o
theorem de_cmp {op : CmpOp} {r : R2} {g : D → D → Sto → R D} (ho : OpR X (compareOp op) r) (o : Op2 X.K X.mg r g) (ha : DE X W a fa) (hb : DE X W b fb) (hm : behindInMarks op b = false) : DE X W (.Compare a [op] [b] pos) (eOp g fa fb) :=
  de_tOp (ta := fun _ _ _ => True) (tb := fun _ _ _ => True) (pe_cmpR ho ha hb hm) o
theorem de_ix {r : R2} {g : D → D → Sto → R D} (hr : IxR X r) (o : Op2 X.K X.mg r g) (ha : DE X W a fa) (hb : DE X W b fb) (hs : PlainIx b) : DE X W (.Subscript a b pos) (eOp g fa fb) :=
  de_tOp (ta := fun _ _ _ => True) (tb := fun _ _ _ => True) (pe_ix hr ha hb hs) o
theorem de_un {op : UnaryOp} {r : V → Hp → VK → Prop} {g : D → Sto → R D} (ho : UnR X (unaryOp op) r) (o : Op1 X.K X.mg r g) (ha : DE X W a fa) : DE X W (.UnaryOp op a pos) (eUn g fa) :=
  DE.of (pe_un ho ha) fun σ H Q env ρ S a b c => tG.of a b ((Post.bind (rep := RepV X.K) c).mono fun x H1 ⟨ρ1, S1, d1, x1, s1, r1, c1⟩ => o H1 ρ1 S1 d1 x _ Q s1 r1 c1)

/-! ### argument lists -/
theorem da_nil : DA X W [] aNil := PA.mono pa_nil fun σ H Q ⟨env, ρ, S, a, b, c⟩ => c.ret b RepVs.nil
theorem da_cons {e : Expr} {es : List Expr} {f : CE} {g : CA} (ha : DE X W e f) (hr : DA X W es g) (hs : starEach (e :: es) X.env = (false, eval e X.env) :: starEach es X.env := by rfl) : DA X W (e :: es) (aCons f g) :=
  PA.mono (pa_cons ha hr hs) fun σ H Q ⟨env, ρ, S, a, b, c⟩ => by
    refine tG.of a b ((Post.bind (rep := RepV X.K) c).mono fun x H1 ⟨ρ1, S1, d1, x1, s1, r1, c1⟩ => ?_)
    refine tG.of (a.ext x1) s1 ((Post.bind (rep := RepVs X.K) c1).mono fun y H2 ⟨ρ2, S2, d2, x2, s2, r2, c2⟩ => ?_)
    exact c2.ret s2 (RepVs.cons (RepV.ext x2 _ _ r1) r2)
/-- a tuple -/
def sLim : Nat := sizeLine
def gTupD (xs : List D) (S : Sto) : R D := if xs.length ≤ sLim then .ok (.tup xs) S else .bad
def eTup (a : CA) : CE := eCall gTupD a
theorem de_tup {es : List Expr} {f : CA} {x1} (h : DA X W es f) : DE X W (.Tuple es x1 pos) (eTup f) :=
  DE.of (pe_tup h) fun σ H Q env ρ S a b c => by
    refine tG.of a b ((Post.bind (rep := RepVs X.K) c).mono fun xs H1 ⟨ρ1, S1, d1, x1, s1, r1, c1⟩ => ?_)
    unfold gTupD at c1
    split at c1
    · rename_i hl
      refine ⟨by rw [RepVs.length r1]; exact hl, fun p hp => ?_⟩
      exact c1.retN s1 hp (by unfold RepV; exact ⟨p, xs, rfl, .inl (.inl upd_same), RepVs.ext (Ext.new hp) _ _ r1⟩)
    · exact c1.elim
/-- f(..) of a built-in function, of a built-in type -/
theorem de_tCB {e : Expr} {r : List V → Hp → VK → Prop} {g : List D → Sto → R D} {f : CA} (h : PE X e (tCB r (tG X.K X.mg (RepVs X.K) W f))) (o : OpN X.K X.mg r g) : DE X W e (eCall g f) :=
  DE.of h fun σ H Q env ρ S a b c => tG.of a b ((Post.bind (rep := RepVs X.K) c).mono fun xs H1 ⟨ρ1, S1, d1, x1, s1, r1, c1⟩ => o H1 ρ1 S1 d1 xs _ Q s1 r1 c1)
end
end J

namespace J
open PySem PySem.Spec PyProof.Rows L2

/-! ## tests -/
def toB (d : D) (S : Sto) : R Bool := match d with | .bl b => .ok b S | _ => .bad
def tBool (f : CE) : CT := fun env S => (f env S).bind toB
def tAndD (a b : CT) : CT := fun env S => (a env S).bind fun x S => if x = true then b env S else .ok false S
def tOrD (a b : CT) : CT := fun env S => (a env S).bind fun x S => if x = true then .ok true S else b env S
def tNotD (a : CT) : CT := fun env S => (a env S).bind fun x S => .ok (!x) S
def eAnd (a b : CE) : CE := fun env S => (a env S).bind fun x S => (toB x S).bind fun c S => if c = true then b env S else .ok (.bl false) S
def eOr (a b : CE) : CE := fun env S => (a env S).bind fun x S => (toB x S).bind fun c S => if c = true then .ok (.bl true) S else b env S
def eNot (a : CE) : CE := fun env S => (a env S).bind fun x S => (toB x S).bind fun c S => .ok (.bl (!c)) S
def eIf (t : CT) (a b : CE) : CE := fun env S => (t env S).bind fun c S => if c = true then a env S else b env S
/-- x op y op' z -/
def eChain (g g' : D → D → Sto → R D) (a b c : CE) : CE := fun env S => (a env S).bind fun x S => (b env S).bind fun y S => (g x y S).bind fun r S => (toB r S).bind fun k S =>
  if k = true then (c env S).bind fun z S => g' y z S else .ok (.bl false) S

section
variable {X : Cx} {W : WX} {a b c : Expr} {fa fb fc : CE} {ta tb : CT} {pos : Pos} {rest : List Expr}
theorem DT.of {e : Expr} {t : TT} {f : CT} (h : PT X e t) (q : ∀ σ H Q env ρ S, RepSt X.K H ρ σ env → Sim X.K ρ S H → Post X.K X.mg eqR (fun c d H' => W c d σ H') ρ H (f env S) Q → t σ H Q) : DT X W e f :=
  PT.mono h fun σ H Q ⟨env, ρ, S, a, b, c⟩ => q σ H Q env ρ S a b c
theorem DW.of {e : Expr} {t : TT} {f : CT} (h : PW X e t) (q : ∀ σ H Q env ρ S, RepSt X.K H ρ σ env → Sim X.K ρ S H → Post X.K X.mg eqR (fun c d H' => W c d σ H') ρ H (f env S) Q → t σ H Q) : DW X W e f :=
  PW.mono h fun σ H Q ⟨env, ρ, S, a, b, c⟩ => q σ H Q env ρ S a b c
theorem toB_cases {K : PySem.W.Frag} {mg : Str → Option Value} {w : XW} {ρ : Rg} {H : Hp} {d : D} {S : Sto} {v : V} {α β : Type} {rep : Hp → Rg → α → β → Prop} {g : Bool → Sto → R α} {Q : β → Hp → Prop}
    (r : RepV K H ρ d v) (c : Post K mg rep w ρ H ((toB d S).bind g) Q) : ∃ k, v = .bl k ∧ Post K mg rep w ρ H (g k S) Q := by
  cases d with
  | bl k => unfold RepV at r; exact ⟨k, r, c⟩
  | non => exact c.elim
  | int _ => exact c.elim
  | str _ => exact c.elim
  | tup _ => exact c.elim
  | new _ => exact c.elim
  | scr _ => exact c.elim
  | ref _ => exact c.elim
  | exn _ => exact c.elim
  | dic _ _ => exact c.elim
  | rdc _ => exact c.elim
  | obj _ => exact c.elim
  | ktp _ => exact c.elim
theorem R.bind_self {α : Type} (r : R α) : r.bind (fun a S => .ok a S) = r := by cases r <;> rfl
/-- a reading of a value as a test -/
theorem dt_tTest {e : Expr} (h : PT X e (tTest (tG X.K X.mg (RepV X.K) W fa))) : DT X W e (tBool fa) :=
  DT.of h fun σ H Q env ρ S a b c => by
    refine tG.of a b ((Post.bind (rep := RepV X.K) c).mono fun x H1 ⟨ρ1, S1, d1, x1, s1, r1, c1⟩ => ?_)
    rw [← R.bind_self (toB d1 S1)] at c1
    obtain ⟨k, e, c2⟩ := toB_cases r1 c1
    exact ⟨k, e, c2.ret s1 rfl⟩
theorem dt_val (h : DE X W a fa) (he : ∀ whole, isTrue a X.env whole = (do let v ← whole; standAt a.pos; holding [v] (truthy v)) := by intro _; rfl) : DT X W a (tBool fa) := dt_tTest (pt_val h he)
theorem tOp_of {r : R2} {g : D → D → Sto → R D} (o : Op2 X.K X.mg r g) {σ : L2.St} {H : Hp} {Q : VK} {env : Env} {ρ : Rg} {S : Sto} (a : RepSt X.K H ρ σ env) (b : Sim X.K ρ S H)
    (c : Post X.K X.mg (RepV X.K) (fun c d H' => W c d σ H') ρ H (eOp g fa fb env S) Q) : tOp r (tG X.K X.mg (RepV X.K) W fa) (tG X.K X.mg (RepV X.K) W fb) σ H Q := by
  refine tG.of a b ((Post.bind (rep := RepV X.K) c).mono fun x H1 ⟨ρ1, S1, d1, x1, s1, r1, c1⟩ => ?_)
  refine tG.of (a.ext x1) s1 ((Post.bind (rep := RepV X.K) c1).mono fun y H2 ⟨ρ2, S2, d2, x2, s2, r2, c2⟩ => ?_)
  exact o H2 ρ2 S2 d1 d2 x y _ Q s2 (RepV.ext x2 _ _ r1) r2 c2
theorem dt_cmp {op : CmpOp} {r : R2} {g : D → D → Sto → R D} (ho : OpR X (compareOp op) r) (o : Op2 X.K X.mg r g) (ha : DE X W a fa) (hb : DE X W b fb) (hm : behindInMarks op b = false) : DT X W (.Compare a [op] [b] pos) (tBool (eOp g fa fb)) :=
  dt_tTest (PT.mono (pt_cmpR ho ha hb hm) fun σ H Q ⟨env, ρ, S, a, b, c⟩ => tOp_of o a b c)
theorem chain_of {r r' : R2} {g g' : D → D → Sto → R D} (o : Op2 X.K X.mg r g) (o' : Op2 X.K X.mg r' g') {σ : L2.St} {H : Hp} {Q : VK} {env : Env} {ρ : Rg} {S : Sto} (a : RepSt X.K H ρ σ env) (b : Sim X.K ρ S H)
    (c : Post X.K X.mg (RepV X.K) (fun c d H' => W c d σ H') ρ H (eChain g g' fa fb fc env S) Q) : tChain r r' (tG X.K X.mg (RepV X.K) W fa) (tG X.K X.mg (RepV X.K) W fb) (tG X.K X.mg (RepV X.K) W fc) σ H Q := by
  refine tG.of a b ((Post.bind (rep := RepV X.K) c).mono fun x H1 ⟨ρ1, S1, d1, x1, s1, r1, c1⟩ => ?_)
  refine tG.of (a.ext x1) s1 ((Post.bind (rep := RepV X.K) c1).mono fun y H2 ⟨ρ2, S2, d2, x2, s2, r2, c2⟩ => ?_)
  refine o H2 ρ2 S2 d1 d2 x y _ _ s2 (RepV.ext x2 _ _ r1) r2 ((Post.bind (rep := RepV X.K) c2).mono fun z H3 ⟨ρ3, S3, d3, x3, s3, r3, c3⟩ => ?_)
  obtain ⟨k, e, c4⟩ := toB_cases r3 c3
  refine ⟨k, e, ?_⟩
  cases k with
  | true =>
    refine tG.of ((a.ext x1).ext (x2.trans x3)) s3 ((Post.bind (rep := RepV X.K) c4).mono fun y' H4 ⟨ρ4, S4, d4, x4, s4, r4, c5⟩ => ?_)
    exact o' H4 ρ4 S4 d2 d4 y y' _ Q s4 (RepV.ext (x3.trans x4) _ _ r2) r4 c5
  | false => exact c4.ret s3 (by unfold RepV; rfl)
theorem de_chain {op op' : CmpOp} {r r' : R2} {g g' : D → D → Sto → R D} (ho : OpR X (compareOp op) r) (o : Op2 X.K X.mg r g) (ho' : OpR X (compareOp op') r') (o' : Op2 X.K X.mg r' g') (ha : DE X W a fa) (hb : DE X W b fb) (hc : DE X W c fc)
    (hm : lastMarks [op, op'] [b, c] = false := by with_unfolding_all rfl) : DE X W (.Compare a [op, op'] [b, c] pos) (eChain g g' fa fb fc) :=
  DE.of (pe_chain ho ho' ha hb hc hm) fun σ H Q env ρ S a b c => chain_of o o' a b c
theorem DW.dt {e : Expr} {f : CT} (h : DW X W e f) : DT X W e f := PW.pt h
theorem dw_and1 (ha : DT X W a ta) : DW X W (.BoolOp .And [a] pos) ta := pw_and1 ha
theorem dw_or1 (ha : DT X W a ta) : DW X W (.BoolOp .Or [a] pos) ta := pw_or1 ha
theorem dw_and (ha : DT X W a ta) (hb : DW X W (.BoolOp .And (b :: rest) pos) tb) : DW X W (.BoolOp .And (a :: b :: rest) pos) (tAndD ta tb) :=
  DW.of (pw_and ha hb) fun σ H Q env ρ S a b c => by
    refine tG.of a b ((Post.bind (rep := eqR) c).mono fun x H1 ⟨ρ1, S1, d1, x1, s1, r1, c1⟩ => ?_)
    cases r1
    cases x with
    | true => exact tG.of (a.ext x1) s1 c1
    | false => exact c1.ret s1 rfl
theorem dw_or (ha : DT X W a ta) (hb : DW X W (.BoolOp .Or (b :: rest) pos) tb) : DW X W (.BoolOp .Or (a :: b :: rest) pos) (tOrD ta tb) :=
  DW.of (pw_or ha hb) fun σ H Q env ρ S a b c => by
    refine tG.of a b ((Post.bind (rep := eqR) c).mono fun x H1 ⟨ρ1, S1, d1, x1, s1, r1, c1⟩ => ?_)
    cases r1
    cases x with
    | false => exact tG.of (a.ext x1) s1 c1
    | true => exact c1.ret s1 rfl
theorem dt_not (ha : DT X W a ta) : DT X W (.UnaryOp .Not a pos) (tNotD ta) :=
  DT.of (pt_not ha) fun σ H Q env ρ S a b c => by
    refine tG.of a b ((Post.bind (rep := eqR) c).mono fun x H1 ⟨ρ1, S1, d1, x1, s1, r1, c1⟩ => ?_)
    cases r1
    exact c1.ret s1 rfl
theorem de_one {op} (h : DE X W a fa) : DE X W (.BoolOp op [a] pos) fa := pe_one h
theorem de_and (ha : DE X W a fa) (hb : DE X W (.BoolOp .And (b :: rest) pos) fb) : DE X W (.BoolOp .And (a :: b :: rest) pos) (eAnd fa fb) :=
  DE.of (pe_and ha hb) fun σ H Q env ρ S a b c => by
    refine tG.of a b ((Post.bind (rep := RepV X.K) c).mono fun x H1 ⟨ρ1, S1, d1, x1, s1, r1, c1⟩ => ?_)
    obtain ⟨k, e, c2⟩ := toB_cases r1 c1
    refine ⟨k, e, ?_⟩
    cases k with
    | true => exact tG.of (a.ext x1) s1 c2
    | false => exact c2.ret s1 (by unfold RepV; rfl)
theorem de_or (ha : DE X W a fa) (hb : DE X W (.BoolOp .Or (b :: rest) pos) fb) : DE X W (.BoolOp .Or (a :: b :: rest) pos) (eOr fa fb) :=
  DE.of (pe_or ha hb) fun σ H Q env ρ S a b c => by
    refine tG.of a b ((Post.bind (rep := RepV X.K) c).mono fun x H1 ⟨ρ1, S1, d1, x1, s1, r1, c1⟩ => ?_)
    obtain ⟨k, e, c2⟩ := toB_cases r1 c1
    refine ⟨k, e, ?_⟩
    cases k with
    | false => exact tG.of (a.ext x1) s1 c2
    | true => exact c2.ret s1 (by unfold RepV; rfl)
theorem de_not (ha : DE X W a fa) : DE X W (.UnaryOp .Not a pos) (eNot fa) :=
  DE.of (pe_not ha) fun σ H Q env ρ S a b c => by
    refine tG.of a b ((Post.bind (rep := RepV X.K) c).mono fun x H1 ⟨ρ1, S1, d1, x1, s1, r1, c1⟩ => ?_)
    obtain ⟨k, e, c2⟩ := toB_cases r1 c1
    exact ⟨k, e, c2.ret s1 (by unfold RepV; rfl)⟩
theorem de_if (hc : DT X W c ta) (ha : DE X W a fa) (hb : DE X W b fb) : DE X W (.IfExp c a b pos) (eIf ta fa fb) :=
  DE.of (pe_ifExp hc ha hb) fun σ H Q env ρ S a b c => by
    refine tG.of a b ((Post.bind (rep := eqR) c).mono fun x H1 ⟨ρ1, S1, d1, x1, s1, r1, c1⟩ => ?_)
    cases r1
    cases x with
    | true => exact tG.of (a.ext x1) s1 c1
    | false => exact tG.of (a.ext x1) s1 c1
end

/-! ## fresh lists -/
def tN (K : PySem.W.Frag) (mg : Str → Option Value) (W : WX) (f : CA) : TE := fun σ H Q => tG K mg (RepVs K) W f σ H fun vs H1 => ∀ p, H1 p = none → Q (.ref p) (upd H1 p (.lst vs))
def DN (X : Cx) (W : WX) (e : Expr) (f : CA) : Prop := PE X e (tN X.K X.mg W f)
/-- as a value that nobody changes -/
def eNew (f : CA) : CE := fun env S => (f env S).bind fun ds S => .ok (.new ds) S
/-- into the store -/
def eAlloc (f : CA) : CE := fun env S => (f env S).bind fun ds S => .ok (.ref S.length) (S ++ [.lst ds])
section
variable {X : Cx} {W : WX} {e : Expr} {f : CA}
theorem sim_takeO {K : PySem.W.Frag} {ρ : Rg} {S : Sto} {H : Hp} {p : Addr} {u : HO} {ob : O} (s : Sim K ρ S H) (hp : H p = none) (r : RepO K (upd H p u) (ρ.push p) p ob) : Sim K (ρ.push p) (S ++ [ob]) (upd H p u) := by
  have x : Ext K ρ H (ρ.push p) (upd H p u) := Ext.take hp (Ext.new hp)
  refine ⟨by simp [Rg.push, s.len], ?_, fun i a o e1 e2 => ?_, fun a ha => ?_, fun a ha => ?_⟩
  · show (ρ.st ++ [p]).Nodup
    rw [List.nodup_append]
    refine ⟨s.nd, by simp, fun a ha b hb => ?_⟩
    rw [List.mem_singleton.mp hb]
    intro z; subst z
    exact s.notst hp ha
  · replace e1 : (ρ.st ++ [p])[i]? = some a := e1
    by_cases hi : i < ρ.st.length
    · rw [List.getElem?_append_left hi] at e1
      rw [List.getElem?_append_left (by rw [← s.len]; exact hi)] at e2
      refine RepO.ext x (s.at_ i a o e1 e2) (upd_ne fun z => ?_) id
      subst z
      exact s.notst hp (List.mem_of_getElem? e1)
    · have h1 : ρ.st.length ≤ i := Nat.le_of_not_lt hi
      have hl := s.len
      rw [List.getElem?_append_right h1] at e1
      rw [List.getElem?_append_right (by omega)] at e2
      have hz : i - ρ.st.length = 0 := by
        have := (List.getElem?_eq_some_iff.mp e1).1
        simp at this; omega
      rw [hz] at e1
      rw [← hl, hz] at e2
      simp at e1 e2
      subst e1; subst e2
      exact r
  · have ha : a ∈ ρ.hid := ha
    obtain ⟨q1, q2⟩ := s.hid a ha
    refine ⟨x.trk a q1, ?_⟩
    intro z
    have z : a ∈ ρ.st ++ [p] := z
    rcases List.mem_append.mp z with z | z
    · exact q2 z
    · rw [List.mem_singleton.mp z] at q1; exact q1 hp
  · obtain ⟨es, ep, h⟩ := s.fz a ha
    exact ⟨es, ep, by rw [upd_ne (ne_of_none h hp)]; exact h⟩
theorem sim_take {K : PySem.W.Frag} {ρ : Rg} {S : Sto} {H : Hp} {p : Addr} {ds : List D} {vs : List V} (s : Sim K ρ S H) (hp : H p = none) (r : RepVs K H ρ ds vs) : Sim K (ρ.push p) (S ++ [.lst ds]) (upd H p (.lst vs)) :=
  sim_takeO s hp ⟨vs, upd_same, RepVs.ext (Ext.take hp (Ext.new hp)) _ _ r⟩
theorem DN.new (h : DN X W e f) : DE X W e (eNew f) := DE.of h fun σ H Q env ρ S a b c => by
  refine tG.of a b ((Post.bind (rep := RepVs X.K) c).mono fun x H1 ⟨ρ1, S1, d1, x1, s1, r1, c1⟩ p hp => ?_)
  exact c1.retN s1 hp (by unfold RepV; exact ⟨p, x, rfl, ⟨s1.notin hp, upd_same⟩, RepVs.ext (Ext.new hp) _ _ r1⟩)
theorem DN.alloc (h : DN X W e f) : DE X W e (eAlloc f) := DE.of h fun σ H Q env ρ S a b c => by
  refine tG.of a b ((Post.bind (rep := RepVs X.K) c).mono fun x H1 ⟨ρ1, S1, d1, x1, s1, r1, c1⟩ p hp => ?_)
  refine c1 _ _ (ρ1.push p) (Ext.take hp (Ext.new hp)) (sim_take s1 hp r1) ?_
  unfold RepV
  exact ⟨p, rfl, by rw [← s1.len]; simp [Rg.push], _, upd_same⟩
end
end J

namespace J
open PySem PySem.Spec PyProof.Rows L2

/-! ## statements -/
inductive RS where
  | nx (env : Env) (S : Sto)
  | rt (d : D) (S : Sto)
  | bk (env : Env) (S : Sto)
  | ct (env : Env) (S : Sto)
  | exc (x : Exn) (env : Env) (S : Sto)
  | bad
abbrev CS := Env → Sto → RS
def R.st {α : Type} (r : R α) (env : Env) (f : α → Sto → RS) : RS := match r with
  | .ok a S => f a S
  | .exc x S => .exc x env S
  | .bad => .bad
@[simp] theorem R.st_ok {α : Type} (a : α) (S : Sto) (env : Env) (f : α → Sto → RS) : (R.ok a S).st env f = f a S := Eq.trans rfl rfl
@[simp] theorem R.st_exc {α : Type} (x : Exn) (S : Sto) (env : Env) (f : α → Sto → RS) : (R.exc x S).st env f = .exc x env S := Eq.trans rfl rfl
@[simp] theorem R.st_bad {α : Type} (env : Env) (f : α → Sto → RS) : (R.bad (α := α)).st env f = .bad := Eq.trans rfl rfl
def RS.next (r : RS) (f : Env → Sto → RS) : RS := match r with
  | .nx env S => f env S
  | r => r
@[simp] theorem RS.next_nx (env : Env) (S : Sto) (f : Env → Sto → RS) : (RS.nx env S).next f = f env S := Eq.trans rfl rfl
@[simp] theorem RS.next_rt (d : D) (S : Sto) (f : Env → Sto → RS) : (RS.rt d S).next f = .rt d S := Eq.trans rfl rfl
@[simp] theorem RS.next_bk (env : Env) (S : Sto) (f : Env → Sto → RS) : (RS.bk env S).next f = .bk env S := Eq.trans rfl rfl
@[simp] theorem RS.next_ct (env : Env) (S : Sto) (f : Env → Sto → RS) : (RS.ct env S).next f = .ct env S := Eq.trans rfl rfl
@[simp] theorem RS.next_exc (x : Exn) (env : Env) (S : Sto) (f : Env → Sto → RS) : (RS.exc x env S).next f = .exc x env S := Eq.trans rfl rfl
@[simp] theorem RS.next_bad (f : Env → Sto → RS) : (RS.bad).next f = .bad := Eq.trans rfl rfl

def PostS (K : PySem.W.Frag) (mg : Str → Option Value) (W : WX) (ρ : Rg) (H : Hp) (r : RS) (Dn : Ends) : Prop :=
  match r with
  | .nx env S => ∀ σ H' ρ', Ext K ρ H ρ' H' → Sim K ρ' S H' → RepSt K H' ρ' σ env → Dn.nx σ H'
  | .rt d S => ∀ v H' ρ', Ext K ρ H ρ' H' → Sim K ρ' S H' → RepV K H' ρ' d v → Dn.rt v H'
  | .bk env S => ∀ σ H' ρ', Ext K ρ H ρ' H' → Sim K ρ' S H' → RepSt K H' ρ' σ env → Dn.bk σ H'
  | .ct env S => ∀ σ H' ρ', Ext K ρ H ρ' H' → Sim K ρ' S H' → RepSt K H' ρ' σ env → Dn.ct σ H'
  | .exc x env S => ∀ σ cls dd H' ρ', Ext K ρ H ρ' H' → Sim K ρ' S H' → RepSt K H' ρ' σ env → RepX K mg H' ρ' x cls dd → W cls dd σ H'
  | .bad => False
def tS (K : PySem.W.Frag) (mg : Str → Option Value) (W : WX) (f : CS) : TS := fun Dn σ H => ∃ env ρ S, RepSt K H ρ σ env ∧ Sim K ρ S H ∧ PostS K mg W ρ H (f env S) Dn
def DS (X : Cx) (W : WX) (st : Stmt) (f : CS) : Prop := PS X st (tS X.K X.mg W f)
def DSs (X : Cx) (W : WX) (st : List Stmt) (f : CS) : Prop := PSs X st (tS X.K X.mg W f)
/-- a target -/
abbrev CG := D → Env → Sto → R Env
/-- the slots at vs alone are changed -/
def Only (vs : List Nat) (σ σ' : L2.St) : Prop := ∀ us : List Nat, (∀ i ∈ vs, i ∈ us) → wipe σ' us = wipe σ us
def tGt (K : PySem.W.Frag) (mg : Str → Option Value) (vs : List Nat) (g : CG) : TG := fun v σ H Q => ∃ d env ρ S, RepV K H ρ d v ∧ RepSt K H ρ σ env ∧ Sim K ρ S H ∧
  match g d env S with
  | .ok env' S' => ∀ σ' H' ρ', Ext K ρ H ρ' H' → Sim K ρ' S' H' → RepSt K H' ρ' σ' env' → Only vs σ σ' → Q σ' H'
  | _ => False
def DG (X : Cx) (tg : Expr) (g : CG) (vs : List Nat) : Prop := PG X tg (tGt X.K X.mg vs g)
theorem wipe_get {σ : L2.St} {j : Nat} : ∀ {us : List Nat}, (wipe σ us)[j]? = if j ∈ us then (σ[j]?).map (fun _ => none) else σ[j]?
  | [] => by simp [wipe]
  | v :: us => by
    unfold wipe
    by_cases e : v = j
    · subst e
      rw [List.getElem?_set_self']
      have := wipe_get (σ := σ) (j := v) (us := us)
      by_cases h : v ∈ us
      · simp only [h, if_true] at this
        rw [this]
        cases σ[v]? <;> simp
      · simp only [h, if_false] at this
        rw [this]
        cases σ[v]? <;> simp
    · rw [List.getElem?_set_ne e, wipe_get]
      have : (j ∈ v :: us) ↔ j ∈ us := by
        simp only [List.mem_cons]
        exact ⟨fun h => h.resolve_left (fun z => e z.symm), .inr⟩
      by_cases h : j ∈ us
      · simp [h]
      · have h' : ¬ j ∈ v :: us := fun z => h (this.mp z)
        simp [h, h']
theorem Only.set {σ : L2.St} {i : Nat} {o : Option V} : Only [i] σ (σ.set i o) := fun us h => by
  have hi : i ∈ us := h i (by simp)
  apply List.ext_getElem?
  intro j
  rw [wipe_get, wipe_get]
  by_cases e : i = j
  · subst e
    simp only [hi, if_true]
    rw [List.getElem?_set_self']
    cases σ[i]? <;> simp
  · rw [List.getElem?_set_ne e]
theorem Only.refl {σ : L2.St} {vs : List Nat} : Only vs σ σ := fun _ _ => rfl
theorem Only.trans {σ σ1 σ2 : L2.St} {vs us : List Nat} (a : Only vs σ σ1) (b : Only us σ1 σ2) : Only (vs ++ us) σ σ2 := fun ws h =>
  (b ws fun i hi => h i (List.mem_append_right _ hi)).trans (a ws fun i hi => h i (List.mem_append_left _ hi))

section
variable {K : PySem.W.Frag} {mg : Str → Option Value} {W : WX} {ρ ρ1 : Rg} {H H1 : Hp} {σ : L2.St}
theorem PostS.ext {r : RS} {Dn : Ends} (x : Ext K ρ H ρ1 H1) (h : PostS K mg W ρ H r Dn) : PostS K mg W ρ1 H1 r Dn := by
  cases r with
  | nx env S => exact fun a b c y s p => h a b c (x.trans y) s p
  | rt d S => exact fun a b c y s p => h a b c (x.trans y) s p
  | bk env S => exact fun a b c y s p => h a b c (x.trans y) s p
  | ct env S => exact fun a b c y s p => h a b c (x.trans y) s p
  | exc e env S => exact fun σ a b c d y s p => h σ a b c d (x.trans y) s p
  | bad => exact h
theorem tS.of {f : CS} {Dn : Ends} {env : Env} {S : Sto} (a : RepSt K H ρ σ env) (b : Sim K ρ S H) (c : PostS K mg W ρ H (f env S) Dn) : tS K mg W f Dn σ H := ⟨env, ρ, S, a, b, c⟩
/-- an expression, then a statement's rest -/
theorem PostS.st {α β : Type} {rep : Hp → Rg → α → β → Prop} {r : R α} {env : Env} {g : α → Sto → RS} {Dn : Ends} (a : RepSt K H ρ σ env) (h : PostS K mg W ρ H (r.st env g) Dn) :
    Post K mg rep (fun c d H' => W c d σ H') ρ H r (fun v H1 => ∃ ρ1 S1 x, Ext K ρ H ρ1 H1 ∧ Sim K ρ1 S1 H1 ∧ rep H1 ρ1 x v ∧ PostS K mg W ρ1 H1 (g x S1) Dn) := by
  cases r with
  | ok x S => exact fun v H1 ρ1 e s p => ⟨ρ1, S, x, e, s, p, PostS.ext e h⟩
  | exc e S => exact fun cls dd H' ρ' x s p => h σ cls dd H' ρ' x s (a.ext x) p
  | bad => exact h
theorem PostS.nxt {env : Env} {S : Sto} {Dn : Ends} (h : PostS K mg W ρ H (.nx env S) Dn) (s : Sim K ρ S H) (a : RepSt K H ρ σ env) : Dn.nx σ H := h σ H ρ Ext.refl s a
/-- the ends of the first part are met -/
theorem PostS.next {r : RS} {f : CS} {Dn : Ends} (h : PostS K mg W ρ H (r.next f) Dn) : PostS K mg W ρ H r { Dn with nx := tS K mg W f Dn } := by
  cases r with
  | nx env S => exact fun σ H' ρ' x s a => tS.of a s (PostS.ext x h)
  | rt d S => exact h
  | bk env S => exact h
  | ct env S => exact h
  | exc e env S => exact h
  | bad => exact h
theorem RepSt.set {env : Env} {i : Nat} {d : D} {v : V} (a : RepSt K H ρ σ env) (r : RepV K H ρ d v) : RepSt K H ρ (σ.set i (some v)) (env.set i (some d)) := by
  refine ⟨by simp [a.1], fun j e he => ?_⟩
  by_cases hj : i = j
  · subst hj
    have hlt : i < env.length := by
      have := (List.getElem?_eq_some_iff.mp he).1
      simpa using this
    rw [List.getElem?_set_self hlt] at he
    cases he
    exact ⟨v, by rw [List.getElem?_set_self (by rw [a.1]; exact hlt)], r⟩
  · rw [List.getElem?_set_ne hj] at he
    obtain ⟨u, e1, e2⟩ := a.2 j e he
    exact ⟨u, by rw [List.getElem?_set_ne hj]; exact e1, e2⟩
theorem RepSt.unset {env : Env} {i : Nat} (a : RepSt K H ρ σ env) : RepSt K H ρ (σ.set i none) (env.set i none) := by
  refine ⟨by simp [a.1], fun j e he => ?_⟩
  by_cases hj : i = j
  · subst hj
    have hlt : i < env.length := by
      have := (List.getElem?_eq_some_iff.mp he).1
      simpa using this
    rw [List.getElem?_set_self hlt] at he
    cases he
  · rw [List.getElem?_set_ne hj] at he
    obtain ⟨u, e1, e2⟩ := a.2 j e he
    exact ⟨u, by rw [List.getElem?_set_ne hj]; exact e1, e2⟩
end

def sNext : CS := fun env S => .nx env S
def sSeq (a b : CS) : CS := fun env S => (a env S).next b
def gSt (r : R Env) : RS := match r with | .ok env S => .nx env S | _ => .bad
@[simp] theorem gSt_ok (env : Env) (S : Sto) : gSt (.ok env S) = .nx env S := Eq.trans rfl rfl
def sAsg (f : CE) (g : CG) : CS := fun env S => (f env S).st env fun d S => gSt (g d env S)
def sExpr (f : CE) : CS := fun env S => (f env S).st env fun _ S => .nx env S
def sRet (f : CE) : CS := fun env S => (f env S).st env fun d S => .rt d S
def sRetN : CS := fun _ S => .rt .non S
def sIf (t : CT) (a b : CS) : CS := fun env S => (t env S).st env fun c S => if c = true then a env S else b env S
def sBad : CS := fun _ _ => .bad
def sBrk : CS := fun env S => .bk env S
def sCont : CS := fun env S => .ct env S
def gName (i : Nat) : CG := fun d env S => .ok (env.set i (some d)) S
/-- several targets -/
abbrev CGs := List D → Env → Sto → R Env
def gsNil : CGs := fun ds env S => match ds with | [] => .ok env S | _ => .bad
def gsCons (g : CG) (r : CGs) : CGs := fun ds env S => match ds with | d :: ds => (g d env S).bind fun env S => r ds env S | [] => .bad
def gTup (n : Nat) (r : CGs) : CG := fun d env S => match d with | .tup ds => if ds.length = n then r ds env S else .bad | _ => .bad

section
variable {X : Cx} {W : WX} {e : Expr} {fe : CE} {st : Stmt} {rest : List Stmt} {f g : CS} {pos : Pos} {tg : Expr}
theorem DS.of {t : TS} (h : PS X st t) (q : ∀ Dn σ H env ρ S, RepSt X.K H ρ σ env → Sim X.K ρ S H → PostS X.K X.mg W ρ H (f env S) Dn → t Dn σ H) : DS X W st f := PS.mono h fun Dn σ H ⟨env, ρ, S, a, b, c⟩ => q Dn σ H env ρ S a b c
theorem DSs.of {sts : List Stmt} {t : TS} (h : PSs X sts t) (q : ∀ Dn σ H env ρ S, RepSt X.K H ρ σ env → Sim X.K ρ S H → PostS X.K X.mg W ρ H (f env S) Dn → t Dn σ H) : DSs X W sts f := PSs.mono h fun Dn σ H ⟨env, ρ, S, a, b, c⟩ => q Dn σ H env ρ S a b c
theorem dss_nil : DSs X W [] sNext := DSs.of pss_nil fun Dn σ H env ρ S a b c => PostS.nxt c b a
theorem dss_cons (h1 : DS X W st f) (h2 : DSs X W rest g) : DSs X W (st :: rest) (sSeq f g) := DSs.of (pss_cons h1 h2) fun Dn σ H env ρ S a b c => tS.of a b (PostS.next c)
theorem dss_one (h1 : DS X W st f) : DSs X W [st] f := DSs.of (pss_one h1) fun Dn σ H env ρ S a b c => tS.of a b c
theorem ds_expr (h : DE X W e fe) (hs : swapsWith e none pos.line X.env = pure false := by rfl) : DS X W (.Expr e pos) (sExpr fe) :=
  DS.of (ps_expr h hs) fun Dn σ H env ρ S a b c => tG.of a b ((PostS.st (rep := RepV X.K) a c).mono fun v H1 ⟨ρ1, S1, x, x1, s1, r1, c1⟩ => PostS.nxt c1 s1 (a.ext x1))
theorem ds_ret (h : DE X W e fe) : DS X W (.Return (some e) pos) (sRet fe) :=
  DS.of (ps_ret h) fun Dn σ H env ρ S a b c => tG.of a b ((PostS.st (rep := RepV X.K) a c).mono fun v H1 ⟨ρ1, S1, x, x1, s1, r1, c1⟩ => c1 v H1 ρ1 Ext.refl s1 r1)
theorem ds_if {c : Expr} {ft : CT} {as bs : List Stmt} (hc : DT X W c ft) (ha : DSs X W as f) (hb : DSs X W bs g) : DS X W (.If c as bs pos) (sIf ft f g) :=
  DS.of (ps_if hc ha hb) fun Dn σ H env ρ S a b c => tG.of a b ((PostS.st (rep := eqR) a c).mono fun v H1 ⟨ρ1, S1, x, x1, s1, r1, c1⟩ => by
    cases r1
    cases v with
    | true => exact tS.of (a.ext x1) s1 c1
    | false => exact tS.of (a.ext x1) s1 c1)
theorem ds_set {i : Nat} {x : Str} {pos' : Pos} (hN : X.N.Nodup) (hi : X.N[i]? = some x) (hx : Loc X.env.scope x) (he : DE X W e fe) (hs : swapsWith e (some (.Name x pos')) pos.line X.env = pure false := by rfl)
    (hf : X.fn x = true ∨ X.env.scope.names.lookup x = some .local := by first | exact .inl rfl | exact .inr rfl | assumption) : DS X W (.Assign [.Name x pos'] e pos) (sAsg fe (gName i)) :=
  DS.of (ps_set hN hi hx he hs hf) fun Dn σ H env ρ S a b c => tG.of a b ((PostS.st (rep := RepV X.K) a c).mono fun v H1 ⟨ρ1, S1, x, x1, s1, r1, c1⟩ => PostS.nxt c1 s1 ((a.ext x1).set r1))
/-! ### targets -/
theorem DG.of {t : TG} {g : CG} {vs : List Nat} (h : PG X tg t) (q : ∀ v σ H Q d env ρ S, RepV X.K H ρ d v → RepSt X.K H ρ σ env → Sim X.K ρ S H → (match g d env S with
  | .ok env' S' => ∀ σ' H' ρ', Ext X.K ρ H ρ' H' → Sim X.K ρ' S' H' → RepSt X.K H' ρ' σ' env' → Only vs σ σ' → Q σ' H'
  | _ => False) → t v σ H Q) : DG X tg g vs := ⟨fun pins s σ H v u Q I r ⟨d, env, ρ, S, a, b, c, e⟩ => h.run pins s σ H v u Q I r (q v σ H Q d env ρ S a b c e)⟩
theorem dg_name {i : Nat} {x : Str} (hN : X.N.Nodup) (hi : X.N[i]? = some x) (hx : Loc X.env.scope x) (hf : X.fn x = true ∨ X.env.scope.names.lookup x = some .local := by first | exact .inl rfl | exact .inr rfl | assumption) : DG X (.Name x pos) (gName i) [i] :=
  DG.of (pg_name hN hi hx hf) fun v σ H Q d env ρ S r a b c => c _ _ ρ Ext.refl b (a.set r) Only.set
def tGts (K : PySem.W.Frag) (mg : Str → Option Value) (us : List Nat) (g : CGs) : TGs := fun vs σ H Q => ∃ ds env ρ S, RepVs K H ρ ds vs ∧ RepSt K H ρ σ env ∧ Sim K ρ S H ∧
  match g ds env S with
  | .ok env' S' => ∀ σ' H' ρ', Ext K ρ H ρ' H' → Sim K ρ' S' H' → RepSt K H' ρ' σ' env' → Only us σ σ' → Q σ' H'
  | _ => False
def DGs (X : Cx) (ts : List Expr) (g : CGs) (us : List Nat) : Prop := PGs X ts (tGts X.K X.mg us g)
theorem dgs_nil : DGs X [] gsNil [] := ⟨fun pins s σ H vs us Q I r ⟨ds, env, ρ, S, a, b, c, e⟩ => pgs_nil.run pins s σ H vs us Q I r (by
  cases ds with
  | nil => unfold RepVs at a; exact ⟨a, e _ _ ρ Ext.refl c b Only.refl⟩
  | cons d ds => exact e.elim)⟩
theorem dgs_cons {t : Expr} {ts : List Expr} {g : CG} {gs : CGs} {us vs : List Nat} (h1 : DG X t g us) (h2 : DGs X ts gs vs) (hs : (assignEach (t :: ts) X.env).map (·.2) = assign t X.env :: (assignEach ts X.env).map (·.2) := by rfl) : DGs X (t :: ts) (gsCons g gs) (us ++ vs) :=
  ⟨fun pins s σ H vs us Q I r ⟨ds, env, ρ, S, a, b, c, e⟩ => (pgs_cons h1 h2 hs).run pins s σ H vs us Q I r (by
  cases ds with
  | nil => exact e.elim
  | cons d ds =>
    unfold RepVs at a
    obtain ⟨v, rr, rfl, r1, r2⟩ := a
    refine ⟨v, rr, rfl, d, env, ρ, S, r1, b, c, ?_⟩
    unfold gsCons at e
    cases q : g d env S with
    | ok env' S' =>
      intro σ' H' ρ' x s' a' o'
      refine ⟨ds, env', ρ', S', RepVs.ext x _ _ r2, a', s', ?_⟩
      simp only [q, R.bind_ok] at e
      cases q2 : gs ds env' S' with
      | ok env'' S'' => rw [q2] at e; exact fun σ2 H2 ρ2 x2 s2 a2 o2 => e σ2 H2 ρ2 (x.trans x2) s2 a2 (o'.trans o2)
      | exc x S => rw [q2] at e; exact e.elim
      | bad => rw [q2] at e; exact e.elim
    | exc x S => simp only [q, R.bind_exc] at e
    | bad => simp only [q, R.bind_bad] at e)⟩
theorem dg_tup {es : List Expr} {k : Nat} {g : CGs} {n : Nat} {us : List Nat} (hc : X.calm = true) (h : DGs X es g us) (hn : (assignEach es X.env).length = n := by rfl) (hst : (assignEach es X.env).findIdx? (·.1) = none := by rfl) : DG X (.Tuple es k pos) (gTup n g) us :=
  DG.of (pg_tup hc h hn hst) fun v σ H Q d env ρ S r a b c => by
    cases d with
    | tup ds =>
      unfold RepV at r
      obtain ⟨p, vs, rfl, q, rs⟩ := r
      unfold gTup at c
      by_cases hl : ds.length = n
      · simp only [hl, if_true] at c
        exact ⟨p, vs, rfl, q, by rw [RepVs.length rs]; exact hl, ds, env, ρ, S, rs, a, b, c⟩
      · simp only [hl, if_false] at c
    | non => exact c.elim
    | bl _ => exact c.elim
    | int _ => exact c.elim
    | str _ => exact c.elim
    | new _ => exact c.elim
    | scr _ => exact c.elim
    | ref _ => exact c.elim
    | exn _ => exact c.elim
    | dic _ _ => exact c.elim
    | rdc _ => exact c.elim
    | obj _ => exact c.elim
    | ktp _ => exact c.elim
end

/-! ## loops -/
inductive Src where
  | fix (ds : List D)
  | lst (n : Nat)
  | enl (n : Nat)
def Src.at (s : Src) (i : Nat) (S : Sto) : Option (Option D) := match s with
  | .fix ds => some ds[i]?
  | .lst n => match S[n]? with
    | some (.lst xs) => some xs[i]?
    | _ => none
  | .enl n => match S[n]? with
    | some (.lst xs) => some (xs[i]?.map fun x => .tup [.int i, x])
    | _ => none
def Src.len (s : Src) (S : Sto) : Nat := match s with
  | .fix ds => ds.length
  | .lst n => match S[n]? with | some (.lst xs) => xs.length | _ => 0
  | .enl n => match S[n]? with | some (.lst xs) => xs.length | _ => 0
def RS.loop (r : RS) (f : Env → Sto → RS) : RS := match r with
  | .nx env S => f env S
  | .ct env S => f env S
  | .bk env S => .nx env S
  | r => r
@[simp] theorem RS.loop_nx (env : Env) (S : Sto) (f : Env → Sto → RS) : (RS.nx env S).loop f = f env S := Eq.trans rfl rfl
@[simp] theorem RS.loop_ct (env : Env) (S : Sto) (f : Env → Sto → RS) : (RS.ct env S).loop f = f env S := Eq.trans rfl rfl
@[simp] theorem RS.loop_bk (env : Env) (S : Sto) (f : Env → Sto → RS) : (RS.bk env S).loop f = .nx env S := Eq.trans rfl rfl
@[simp] theorem RS.loop_rt (d : D) (S : Sto) (f : Env → Sto → RS) : (RS.rt d S).loop f = .rt d S := Eq.trans rfl rfl
@[simp] theorem RS.loop_exc (x : Exn) (env : Env) (S : Sto) (f : Env → Sto → RS) : (RS.exc x env S).loop f = .exc x env S := Eq.trans rfl rfl
@[simp] theorem RS.loop_bad (f : Env → Sto → RS) : (RS.bad).loop f = .bad := Eq.trans rfl rfl
def RS.ofG (r : R Env) (f : Env → Sto → RS) : RS := match r with | .ok env S => f env S | _ => .bad
@[simp] theorem RS.ofG_ok (env : Env) (S : Sto) (f : Env → Sto → RS) : RS.ofG (.ok env S) f = f env S := Eq.trans rfl rfl
@[simp] theorem RS.ofG_bad (f : Env → Sto → RS) : RS.ofG .bad f = .bad := Eq.trans rfl rfl
def forGo (src : Src) (g : CG) (body : CS) : Nat → Nat → Env → Sto → RS
  | 0, i, env, S => match src.at i S with
    | some none => .nx env S
    | _ => .bad
  | k + 1, i, env, S => match src.at i S with
    | none => .bad
    | some none => .nx env S
    | some (some d) => RS.ofG (g d env S) fun env1 S1 => (body env1 S1).loop fun env2 S2 => forGo src g body k (i + 1) env2 S2
abbrev CI := Env → Sto → R Src
def sFor (fi : CI) (g : CG) (body : CS) : CS := fun env S => (fi env S).st env fun src S => forGo src g body (src.len S) 0 env S
/-- a loop over fixed items -/
def forL (g : CG) (body : CS) : List D → Env → Sto → RS
  | [], env, S => .nx env S
  | d :: ds, env, S => RS.ofG (g d env S) fun env1 S1 => (body env1 S1).loop fun env2 S2 => forL g body ds env2 S2
theorem forGo_fix (ds : List D) (g : CG) (body : CS) : ∀ (k i : Nat) (env : Env) (S : Sto), k + i = ds.length → forGo (.fix ds) g body k i env S = forL g body (ds.drop i) env S
  | 0, i, env, S, h => by
    have e : ds[i]? = none := List.getElem?_eq_none_iff.mpr (by omega)
    have e2 : ds.drop i = [] := List.drop_eq_nil_of_le (by omega)
    simp [forGo, Src.at, e, e2, forL]
  | k + 1, i, env, S, h => by
    have hi : i < ds.length := by omega
    have e : ds[i]? = some ds[i] := List.getElem?_eq_getElem hi
    rw [List.drop_eq_getElem_cons hi]
    simp only [forGo, Src.at, e, forL]
    congr 1
    funext env1 S1
    congr 1
    funext env2 S2
    exact forGo_fix ds g body k (i + 1) env2 S2 (by omega)
theorem sFor_fix {fi : CI} {g : CG} {body : CS} {env : Env} {S S1 : Sto} {ds : List D} (h : fi env S = .ok (.fix ds) S1) : sFor fi g body env S = forL g body ds env S1 := by
  unfold sFor
  rw [h, R.st_ok]
  show forGo (.fix ds) g body ds.length 0 env S1 = _
  rw [forGo_fix ds g body ds.length 0 env S1 (by omega)]
  rfl

def enumD (ds : List D) : List D := ds.mapIdx fun i d => .tup [.int i, d]
def rangeD (lo : Int) (n : Nat) : List D := (List.range n).map fun i => .int (lo + (i : Nat))
def rangeCD (lo c : Int) (n : Nat) : List D := (List.range n).map fun i => .int (lo + (i : Nat) * c)
/-- enumerate(tuple) -/
def IteT (K : PySem.W.Frag) (a : Addr) : It :=
  ⟨fun i H => ∃ (xs : List V) (x : V), SqT K H a xs ∧ xs[i]? = some x, fun i H v H' => ∃ T x, v = .ref T ∧ H T = none ∧ H' = upd H T (.tup [.int (i : Nat), x]) ∧ ∀ xs, SqT K H a xs → xs[i]? = some x, fun i H => ∃ xs : List V, SqT K H a xs ∧ xs.length ≤ i⟩
/-- the keys of a dict that stays as it is -/
def ItD (a : Addr) (es : List Ent) (ep : Nat) : It :=
  ⟨fun i H => H a = some (DicT a es ep) ∧ i < es.length, fun i H x H' => H' = H ∧ (es[i]?).map (·.2.1) = some x, fun i H => H a = some (DicT a es ep) ∧ es.length ≤ i⟩
/-- the signs of a text -/
def sgnD (x : Str) : List D := x.cps.toList.map fun c => .str ⟨#[c]⟩
/-- a sequence that stands still: a tuple, or a list that nobody changes any more -/
def SqB (f : Bool) (K : PySem.W.Frag) (H : Hp) (ρ : Rg) (a : Addr) (vs : List V) : Prop := match f with
  | true => SqT K H a vs
  | false => SqN H ρ a vs
def SqA (f : Bool) (K : PySem.W.Frag) (H : Hp) (a : Addr) (vs : List V) : Prop := match f with
  | true => SqT K H a vs
  | false => SqL K H a vs
theorem SqB.sqa {f : Bool} {K : PySem.W.Frag} {H : Hp} {ρ : Rg} {a : Addr} {vs : List V} (h : SqB f K H ρ a vs) : SqA f K H a vs := by
  cases f with
  | true => exact h
  | false => exact SqN.sq h
theorem SqB.ext {f : Bool} {K : PySem.W.Frag} {H H' : Hp} {ρ ρ' : Rg} (x : Ext K ρ H ρ' H') {a : Addr} {vs : List V} (h : SqB f K H ρ a vs) : SqB f K H' ρ' a vs := by
  cases f with
  | true => exact x.tup _ _ h
  | false => exact x.sqn h
theorem SqB.hide {f : Bool} {K : PySem.W.Frag} {H : Hp} {ρ : Rg} {p : Addr} {o : HO} (hp : H p = none) {a : Addr} {vs : List V} (h : SqB f K H ρ a vs) : SqB f K (upd H p o) (ρ.hide p) a vs := by
  cases f with
  | true => exact sqt_upd_new hp h
  | false => exact SqN.hide hp h
theorem SqB.unhide {f : Bool} {K : PySem.W.Frag} {H : Hp} {ρ : Rg} {p : Addr} {us : HO} (hp : H p = some us) (hu : NTup us) {a : Addr} {vs : List V} (h : SqB f K H (ρ.hide p) a vs) : SqB f K (del H p) ρ a vs := by
  cases f with
  | true => exact sqt_del hp hu h
  | false => exact SqN.unhide h
/-- zip of two sequences -/
def ItzX (K : PySem.W.Frag) (f g : Bool) (a b : Addr) : It :=
  ⟨fun i H => ∃ (xs ys : List V) (x y : V), SqA f K H a xs ∧ SqA g K H b ys ∧ xs[i]? = some x ∧ ys[i]? = some y,
    fun i H v H' => ∃ T x y, v = .ref T ∧ H T = none ∧ H' = upd H T (.tup [x, y]) ∧ (∀ xs, SqA f K H a xs → xs[i]? = some x) ∧ ∀ ys, SqA g K H b ys → ys[i]? = some y,
    fun i H => ∃ xs ys : List V, SqA f K H a xs ∧ SqA g K H b ys ∧ (xs.length ≤ i ∨ ys.length ≤ i)⟩
def zipD (ds es : List D) : List D := List.zipWith (fun d e => .tup [d, e]) ds es
inductive SrcRep (K : PySem.W.Frag) (H : Hp) (ρ : Rg) : Src → It → Prop where
  | str (x : Str) : SrcRep K H ρ (.fix (sgnD x)) (Its x)
  | dic {a : Addr} {es : List Ent} {ep : Nat} {ks : List D} (h : H a = some (DicT a es ep)) (n : ¬ ρ.In a) (r : RepVs K H ρ ks (es.map (·.2.1))) : SrcRep K H ρ (.fix ks) (ItD a es ep)
  | dicZ {a : Addr} {es : List Ent} {ep : Nat} {ks : List D} (h : H a = some (DicT a es ep)) (z : a ∈ ρ.fz) (m : a ∈ ρ.st) (r : RepVs K H ρ ks (es.map (·.2.1))) : SrcRep K H ρ (.fix ks) (ItD a es ep)
  | tup {a : Addr} {vs : List V} {ds : List D} (q : SqT K H a vs) (r : RepVs K H ρ ds vs) : SrcRep K H ρ (.fix ds) (Itt K a)
  | new {a : Addr} {vs : List V} {ds : List D} (q : SqN H ρ a vs) (r : RepVs K H ρ ds vs) : SrcRep K H ρ (.fix ds) (Itl K a)
  | etup {a : Addr} {vs : List V} {ds : List D} (q : SqT K H a vs) (r : RepVs K H ρ ds vs) : SrcRep K H ρ (.fix (enumD ds)) (IteT K a)
  | enew {a : Addr} {vs : List V} {ds : List D} (q : SqN H ρ a vs) (r : RepVs K H ρ ds vs) : SrcRep K H ρ (.fix (enumD ds)) (Ite K a)
  | rng (lo : Int) (n : Nat) : SrcRep K H ρ (.fix (rangeD lo n)) (Itr lo n)
  | rngC (lo c : Int) (n : Nat) : SrcRep K H ρ (.fix (rangeCD lo c n)) (Itc lo c n)
  | zip {f g : Bool} {a b : Addr} {us vs : List V} {ds es : List D} (q : SqB f K H ρ a us) (r : RepVs K H ρ ds us) (q2 : SqB g K H ρ b vs) (r2 : RepVs K H ρ es vs) : SrcRep K H ρ (.fix (zipD ds es)) (ItzX K f g a b)
  | lst {n : Nat} {a : Addr} (q : ρ.st[n]? = some a) : SrcRep K H ρ (.lst n) (Itl K a)
  | enl {n : Nat} {a : Addr} (q : ρ.st[n]? = some a) : SrcRep K H ρ (.enl n) (Ite K a)
section
variable {K : PySem.W.Frag} {H H' : Hp} {ρ ρ' : Rg} {S : Sto} {src : Src} {J : It}
theorem SrcRep.ext (x : Ext K ρ H ρ' H') (r : SrcRep K H ρ src J) : SrcRep K H' ρ' src J := by
  cases r with
  | str z => exact .str z
  | dic h n r => exact .dic (x.old _ _ h (.inl fun z => n (.inl z))) (x.notin h n) (RepVs.ext x _ _ r)
  | dicZ h z m r =>
    refine .dicZ (x.old _ _ h (.inr z)) (x.fz z) ?_ (RepVs.ext x _ _ r)
    obtain ⟨e, f, rfl, _, _⟩ := x.pre
    exact List.mem_append_left _ m
  | tup q r => exact .tup (x.tup _ _ q) (RepVs.ext x _ _ r)
  | new q r => exact .new (x.sqn q) (RepVs.ext x _ _ r)
  | etup q r => exact .etup (x.tup _ _ q) (RepVs.ext x _ _ r)
  | enew q r => exact .enew (x.sqn q) (RepVs.ext x _ _ r)
  | rng lo n => exact .rng lo n
  | rngC lo c n => exact .rngC lo c n
  | zip q r q2 r2 => exact .zip (q.ext x) (RepVs.ext x _ _ r) (q2.ext x) (RepVs.ext x _ _ r2)
  | lst q => exact .lst (x.get q)
  | enl q => exact .enl (x.get q)
theorem SrcRep.hide {p : Addr} {o : HO} (hp : H p = none) (r : SrcRep K H ρ src J) : SrcRep K (upd H p o) (ρ.hide p) src J := by
  cases r with
  | str z => exact .str z
  | dic h n r => exact .dic (by rw [upd_ne (ne_of_none h hp)]; exact h) (Rg.notin_hide (ne_of_none h hp) n) (RepVs.hide hp _ _ r)
  | dicZ h z m r => exact .dicZ (by rw [upd_ne (ne_of_none h hp)]; exact h) z m (RepVs.hide hp _ _ r)
  | tup q r => exact .tup (sqt_upd_new hp q) (RepVs.hide hp _ _ r)
  | new q r => exact .new (q.hide hp) (RepVs.hide hp _ _ r)
  | etup q r => exact .etup (sqt_upd_new hp q) (RepVs.hide hp _ _ r)
  | enew q r => exact .enew (q.hide hp) (RepVs.hide hp _ _ r)
  | rng lo n => exact .rng lo n
  | rngC lo c n => exact .rngC lo c n
  | zip q r q2 r2 => exact .zip (q.hide hp) (RepVs.hide hp _ _ r) (q2.hide hp) (RepVs.hide hp _ _ r2)
  | lst q => exact .lst q
  | enl q => exact .enl q
theorem SrcRep.unhide {p : Addr} {us : HO} (hp : H p = some us) (hu : NTup us) (hn : p ∉ ρ.st) (r : SrcRep K H (ρ.hide p) src J) : SrcRep K (del H p) ρ src J := by
  cases r with
  | str z => exact .str z
  | dic h n r => exact .dic (by rw [del_ne (Rg.notin_unhide n).1]; exact h) (Rg.notin_unhide n).2 (RepVs.unhide hp hu hn _ _ r)
  | @dicZ a es ep ks h z m r =>
    have m : a ∈ ρ.st := m
    exact .dicZ (by rw [del_ne (fun e => hn (by rw [← e]; exact m))]; exact h) z m (RepVs.unhide hp hu hn _ _ r)
  | tup q r => exact .tup (sqt_del hp hu q) (RepVs.unhide hp hu hn _ _ r)
  | new q r => exact .new q.unhide (RepVs.unhide hp hu hn _ _ r)
  | etup q r => exact .etup (sqt_del hp hu q) (RepVs.unhide hp hu hn _ _ r)
  | enew q r => exact .enew q.unhide (RepVs.unhide hp hu hn _ _ r)
  | rng lo n => exact .rng lo n
  | rngC lo c n => exact .rngC lo c n
  | zip q r q2 r2 => exact .zip (q.unhide hp hu) (RepVs.unhide hp hu hn _ _ r) (q2.unhide hp hu) (RepVs.unhide hp hu hn _ _ r2)
  | lst q => exact .lst q
  | enl q => exact .enl q
theorem Sim.lst (s : Sim K ρ S H) {n : Nat} {a : Addr} {xs : List D} (q : ρ.st[n]? = some a) (e : S[n]? = some (.lst xs)) : ∃ vs, H a = some (.lst vs) ∧ RepVs K H ρ xs vs := s.at_ n a _ q e
theorem getElem?_none_of_len {ds : List D} {vs : List V} {i : Nat} (r : RepVs K H ρ ds vs) (e : ds[i]? = none) : vs.length ≤ i := by
  rw [RepVs.length r]; exact List.getElem?_eq_none_iff.mp e
theorem RepV.pair {T : Addr} {i : Nat} {d : D} {v : V} (hT : H T = none) (r : RepV K H ρ d v) : RepV K (upd H T (.tup [.int (i : Nat), v])) ρ (.tup [.int i, d]) (.ref T) := by
  unfold RepV
  refine ⟨T, _, rfl, .inl (.inl upd_same), RepVs.cons (by unfold RepV; rfl) (RepVs.cons (RepV.ext (Ext.new hT) _ _ r) RepVs.nil)⟩
theorem SrcRep.step (r : SrcRep K H ρ src J) (s : Sim K ρ S H) (i : Nat) : match src.at i S with
    | none => True
    | some none => J.stop i H
    | some (some d) => J.go i H ∧ ∀ x H3, J.yld i H x H3 → Ext K ρ H ρ H3 ∧ Sim K ρ S H3 ∧ RepV K H3 ρ d x := by
  have hD : ∀ {a : Addr} {es : List Ent} {ep : Nat} {ks : List D}, H a = some (DicT a es ep) → RepVs K H ρ ks (es.map (·.2.1)) → match (Src.fix ks).at i S with
    | none => True
    | some none => (ItD a es ep).stop i H
    | some (some d) => (ItD a es ep).go i H ∧ ∀ x H3, (ItD a es ep).yld i H x H3 → Ext K ρ H ρ H3 ∧ Sim K ρ S H3 ∧ RepV K H3 ρ d x := by
    intro a es ep ks h r
    have hl := RepVs.length r
    rw [List.length_map] at hl
    simp only [Src.at]
    cases e : ks[i]? with
    | none => exact ⟨h, by rw [hl]; exact List.getElem?_eq_none_iff.mp e⟩
    | some d =>
      obtain ⟨v, e1, e2⟩ := RepVs.get r e
      refine ⟨⟨h, by rw [hl]; exact (List.getElem?_eq_some_iff.mp e).1⟩, fun x H3 ⟨h3, hx⟩ => ?_⟩
      subst h3
      rw [List.getElem?_map] at e1
      rw [e1] at hx; cases hx
      exact ⟨Ext.refl, s, e2⟩
  cases r with
  | str z =>
    simp only [Src.at, sgnD, List.getElem?_map]
    cases e : z.cps.toList[i]? with
    | none => exact (by have := List.getElem?_eq_none_iff.mp e; simpa using this : z.cps.size ≤ i)
    | some c =>
      have hlt : i < z.cps.size := by have := (List.getElem?_eq_some_iff.mp e).1; simpa using this
      refine ⟨hlt, fun x H3 ⟨h3, c', hc, hx⟩ => ?_⟩
      subst h3; subst hx
      have : c' = c := by
        have e' : z.cps[i]? = some c := by rw [← e]; simp
        rw [e'] at hc; cases hc; rfl
      subst this
      exact ⟨Ext.refl, s, by unfold RepV; rfl⟩
  | dic h n r => exact hD h r
  | dicZ h z m r => exact hD h r
  | @tup a vs ds q r =>
    simp only [Src.at]
    cases e : ds[i]? with
    | none => exact ⟨vs, q, getElem?_none_of_len r e⟩
    | some d =>
      obtain ⟨v, e1, e2⟩ := RepVs.get r e
      refine ⟨⟨vs, v, q, e1⟩, fun x H3 ⟨h3, hx⟩ => ?_⟩
      subst h3
      have := hx vs q
      rw [e1] at this; cases this
      exact ⟨Ext.refl, s, e2⟩
  | @new a vs ds q r =>
    simp only [Src.at]
    cases e : ds[i]? with
    | none => exact ⟨vs, q.sq, getElem?_none_of_len r e⟩
    | some d =>
      obtain ⟨v, e1, e2⟩ := RepVs.get r e
      refine ⟨⟨vs, v, q.sq, e1⟩, fun x H3 ⟨h3, hx⟩ => ?_⟩
      subst h3
      have := hx vs q.sq
      rw [e1] at this; cases this
      exact ⟨Ext.refl, s, e2⟩
  | @etup a vs ds q r =>
    simp only [Src.at, enumD, List.getElem?_mapIdx]
    cases e : ds[i]? with
    | none => exact ⟨vs, q, getElem?_none_of_len r e⟩
    | some d =>
      obtain ⟨v, e1, e2⟩ := RepVs.get r e
      refine ⟨⟨vs, v, q, e1⟩, fun x H3 ⟨T, y, hv, hT, h3, hx⟩ => ?_⟩
      have := hx vs q
      rw [e1] at this; cases this
      subst hv; subst h3
      exact ⟨Ext.new hT, s.new hT, RepV.pair hT e2⟩
  | @enew a vs ds q r =>
    simp only [Src.at, enumD, List.getElem?_mapIdx]
    cases e : ds[i]? with
    | none => exact ⟨vs, q.sq, getElem?_none_of_len r e⟩
    | some d =>
      obtain ⟨v, e1, e2⟩ := RepVs.get r e
      refine ⟨⟨vs, v, q.sq, e1⟩, fun x H3 ⟨T, y, hv, hT, h3, hx⟩ => ?_⟩
      have := hx vs q.sq
      rw [e1] at this; cases this
      subst hv; subst h3
      exact ⟨Ext.new hT, s.new hT, RepV.pair hT e2⟩
  | @zip f g a b us vs ds es q r q2 r2 =>
    simp only [Src.at, zipD, List.getElem?_zipWith]
    cases e : ds[i]? with
    | none =>
      cases e2 : es[i]? with
      | none => exact ⟨us, vs, q.sqa, q2.sqa, .inl (getElem?_none_of_len r e)⟩
      | some d2 => exact ⟨us, vs, q.sqa, q2.sqa, .inl (getElem?_none_of_len r e)⟩
    | some d =>
      cases e2 : es[i]? with
      | none => exact ⟨us, vs, q.sqa, q2.sqa, .inr (getElem?_none_of_len r2 e2)⟩
      | some d2 =>
        obtain ⟨v, e1, e3⟩ := RepVs.get r e
        obtain ⟨v2, e4, e5⟩ := RepVs.get r2 e2
        refine ⟨⟨us, vs, v, v2, q.sqa, q2.sqa, e1, e4⟩, fun x H3 ⟨T, y, z, hv, hT, h3, hx, hy⟩ => ?_⟩
        have := hx us q.sqa
        rw [e1] at this; cases this
        have := hy vs q2.sqa
        rw [e4] at this; cases this
        subst hv; subst h3
        refine ⟨Ext.new hT, s.new hT, ?_⟩
        unfold RepV
        exact ⟨T, _, rfl, .inl (.inl upd_same), RepVs.cons (RepV.ext (Ext.new hT) _ _ e3) (RepVs.cons (RepV.ext (Ext.new hT) _ _ e5) RepVs.nil)⟩
  | rng lo n =>
    simp only [Src.at, rangeD, List.getElem?_map]
    by_cases h : i < n
    · rw [List.getElem?_range h]
      refine ⟨h, fun x H3 ⟨h3, hx⟩ => ?_⟩
      subst h3; subst hx
      exact ⟨Ext.refl, s, by unfold RepV; rfl⟩
    · have e : (List.range n)[i]? = none := List.getElem?_eq_none_iff.mpr (by simp; omega)
      rw [e]
      exact Nat.le_of_not_lt h
  | rngC lo c n =>
    simp only [Src.at, rangeCD, List.getElem?_map]
    by_cases h : i < n
    · rw [List.getElem?_range h]
      refine ⟨h, fun x H3 ⟨h3, hx⟩ => ?_⟩
      subst h3; subst hx
      exact ⟨Ext.refl, s, by unfold RepV; rfl⟩
    · have e : (List.range n)[i]? = none := List.getElem?_eq_none_iff.mpr (by simp; omega)
      rw [e]
      exact Nat.le_of_not_lt h
  | @lst n a q =>
    simp only [Src.at]
    cases eo : S[n]? with
    | none => trivial
    | some o =>
      cases o with
      | dic _ _ => trivial
      | fdic _ _ => trivial
      | obj _ _ => trivial
      | lst xs =>
        obtain ⟨vs, hv, r⟩ := s.lst q eo
        have sq : SqL K H a vs := .inl (.inl hv)
        simp only
        cases e : xs[i]? with
        | none => exact ⟨vs, sq, getElem?_none_of_len r e⟩
        | some d =>
          obtain ⟨v, e1, e2⟩ := RepVs.get r e
          refine ⟨⟨vs, v, sq, e1⟩, fun x H3 ⟨h3, hx⟩ => ?_⟩
          subst h3
          have := hx vs sq
          rw [e1] at this; cases this
          exact ⟨Ext.refl, s, e2⟩
  | @enl n a q =>
    simp only [Src.at]
    cases eo : S[n]? with
    | none => trivial
    | some o =>
      cases o with
      | dic _ _ => trivial
      | fdic _ _ => trivial
      | obj _ _ => trivial
      | lst xs =>
        obtain ⟨vs, hv, r⟩ := s.lst q eo
        have sq : SqL K H a vs := .inl (.inl hv)
        simp only
        cases e : xs[i]? with
        | none => exact ⟨vs, sq, getElem?_none_of_len r e⟩
        | some d =>
          obtain ⟨v, e1, e2⟩ := RepVs.get r e
          refine ⟨⟨vs, v, sq, e1⟩, fun x H3 ⟨T, y, hv, hT, h3, hx⟩ => ?_⟩
          have := hx vs sq
          rw [e1] at this; cases this
          subst hv; subst h3
          exact ⟨Ext.new hT, s.new hT, RepV.pair hT e2⟩
end
def DI (X : Cx) (W : WX) (tg iter : Expr) (fi : CI) : Prop := PI X tg iter (tG X.K X.mg (SrcRep X.K) W fi)
section
variable {X : Cx} {W : WX} {tg iter : Expr} {fi : CI} {g : CG} {body : List Stmt} {fb : CS} {pos : Pos} {vs : List Nat}
theorem ds_for (hp : PassesOwn (model X.prog X.w) X.A X.env X.xe) (hc : X.calm = true) (hi : DI X W tg iter fi) (hg : DG X tg g vs) (hb : DSs X W body fb)
    (hs : ∀ x, foldedSetIterable iter X.env x = pure x := by intro _; rfl) : DS X W (.For tg iter body [] pos) (sFor fi g fb) :=
  DS.of (ps_for hp hc hi hg hb hs) fun Dn σ H env ρ S a b c => by
    refine tG.of a b ((PostS.st (rep := SrcRep X.K) a c).mono fun J H1 ⟨ρ1, S1, src, x1, s1, r1, c1⟩ => ?_)
    refine ⟨fun i m σ' H' => ∃ env' ρ' S', RepSt X.K H' ρ' σ' env' ∧ Sim X.K ρ' S' H' ∧ Ext X.K ρ1 H1 ρ' H' ∧ PostS X.K X.mg W ρ' H' (forGo src g fb m i env' S') Dn,
      ⟨src.len S1, env, ρ1, S1, a.ext x1, s1, Ext.refl, c1⟩, fun i m σ' H' hW => ?_⟩
    obtain ⟨env', ρ', S', a', s', x', c'⟩ := hW
    have rr := (r1.ext x').step s' i
    cases q : src.at i S' with
    | none => cases m <;> simp only [forGo, q] at c' <;> exact c'.elim
    | some o =>
      rw [q] at rr
      cases o with
      | none =>
        refine .inl ⟨rr, ?_⟩
        cases m <;> simp only [forGo, q] at c' <;> exact PostS.nxt c' s' a'
      | some d =>
        refine .inr ⟨rr.1, ?_⟩
        cases m with
        | zero => simp only [forGo, q] at c'; exact c'.elim
        | succ m =>
          simp only [forGo, q] at c'
          refine ⟨fun σ'' H'' => ∃ env'' ρ'' S'', RepSt X.K H'' ρ'' σ'' env'' ∧ Sim X.K ρ'' S'' H'' ∧ Ext X.K ρ1 H1 ρ'' H'' ∧ PostS X.K X.mg W ρ'' H'' (forGo src g fb m (i + 1) env'' S'') Dn,
            fun σ'' H'' h => ⟨m, Nat.lt_succ_self m, h⟩, fun x H3 hy => ?_⟩
          obtain ⟨xe, se, re⟩ := rr.2 x H3 hy
          refine ⟨d, env', ρ', S', re, a'.ext xe, se, ?_⟩
          cases q2 : g d env' S' with
          | exc _ _ => rw [q2] at c'; exact c'.elim
          | bad => rw [q2] at c'; exact c'.elim
          | ok env1 S1' =>
            rw [q2] at c'
            simp only [RS.ofG_ok] at c'
            intro σ4 H4 ρ4 x4 s4 a4 _
            refine tS.of a4 s4 ?_
            have c4 := PostS.ext (xe.trans x4) c'
            have xx := x'.trans (xe.trans x4)
            cases q3 : fb env1 S1' with
            | nx e5 S5 => rw [q3] at c4; exact fun σ5 H5 ρ5 x5 s5 a5 => ⟨e5, ρ5, S5, a5, s5, xx.trans x5, PostS.ext x5 c4⟩
            | ct e5 S5 => rw [q3] at c4; exact fun σ5 H5 ρ5 x5 s5 a5 => ⟨e5, ρ5, S5, a5, s5, xx.trans x5, PostS.ext x5 c4⟩
            | bk e5 S5 => rw [q3] at c4; exact c4
            | rt d5 S5 => rw [q3] at c4; exact c4
            | exc y e5 S5 => rw [q3] at c4; exact c4
            | bad => rw [q3] at c4; exact c4.elim
end

/-! ### while, with so many turns at most -/
def whGo (t : CT) (body : CS) : Nat → Env → Sto → RS
  | 0, _, _ => .bad
  | k + 1, env, S => (t env S).st env fun c S => if c = true then (body env S).loop fun env2 S2 => whGo t body k env2 S2 else .nx env S
def sWhile (n : Nat) (t : CT) (body : CS) : CS := fun env S => whGo t body n env S
section
variable {X : Cx} {W : WX} {c : Expr} {t : CT} {body : List Stmt} {fb : CS} {pos : Pos}
theorem ds_while (n : Nat) (hp : PassesOwn (model X.prog X.w) X.A X.env X.xe) (hc : DT X W c t) (hb : DSs X W body fb) : DS X W (.While c body [] pos) (sWhile n t fb) :=
  DS.of (ps_while hp hc hb) fun Dn σ H env ρ S a b c => by
    refine ⟨fun m σ' H' => ∃ env' ρ' S', RepSt X.K H' ρ' σ' env' ∧ Sim X.K ρ' S' H' ∧ PostS X.K X.mg W ρ' H' (whGo t fb m env' S') Dn, ⟨n, env, ρ, S, a, b, c⟩, fun m σ' H' hW => ?_⟩
    obtain ⟨env', ρ', S', a', s', c'⟩ := hW
    cases m with
    | zero => exact c'.elim
    | succ m =>
      refine tG.of a' s' ((PostS.st (rep := eqR) a' c').mono fun v H1 ⟨ρ1, S1, x, x1, s1, r1, c1⟩ => ?_)
      cases r1
      cases v with
      | false => exact PostS.nxt c1 s1 (a'.ext x1)
      | true =>
        refine ⟨fun σ'' H'' => ∃ env'' ρ'' S'', RepSt X.K H'' ρ'' σ'' env'' ∧ Sim X.K ρ'' S'' H'' ∧ PostS X.K X.mg W ρ'' H'' (whGo t fb m env'' S'') Dn, fun σ'' H'' h => ⟨m, Nat.lt_succ_self m, h⟩, tS.of (a'.ext x1) s1 ?_⟩
        simp only [if_true] at c1
        cases q3 : fb env' S1 with
        | nx e5 S5 => rw [q3] at c1; exact fun σ5 H5 ρ5 x5 s5 a5 => ⟨e5, ρ5, S5, a5, s5, PostS.ext x5 c1⟩
        | ct e5 S5 => rw [q3] at c1; exact fun σ5 H5 ρ5 x5 s5 a5 => ⟨e5, ρ5, S5, a5, s5, PostS.ext x5 c1⟩
        | bk e5 S5 => rw [q3] at c1; exact c1
        | rt d5 S5 => rw [q3] at c1; exact c1
        | exc y e5 S5 => rw [q3] at c1; exact c1
        | bad => rw [q3] at c1; exact c1.elim
end

/-! ## defs -/
/-- a body as a function of the arguments: np of them, nn slots in all -/
def fnD (np nn : Nat) (body : CS) : List D → Sto → R D := fun ds S =>
  if ds.length = np then match body (ds.map some ++ List.replicate (nn - np) none) S with
    | .rt d S' => .ok d S'
    | .nx _ S' => .ok .non S'
    | .exc x _ S' => .exc x S'
    | _ => .bad
  else .bad
def fnG (np : Nat) (F : List D → Sto → R D) : List D → Sto → R D := fun ds S => if ds.length = np then F ds S else .bad
def spD (K : PySem.W.Frag) (mg : Str → Option Value) (np : Nat) (F : List D → Sto → R D) : Sp := fun vs H Q E => ∃ ds ρ S, RepVs K H ρ ds vs ∧ Sim K ρ S H ∧ Post K mg (RepV K) E ρ H (fnG np F ds S) Q
theorem spD.len {K : PySem.W.Frag} {mg : Str → Option Value} {np : Nat} {F : List D → Sto → R D} {vs : List V} {H : Hp} {Q : VK} {E : XK} (h : spD K mg np F vs H Q E) : vs.length = np := by
  obtain ⟨ds, ρ, S, r, s, c⟩ := h
  unfold fnG at c
  split at c
  · rename_i e; rw [RepVs.length r]; exact e
  · exact c.elim
section
variable {X : Cx} {W : WX} {k : Nat} {f : Addr} {fd : FuncData} {ps : List Str} {np : Nat} {F : List D → Sto → R D} {x : Str} {p pos : Pos} {e : Expr} {es : List Expr} {fa : CA}
theorem de_call (G : FnOk X.prog X.w X.K X.mg X.base (CX X.prog X.w) k f fd ps (spD X.K X.mg np F)) (hr : Room k X.A) (hg : Gl X x) (hm : X.mg x = some (.ref f)) (hk : PySem.W.keepIn X.K (.ref f) = true) (hb : Binds X.K fd ps []) (tk : Takes X W)
    (ha : DA X W (e :: es) fa) (hdb : (x == ("__debug__" : Str)) = false := by decide) (he : starEach (e :: es) X.env = (false, eval e X.env) :: starEach es X.env := by rfl) (hpl : (backTo pos (starEach es X.env)).any (·.1) = false := by rfl) :
    DE X W (.Call (.Name x p) (e :: es) [] pos) (eCall (fnG np F) fa) :=
  DE.of (pe_callS (E := WE W) G hr hg hm hk hb (fun σ => passAt tk σ) ha hdb he hpl) fun σ H Q env ρ S a b c =>
    tG.of a b ((Post.bind (rep := RepVs X.K) c).mono fun vs H1 ⟨ρ1, S1, d1, x1, s1, r1, c1⟩ => ⟨d1, ρ1, S1, r1, s1, c1⟩)
theorem takesF (X : Cx) : Takes X (fun _ _ _ _ => False) := fun u s' ⟨_, _, _, _, _, _, _, _, _, _, _, _, _, _, _, _, w⟩ => w.elim
end
end J

namespace J
open PySem PySem.Spec PyProof.Rows L2

/-! ## comprehensions of any number of clauses: the model's turns -/
theorem compTurn_out (elt tg iter tg1 iter1 : Expr) (ifs ifs1 : List Expr) (gens : List Comprehension) (scope : Scope) (pos : Pos) (d : Nat) (it acc : Value) (env : PySem.Env)
    (h : gens[d]? = some ⟨tg, iter, ifs, 0⟩) (h1 : gens[d + 1]? = some ⟨tg1, iter1, ifs1, 0⟩) :
    compTurn (.ListComp elt gens scope pos) d it acc env = (do
      standAt iter.pos
      match ← pyNext it with
      | none => pure (.done .next)
      | some v =>
        letOwnedTupleGo tg it v
        assign tg env v
        let mut ok := true
        for c in ifs do
          if ok then ok ← isTrue c env (eval c env)
        if ok then
          let x ← eval iter1 env
          standAt iter1.pos
          let x ← foldedSetIterable iter1 env x
          let _ ← runOwn (.compStart (.ListComp elt gens scope pos) (d + 1) (← holding [x] (pyIter x)) acc env) env
        again (.compLoop (.ListComp elt gens scope pos) d it acc env)) := by
  unfold compTurn
  simp only [h, h1]
  rfl
theorem compTurn_in (elt tg iter : Expr) (ifs : List Expr) (gens : List Comprehension) (scope : Scope) (pos : Pos) (d : Nat) (it acc : Value) (env : PySem.Env)
    (h : gens[d]? = some ⟨tg, iter, ifs, 0⟩) (h1 : gens[d + 1]? = none) :
    compTurn (.ListComp elt gens scope pos) d it acc env = (do
      standAt iter.pos
      match ← pyNext it with
      | none => pure (.done .next)
      | some v =>
        letOwnedTupleGo tg it v
        assign tg env v
        let mut ok := true
        for c in ifs do
          if ok then ok ← isTrue c env (eval c env)
        if ok then
          (do let _ ← call (.builtin "list.append") [acc, ← eval elt env])
        again (.compLoop (.ListComp elt gens scope pos) d it acc env)) := by
  unfold compTurn
  simp only [h, h1]
  rfl

section
variable {prog : Program} {w : World} {A : Around} {R : Result → Shared → Prop} {s : Shared} {elt tg iter tg1 iter1 : Expr} {ifs ifs1 : List Expr} {gens : List Comprehension} {scope : Scope} {pos : Pos} {it acc : Value} {env : PySem.Env} {d : Nat}
/-- what stands behind a clause's tests -/
def After (prog : Program) (w : World) (A : Around) (elt : Expr) (gens : List Comprehension) (scope : Scope) (pos : Pos) (d : Nat) (acc : Value) (env : PySem.Env) (Q : Shared → Prop) (s : Shared) : Prop :=
  match gens[d + 1]? with
  | some g' => wpAny (model prog w) A (eval g'.iter env) (fun x s₄ => wpAny (model prog w) A (pyIter x) (fun it1 s₅ =>
      codeAny (model prog w) A (.compStart (.ListComp elt gens scope pos) (d + 1) it1 acc env) (fun r s' => match r with
        | .ok _ => Q s'
        | .error _ => False) s₅) (fun _ _ => False) s₄) (fun _ _ => False) s
  | none => wpAny (model prog w) A (eval elt env) (fun x s₄ => wpAny (model prog w) A (call (.builtin "list.append") [acc, x]) (fun _ s₅ => Q s₅) (fun _ _ => False) s₄) (fun _ _ => False) s
theorem compLoop_at (h : gens[d]? = some ⟨tg, iter, ifs, 0⟩) (hs : ∀ g', gens[d + 1]? = some g' → g'.is_async = 0 ∧ ∀ x, foldedSetIterable g'.iter env x = pure x) (I : Nat → Shared → Prop)
    (turn : ∀ n s, I n s → wpAny (model prog w) A (pyNext it) (fun r s₁ => match r with
      | none => R (.ok .next) s₁
      | some v => wpAny (model prog w) A (letOwnedTupleGo tg it v) (fun _ s₁' => wpAny (model prog w) A (assign tg env v) (fun _ s₂ =>
          wpAny (model prog w) A (forIn ifs true fun c r => if r = true then do let ok ← isTrue c env (eval c env); pure (ForInStep.yield ok) else pure (ForInStep.yield r)) (fun ok s₃ =>
            if ok = true then After prog w A elt gens scope pos d acc env (fun s' => ∃ m, m < n ∧ I m s') s₃
            else ∃ m, m < n ∧ I m s₃) (fun _ _ => False) s₂) (fun _ _ => False) s₁') (fun _ _ => False) s₁) (fun _ _ => False) s)
    (n : Nat) (h0 : I n s) :
    codeAny (model prog w) A (.compLoop (.ListComp elt gens scope pos) d it acc env) R s := by
  refine codeAny_loop rfl I (fun n s hI => ?_) n h0
  show wpAny _ A ((compTurn (.ListComp elt gens scope pos) d it acc env).onRaise (fun x => do noteFrame x env; theTreesLotGoes x)) _ _ s
  refine wpAny_noted ?_
  cases q : gens[d + 1]? with
  | none =>
    rw [compTurn_in _ _ _ _ _ _ _ _ _ _ _ h q]
    refine wpAny_bind (wpAny_standAt (wpAny_bind (wpAny_mono (turn n s hI) (fun r s₁ h₁ => ?_) fun _ _ h' => h'.elim)))
    cases r with
    | none => exact wpAny_pure h₁
    | some v =>
      refine wpAny_bind (wpAny_mono h₁ (fun _ s₁' h₁' => ?_) fun _ _ h' => h'.elim)
      refine wpAny_bind (wpAny_mono h₁' (fun _ s₂ h₂ => wpAny_bind (wpAny_mono h₂ (fun ok s₃ h₃ => ?_) fun _ _ h' => h'.elim)) fun _ _ h' => h'.elim)
      cases ok with
      | false => exact wpAny_pure ⟨rfl, h₃⟩
      | true =>
        simp only [if_true, After, q] at h₃
        exact wpAny_bind (wpAny_bind (wpAny_mono h₃ (fun x s₄ h₄ => wpAny_bind (wpAny_mono h₄ (fun _ s₅ h₅ => wpAny_pure (wpAny_pure ⟨rfl, h₅⟩)) fun _ _ h' => h'.elim)) fun _ _ h' => h'.elim))
  | some g' =>
    obtain ⟨tg1, iter1, ifs1, as1⟩ := g'
    obtain ⟨ha, hf⟩ := hs _ q
    simp only at ha hf
    subst ha
    rw [compTurn_out _ _ _ _ _ _ _ _ _ _ _ _ _ _ h q]
    refine wpAny_bind (wpAny_standAt (wpAny_bind (wpAny_mono (turn n s hI) (fun r s₁ h₁ => ?_) fun _ _ h' => h'.elim)))
    cases r with
    | none => exact wpAny_pure h₁
    | some v =>
      refine wpAny_bind (wpAny_mono h₁ (fun _ s₁' h₁' => ?_) fun _ _ h' => h'.elim)
      refine wpAny_bind (wpAny_mono h₁' (fun _ s₂ h₂ => wpAny_bind (wpAny_mono h₂ (fun ok s₃ h₃ => ?_) fun _ _ h' => h'.elim)) fun _ _ h' => h'.elim)
      cases ok with
      | false => exact wpAny_pure ⟨rfl, h₃⟩
      | true =>
        simp only [if_true, After, q] at h₃
        refine wpAny_bind (wpAny_mono h₃ (fun x s₄ h₄ => ?_) fun _ _ h' => h'.elim)
        refine wpAny_bind (wpAny_standAt (wpAny_bind (wpAny_of_eq (hf x) (wpAny_bind (wpAny_holding (wpAny_mono h₄ (fun it1 s₅ h₅ => ?_) fun _ _ h' => h'.elim))))))
        refine wpAny_bind (wpAny_runOwn ?_)
        rw [Around.mark_none]
        refine codeAny_mono h₅ fun r s' hr => ?_
        cases r with
        | ok f =>
          first
            | exact wpAny_pure ⟨rfl, hr⟩
            | exact wpAny_bind (wpAny_pure (wpAny_pure ⟨rfl, hr⟩))
        | error e => exact hr.elim
/-- a further clause's start -/
theorem compStart_at (hg : gens[d]? = some ⟨tg, iter, ifs, 0⟩) (h0 : codeAny (model prog w) A (.compLoop (.ListComp elt gens scope pos) d it acc env) R s)
    (h : wpAny (model prog w) A (pyIter it) (fun it' s' => codeAny (model prog w) A (.compLoop (.ListComp elt gens scope pos) d it' acc env) R s') (fun _ _ => False) s) :
    codeAny (model prog w) A (.compStart (.ListComp elt gens scope pos) d it acc env) R s := by
  refine codeAny_of_tree ?_
  show wpAny _ _ ((compStart (.ListComp elt gens scope pos) d it acc env).onRaise (fun x => do noteFrame x env; standAt theWindowsPlace)) _ _ s
  refine wpAny_notedAt ?_
  unfold compStart
  have hc : (clausesOf (.ListComp elt gens scope pos))[d]? = some ⟨tg, iter, ifs, 0⟩ := hg
  simp only [hc]
  show wpAny _ _ (ask >>= _) _ _ s
  refine wpAny_bind (wpAny_askSetting (wpAny_ite ?_))
  split
  · first
      | exact wpAny_bind (wpAny_pure (wpAny_pure (And.intro rfl h0)))
      | exact wpAny_pure (And.intro rfl h0)
  · first
      | exact wpAny_bind (wpAny_rule (wpAny_bind (wpAny_standAt (wpAny_bind (wpAny_mono h (fun it' s' h' => wpAny_pure (And.intro rfl h')) fun _ _ x => x.elim)))))
      | (refine wpAny_bind (wpAny_rule ?_); show wpAny _ _ (standAt iter.pos >>= _) _ _ s; exact wpAny_bind (wpAny_standAt (wpAny_bind (wpAny_mono h (fun it' s' h' => wpAny_pure (And.intro rfl h')) fun _ _ x => x.elim))))
end
end J

namespace J
open PySem PySem.Spec PyProof.Rows L2

/-! ## comprehensions, as plain functions -/
def wipeE (env : Env) : List Nat → Env
  | [] => env
  | v :: vs => (wipeE env vs).set v none
def R.nox {α : Type} : R α → R α
  | .ok a S => .ok a S
  | _ => .bad
@[simp] theorem R.nox_ok {α : Type} (a : α) (S : Sto) : (R.ok a S).nox = .ok a S := Eq.trans rfl rfl
abbrev CC := Env → List D → Sto → R (List D)
def cElt (elt : CE) : CC := fun env acc S => (elt env S).nox.bind fun y S => if acc.length < sLim then .ok (acc ++ [y]) S else .bad
def cGo (src : Src) (g : CG) (ts : CT) (inner : CC) : Nat → Nat → Env → List D → Sto → R (List D)
  | 0, i, env, acc, S => match src.at i S with
    | some none => .ok acc S
    | _ => .bad
  | k + 1, i, env, acc, S => match src.at i S with
    | none => .bad
    | some none => .ok acc S
    | some (some d) => (g d env S).nox.bind fun env1 S1 => (ts env1 S1).nox.bind fun b S2 =>
      if b = true then (inner env1 acc S2).bind fun acc S3 => cGo src g ts inner k (i + 1) env acc S3 else cGo src g ts inner k (i + 1) env acc S2
def cFor (fi : CI) (g : CG) (ts : CT) (vs : List Nat) (inner : CC) : CC := fun env acc S => (fi env S).bind fun src S => (cGo src g ts inner (src.len S) 0 (wipeE env vs) acc S).nox
def cForI (fi : CI) (g : CG) (ts : CT) (vs : List Nat) (inner : CC) : CC := fun env acc S => (fi env S).nox.bind fun src S => cGo src g ts inner (src.len S) 0 (wipeE env vs) acc S
def aComp (c : CC) : CA := fun env S => c env [] S
def tYesD : CT := fun _ S => .ok true S
def WF : WX := fun _ _ _ _ => False
def DTs (X : Cx) (W : WX) (ifs : List Expr) (f : CT) : Prop := PTs X ifs (tG X.K X.mg eqR W f)
theorem PTs.mono {X : Cx} {e : List Expr} {t t' : TT} (h : PTs X e t) (q : ∀ σ H Q, t' σ H Q → t σ H Q) : PTs X e t' := ⟨fun pins s σ H Q I z => h.run pins s σ H Q I (q _ _ _ z)⟩
theorem dts_nil {X : Cx} {W : WX} : DTs X W [] tYesD := PTs.mono pts_nil fun σ H Q ⟨env, ρ, S, a, b, c⟩ => c.ret b rfl
theorem dts_one {X : Cx} {W : WX} {c : Expr} {t : CT} (h : DT X W c t) : DTs X W [c] t := pts_one h

theorem wipeE_length (env : Env) : ∀ vs : List Nat, (wipeE env vs).length = env.length
  | [] => rfl
  | v :: vs => by unfold wipeE; rw [List.length_set, wipeE_length]
section
variable {K : PySem.W.Frag} {H : Hp} {ρ : Rg} {σ : L2.St} {env : Env}
theorem RepSt.wipe (a : RepSt K H ρ σ env) : ∀ vs : List Nat, RepSt K H ρ (L2.wipe σ vs) (wipeE env vs)
  | [] => a
  | v :: vs => (RepSt.wipe a vs).unset
/-- knowing less -/
theorem upd_del' {H : Hp} {a : Addr} {o : HO} : upd (del H a) a o = upd H a o := by
  funext b
  by_cases e : b = a
  · subst e; rw [upd_same, upd_same]
  · rw [upd_ne e, upd_ne e, del_ne e]
end

/-- what was known is known, but at us -/
def KeepOut (us : List Nat) (σ σ' : L2.St) : Prop := σ'.length = σ.length ∧ ∀ (j : Nat) v, j ∉ us → σ[j]? = some (some v) → σ'[j]? = some (some v)
theorem KeepOut.refl {us : List Nat} {σ : L2.St} : KeepOut us σ σ := ⟨rfl, fun _ _ _ h => h⟩
theorem KeepOut.wipe {us : List Nat} {σ : L2.St} : KeepOut us σ (L2.wipe σ us) := ⟨wipe_length _ _, fun j v n h => by rw [wipe_out n]; exact h⟩
/-- what stands behind a clause's tests keeps its promise; the new list at Dd is out of reach -/
def InnerOk (B : Cx) (Dd : Addr) (elt : Expr) (gens : List Comprehension) (scope : Scope) (pos : Pos) (d : Nat) (us : List Nat) (c : CC) : Prop :=
  ∀ (pins : List (Addr × Obj)) (s : Shared) (σ : L2.St) (H1 : Hp) (accV : List V) (env : Env) (ρ : Rg) (S : Sto) (acc acc' : List D) (S' : Sto) (Qs : Shared → Prop),
    Inv B pins σ (upd H1 Dd (.lst accV)) s → H1 Dd = none → RepSt B.K H1 ρ σ env → Sim B.K ρ S H1 → RepVs B.K H1 ρ acc accV → c env acc S = .ok acc' S' →
    (∀ s' σ' H1' ρ' accV', Inv B pins σ' (upd H1' Dd (.lst accV')) s' → KeepOut us σ σ' → H1' Dd = none → Ext B.K ρ H1 ρ' H1' → Sim B.K ρ' S' H1' → RepVs B.K H1' ρ' acc' accV' → Qs s') →
    After B.prog B.w B.A elt gens scope pos d (.ref Dd) B.env Qs s

theorem nox_bind_ok {α β : Type} {r : R α} {f : α → Sto → R β} {b : β} {S : Sto} (h : r.nox.bind f = .ok b S) : ∃ a S1, r = .ok a S1 ∧ f a S1 = .ok b S := by
  cases r with
  | ok a S1 => exact ⟨a, S1, rfl, h⟩
  | exc x S1 => cases h
  | bad => cases h
theorem bind_okD {α β : Type} {r : R α} {f : α → Sto → R β} {b : β} {S : Sto} (h : r.bind f = .ok b S) : ∃ a S1, r = .ok a S1 ∧ f a S1 = .ok b S := by
  cases r with
  | ok a S1 => exact ⟨a, S1, rfl, h⟩
  | exc x S1 => cases h
  | bad => cases h

section
variable {B : Cx} {Dd : Addr} {elt : Expr} {gens : List Comprehension} {scope : Scope} {pos : Pos} {d : Nat}
/-- a value that is reckoned while the new list is out of reach -/
theorem run_hid {α β : Type} {rep : Hp → Rg → α → β → Prop} {f : Env → Sto → R α} {σ : L2.St} {H1 : Hp} {accV : List V} {env : Env} {ρ : Rg} {S S' : Sto} {x : α} {Q : β → Hp → Prop} (hD : H1 Dd = none) (a : RepSt B.K H1 ρ σ env) (s : Sim B.K ρ S H1) (e : f env S = .ok x S')
    (q : ∀ v H' ρ1, Ext B.K (ρ.hide Dd) (upd H1 Dd (.lst accV)) ρ1 H' → Sim B.K ρ1 S' H' → rep H' ρ1 x v → Q v H') : tG B.K B.mg rep WF f σ (upd H1 Dd (.lst accV)) Q := by
  refine tG.of (a.hide hD) (s.hide hD) ?_
  rw [e]
  exact fun v H' ρ' x1 s1 r1 => q v H' ρ' x1 s1 r1
theorem notin_hid {H1 : Hp} {ρ : Rg} {S : Sto} {K : PySem.W.Frag} (s : Sim K ρ S H1) (hD : H1 Dd = none) : Dd ∉ ρ.hid := fun z => (s.hid Dd z).1 hD
theorem back {H1 H' : Hp} {ρ ρ1 : Rg} {S S' : Sto} {accV : List V} {K : PySem.W.Frag} (s : Sim K ρ S H1) (hD : H1 Dd = none) (x1 : Ext K (ρ.hide Dd) (upd H1 Dd (.lst accV)) ρ1 H') (s1 : Sim K ρ1 S' H') :
    H' Dd = some (.lst accV) ∧ ∃ ρ2, ρ1 = ρ2.hide Dd ∧ Ext K ρ H1 ρ2 (del H' Dd) ∧ Sim K ρ2 S' (del H' Dd) := by
  have hD' : H' Dd = some (.lst accV) := x1.old Dd _ upd_same (.inl (s.notst hD))
  obtain ⟨ρ2, rfl, x2⟩ := Ext.unhide hD x1 hD' NTup.lst
  refine ⟨hD', ρ2, rfl, x2, s1.unhide hD' NTup.lst ?_ ?_⟩
  · rw [x2.hid]
    exact notin_hid s hD
  · exact x1.nolock upd_same (s.notst hD) fun z => by
      obtain ⟨es, ep, e⟩ := s.fz Dd z
      rw [hD] at e; cases e
theorem inner_elt (hxe : ∀ e s, B.xe e s → False) {f : CE} (hg : gens[d + 1]? = none) (he : DE B WF elt f) : InnerOk B Dd elt gens scope pos d [] (cElt f) := by
  intro pins s σ H1 accV env ρ S acc acc' S' Qs I hD a sm r e q
  unfold After
  rw [hg]
  obtain ⟨y, S1, e1, e2⟩ := nox_bind_ok e
  by_cases hl : acc.length < sLim
  · simp only [hl, if_true, R.ok.injEq] at e2
    obtain ⟨rfl, rfl⟩ := e2
    refine thnF (Q := EP B pins σ (fun v H' => ∃ ρ1, Ext B.K (ρ.hide Dd) (upd H1 Dd (.lst accV)) ρ1 H' ∧ Sim B.K ρ1 S1 H' ∧ RepV B.K H' ρ1 y v)) ?_ fun u s2 ⟨v, H2, I2, rv, ρ1, x1, s1, r1⟩ => ?_
    · exact wpAny_mono (he.run pins s σ _ _ I (run_hid hD a sm e1 fun v H' ρ1 x1 s1 r1 => ⟨ρ1, x1, s1, r1⟩)) (fun _ _ h => h) (fun _ _ h => hxe _ _ h)
    · obtain ⟨hD', ρ2, rfl, x2, s2'⟩ := back sm hD x1 s1
      refine app_ok I2 hD' (by rw [RepVs.length r]; exact hl) rv fun s3 I3 => ?_
      refine q s3 σ (del H2 Dd) ρ2 (accV ++ [v]) (by rw [upd_del']; exact I3) KeepOut.refl del_same x2 s2' ?_
      exact RepVs.append (RepVs.ext x2 _ _ r) (RepVs.cons (RepV.unhide hD' NTup.lst (s2'.notst del_same) _ _ r1) RepVs.nil)
  · simp only [hl, if_false] at e2
    cases e2
/-- one turn of a clause's loop, and the loop -/
theorem clause_loop (hxe : ∀ e s, B.xe e s → False) (hc : B.calm = true) {tg iter : Expr} {ifs : List Expr} {g : CG} {ts : CT} {vs us : List Nat} {inner : CC} {Rr : Result → Shared → Prop}
    (hg : gens[d]? = some ⟨tg, iter, ifs, 0⟩) (hs : ∀ g', gens[d + 1]? = some g' → g'.is_async = 0 ∧ ∀ x, foldedSetIterable g'.iter B.env x = pure x)
    (pg : DG B tg g vs) (pt : DTs B WF ifs ts) (hin : InnerOk B Dd elt gens scope pos d us inner)
    {pins : List (Addr × Obj)} {it : Addr} {fp : List Addr} {tn : Nat → Heap → Prop} {J : It} (T : Turn B.prog B.w B.K tg J fp it tn) (fpo : ∀ H', (∀ b ∈ fp, H' b = none) → ∀ b ∈ fp, FpOk B pins H' b)
    {src : Src} {σw : L2.St} {envw : Env} {accF : List D} {SF : Sto} {H0 : Hp} {ρ0 : Rg}
    (hR : ∀ s' H1' ρ' accV', Inv B pins σw (upd H1' Dd (.lst accV')) s' → H1' Dd = none → Ext B.K ρ0 H0 ρ' H1' → Sim B.K ρ' SF H1' → RepVs B.K H1' ρ' accF accV' → (∀ b ∈ fp, (upd H1' Dd (.lst accV')) b = none) → Rr (.ok .next) s')
    (hw : ∀ σ' σ'', Only vs σw σ' → KeepOut us σ' σ'' → (σw).length = σ''.length ∧ ∀ (j : Nat) v, σw[j]? = some (some v) → σ''[j]? = some (some v)) :
    ∀ (k i : Nat) (s : Shared) (H1 : Hp) (ρ : Rg) (accV : List V) (acc : List D) (S : Sto), Inv B pins σw (upd H1 Dd (.lst accV)) s → tn i s.heap → (∀ b ∈ fp, (upd H1 Dd (.lst accV)) b = none) → H1 Dd = none → Ext B.K ρ0 H0 ρ H1 → SrcRep B.K H1 ρ src J → RepSt B.K H1 ρ σw envw → Sim B.K ρ S H1 → RepVs B.K H1 ρ acc accV →
      cGo src g ts inner k i envw acc S = .ok accF SF →
      codeAny (model B.prog B.w) B.A (.compLoop (.ListComp elt gens scope pos) d (.ref it) (.ref Dd) B.env) Rr s := by
  intro k i s H1 ρ accV acc S I st n hD x0 sr a sm ra e
  refine compLoop_at hg hs (fun k s => ∃ i H1 ρ accV acc S, Inv B pins σw (upd H1 Dd (.lst accV)) s ∧ tn i s.heap ∧ (∀ b ∈ fp, (upd H1 Dd (.lst accV)) b = none) ∧ H1 Dd = none ∧ Ext B.K ρ0 H0 ρ H1 ∧ SrcRep B.K H1 ρ src J ∧ RepSt B.K H1 ρ σw envw ∧ Sim B.K ρ S H1 ∧ RepVs B.K H1 ρ acc accV ∧ cGo src g ts inner k i envw acc S = .ok accF SF) ?_ k ⟨i, H1, ρ, accV, acc, S, I, st, n, hD, x0, sr, a, sm, ra, e⟩
  clear I st n hD x0 sr a sm ra e
  rintro k s ⟨i, H1, ρ, accV, acc, S, I, st, n, hD, x0, sr, a, sm, ra, e⟩
  have stp := (sr.hide (o := .lst accV) hD).step (sm.hide hD) i
  cases q : src.at i S with
  | none => cases k <;> simp only [cGo, q] at e <;> cases e
  | some o =>
    rw [q] at stp
    cases o with
    | none =>
      have e2 : accF = acc ∧ SF = S := by
        cases k <;> simp only [cGo, q, R.ok.injEq] at e <;> exact ⟨e.1.symm, e.2.symm⟩
      obtain ⟨rfl, rfl⟩ := e2
      refine thnF (T.done B rfl rfl rfl hc i pins s σw _ (fun _ _ => False) I (fpo _ n) st stp) fun r s6 ⟨hr, I6⟩ => ?_
      subst hr
      exact hR s6 H1 ρ accV I6 hD x0 sm ra n
    | some dd =>
      cases k with
      | zero => simp only [cGo, q] at e; cases e
      | succ k =>
        simp only [cGo, q] at e
        obtain ⟨env1, S1, eg, e⟩ := nox_bind_ok e
        obtain ⟨b, S2, et, e⟩ := nox_bind_ok e
        refine thnF (T.item B rfl rfl rfl hc i pins s σw _ (fun _ _ => False) I (fpo _ n) st stp.1) fun r s6 ⟨u, hr, h6⟩ => ?_
        subst hr
        refine thnF h6 fun _ s7 ⟨x, H7, I7, r7, y7, st7, n7⟩ => ?_
        obtain ⟨x7, sm7, rd7⟩ := stp.2 x H7 y7
        obtain ⟨hD7, ρ7, eρ, xx7, sm7'⟩ := back sm hD x7 sm7
        obtain ⟨rfl, -⟩ : ρ7 = ρ ∧ True := ⟨by cases ρ; cases ρ7; simp [Rg.hide] at eρ; simp [eρ], trivial⟩
        have I7' := I7.pinned (fpo _ n7) (T.obj _ _ st7)
        have a7 : RepSt B.K H7 (ρ7.hide Dd) σw envw := (a.hide hD).ext x7
        -- the target
        have tgt : wpAny (model B.prog B.w) B.A (assign tg B.env u) (fun _ s' => ∃ σ' H', Inv B (pins ++ pinsAt fp s7.heap) σ' H' s' ∧ (∃ ρ8, Ext B.K (ρ7.hide Dd) H7 ρ8 H' ∧ Sim B.K ρ8 S1 H' ∧ RepSt B.K H' ρ8 σ' env1 ∧ Only vs σw σ')) B.xe s7 :=
          pg.run _ s7 σw H7 x u _ I7' r7 ⟨dd, envw, ρ7.hide Dd, S, rd7, a7, sm7, by rw [eg]; exact fun σ' H' ρ' x' s' a' o' => ⟨ρ', x', s', a', o'⟩⟩
        refine thnF (wpAny_mono tgt (fun _ _ h => h) fun _ _ h => hxe _ _ h) fun _ s8 ⟨σ8, H8, I8, ρ8, x8, sm8, a8, o8⟩ => ?_
        -- the tests
        have tst : wpAny (model B.prog B.w) B.A (forIn ifs true fun c r => if r = true then do let ok ← isTrue c B.env (eval c B.env); pure (ForInStep.yield ok) else pure (ForInStep.yield r)) (TP B (pins ++ pinsAt fp s7.heap) σ8 (fun b' H' => b' = b ∧ ∃ ρ9, Ext B.K ρ8 H8 ρ9 H' ∧ Sim B.K ρ9 S2 H')) B.xe s8 :=
          pt.run _ s8 σ8 H8 _ I8 (tG.of a8 sm8 (by rw [et]; exact fun v H' ρ' x' s' r' => ⟨r'.symm, ρ', x', s'⟩))
        refine thnF (wpAny_mono tst (fun _ _ h => h) fun _ _ h => hxe _ _ h) fun b' s9 ⟨H9, I9, hb, ρ9, x9, sm9⟩ => ?_
        subst hb
        -- back to the heap without the new list
        obtain ⟨hD9, ρa, eρa, xa, sma⟩ := back sm hD (x7.trans (x8.trans x9)) sm9
        have I9' : Inv B (pins ++ pinsAt fp s7.heap) σ8 (upd (del H9 Dd) Dd (.lst accV)) s9 := by rw [upd_del hD9]; exact I9
        have a9 : RepSt B.K (del H9 Dd) ρa σ8 env1 := RepSt.unhide hD9 NTup.lst (sma.notst del_same) (by rw [← eρa]; exact a8.ext x9)
        -- the turn's end
        have fin : ∀ {s' : Shared} {σ9 : L2.St} {H1' : Hp} {ρ' : Rg} {accV' : List V} {acc' : List D} {S' : Sto}, Inv B (pins ++ pinsAt fp s7.heap) σ9 (upd H1' Dd (.lst accV')) s' → KeepOut us σ8 σ9 → H1' Dd = none → Ext B.K ρa (del H9 Dd) ρ' H1' → Sim B.K ρ' S' H1' → RepVs B.K H1' ρ' acc' accV' → cGo src g ts inner k (i + 1) envw acc' S' = .ok accF SF →
            ∃ m, m < k + 1 ∧ ∃ i H1 ρ accV acc S, Inv B pins σw (upd H1 Dd (.lst accV)) s' ∧ tn i s'.heap ∧ (∀ b ∈ fp, (upd H1 Dd (.lst accV)) b = none) ∧ H1 Dd = none ∧ Ext B.K ρ0 H0 ρ H1 ∧ SrcRep B.K H1 ρ src J ∧ RepSt B.K H1 ρ σw envw ∧ Sim B.K ρ S H1 ∧ RepVs B.K H1 ρ acc accV ∧ cGo src g ts inner m i envw acc S = .ok accF SF := by
          intro s' σ9 H1' ρ' accV' acc' S' I' hk9 hD' x' sm' ra' e'
          have pin' : ∀ b ∈ fp, ∀ o, s7.heap.get? b = some o → s'.heap.get? b = some o ∧ (upd H1' Dd (.lst accV')) b = none := fun b hb o e =>
            let z := I'.pin (b, o) (List.mem_append_right _ (List.mem_append_right _ (mem_pinsAt hb e)))
            ⟨z.1, z.2.1⟩
          obtain ⟨hl, hk⟩ := hw σ8 σ9 o8 hk9
          refine ⟨k, Nat.lt_succ_self k, i + 1, H1', ρ', accV', acc', S', (I'.unpinned).weak hl hk, T.keep _ _ _ st7 fun b hb o e => (pin' b hb o e).1, fun b hb => ?_, hD', x0.trans (xa.trans x'), sr.ext (xa.trans x'), a.ext (xa.trans x'), sm', ra', e'⟩
          obtain ⟨o, e, _⟩ := T.obj _ _ st7 b hb
          exact (pin' b hb o e).2
        cases b' with
        | false =>
          simp only [Bool.false_eq_true, if_false] at e ⊢
          exact fin I9' KeepOut.refl del_same Ext.refl sma (RepVs.ext xa _ _ ra) e
        | true =>
          simp only [if_true] at e ⊢
          obtain ⟨acc2, S3, ei, e⟩ := bind_okD e
          exact hin (pins ++ pinsAt fp s7.heap) s9 σ8 (del H9 Dd) accV env1 ρa S2 acc acc2 S3 _ I9' del_same a9 sma (RepVs.ext xa _ _ ra) ei fun s' σ' H1' ρ' accV' I' hk' hD' x' sm' ra' => fin I' hk' hD' x' sm' ra' e
theorem only_less {σ σ' σ'' : L2.St} {vs us : List Nat} (h : Only vs (wipe σ (vs ++ us)) σ') (k : KeepOut us σ' σ'') : (wipe σ (vs ++ us)).length = σ''.length ∧ ∀ (j : Nat) v, (wipe σ (vs ++ us))[j]? = some (some v) → σ''[j]? = some (some v) := by
  have e := h (vs ++ us) (fun i hi => List.mem_append_left _ hi)
  have hl : σ'.length = (wipe σ (vs ++ us)).length := by
    have := congrArg List.length e
    rwa [wipe_length, wipe_length] at this
  refine ⟨(k.1.trans hl).symm, fun j v q => ?_⟩
  have n := (wipe_some q).2
  have q2 : (wipe (wipe σ (vs ++ us)) (vs ++ us))[j]? = some (some v) := by
    rw [wipe_out n]; exact q
  rw [← e] at q2
  exact k.2 j v (fun z => n (List.mem_append_right _ z)) (wipe_some q2).1
/-- a further clause -/
theorem inner_for (hxe : ∀ e s, B.xe e s → False) (hc : B.calm = true) {tg iter : Expr} {ifs : List Expr} {fi : CI} {g : CG} {ts : CT} {vs us : List Nat} {inner : CC}
    (hg : gens[d + 1]? = some ⟨tg, iter, ifs, 0⟩) (hs : ∀ g', gens[d + 1 + 1]? = some g' → g'.is_async = 0 ∧ ∀ x, foldedSetIterable g'.iter B.env x = pure x)
    (hi : DI B WF tg iter fi) (pg : DG B tg g vs) (pt : DTs B WF ifs ts) (hin : InnerOk B Dd elt gens scope pos (d + 1) us inner) : InnerOk B Dd elt gens scope pos d (vs ++ us) (cForI fi g ts (vs ++ us) inner) := by
  intro pins s σ H1 accV env ρ S acc acc' S' Qs I hD a sm r e q
  unfold After
  rw [hg]
  obtain ⟨src, S1, e1, e2⟩ := nox_bind_ok e
  have h1 := hi.run pins s σ _ _ I (run_hid hD a sm e1 (Q := fun J H' => ∃ ρ1, Ext B.K (ρ.hide Dd) (upd H1 Dd (.lst accV)) ρ1 H' ∧ Sim B.K ρ1 S1 H' ∧ SrcRep B.K H' ρ1 src J) fun v H' ρ1 x1 s1 r1 => ⟨ρ1, x1, s1, r1⟩)
  refine thnF (wpAny_mono h1 (fun _ _ h => h) fun _ _ h => hxe _ _ h) fun xv s2 hx => ?_
  refine thnF (wpAny_mono hx (fun _ _ h => h) fun _ _ h => hxe _ _ h) fun itv s3 h3 => ?_
  obtain ⟨it, fp, tn, J, H3, rfl, I3, T, st3, f3, ρ1, x1, s1, r1⟩ := h3
  obtain ⟨hD3, ρ2, rfl, x2, sm2⟩ := back sm hD x1 s1
  have loop := clause_loop (B := B) (Dd := Dd) (elt := elt) (gens := gens) (scope := scope) (pos := pos) (d := d + 1) (Rr := fun r s' => match r with | .ok _ => Qs s' | .error _ => False) hxe hc hg hs pg pt hin T
    (pins := pins) (fun H' hn b hb => ⟨hn b hb, (f3 b hb).2⟩) (src := src) (σw := wipe σ (vs ++ us)) (envw := wipeE env (vs ++ us)) (accF := acc') (SF := S') (H0 := H1) (ρ0 := ρ)
    (fun s' H1' ρ' accV' I' hD' x' sm' ra' n' => q s' _ H1' ρ' accV' I' KeepOut.wipe hD' x' sm' ra')
    (fun σ' σ'' o k => only_less o k)
    (src.len S1) 0 s3 (del H3 Dd) ρ2 accV acc S1 (by rw [upd_del hD3]; exact I3.weak (wipe_length _ _) (fun j v e => (wipe_some e).1)) st3 (by rw [upd_del hD3]; exact fun b hb => (f3 b hb).1) del_same x2 (r1.unhide hD3 NTup.lst (s1.hid Dd List.mem_cons_self).2) ((a.ext x2).wipe (vs ++ us)) sm2 (RepVs.ext x2 _ _ r) e2
  exact compStart_at hg loop (T.self B.A 0 _ _ _ st3 loop)
end
section
variable {X : Cx} {W : WX}
theorem lcg_core {pins : List (Addr × Obj)} {s : Shared} {σ : L2.St} {H : Hp} {Q : VK} {elt tg iter : Expr} {ifs : List Expr} {rest : List Comprehension} {scope : Scope} {own : List (Str × Nat)} {pos pos' : Pos} {fi : CI} {g : CG} {ts : CT} {vs us : List Nat} {inner : CC} {use : Option (Value → Sem Unit)} {Qf : Value → Shared → Prop}
    (hc : X.calm = true) (hN : X.N.Nodup) (I : Inv X pins σ H s) (hi : DI X W tg iter fi) (ok : BlkOk X.N X.env.scope scope own) (hown : own.map (·.2) = vs ++ us)
    (hg : ∀ (s : Shared) (H : Hp) (C : Addr) (cl : List (Str × Addr)) (fp : List Addr), DG (X.blk s H scope (compEnvC scope cl C X.env) fp) tg g vs) (ht : ∀ (s : Shared) (H : Hp) (C : Addr) (cl : List (Str × Addr)) (fp : List Addr), DTs (X.blk s H scope (compEnvC scope cl C X.env) fp) WF ifs ts)
    (hin : ∀ (s : Shared) (H : Hp) (C : Addr) (cl : List (Str × Addr)) (fp : List Addr) (Dd : Addr), InnerOk (X.blk s H scope (compEnvC scope cl C X.env) fp) Dd elt (⟨tg, iter, ifs, 0⟩ :: rest) scope pos 0 us inner) (hs : ∀ x, foldedSetIterable iter X.env x = pure x)
    (hs1 : ∀ g', rest[0]? = some g' → g'.is_async = 0 ∧ ∀ env x, foldedSetIterable g'.iter env x = pure x)
    (h : tN X.K X.mg W (aComp (cFor fi g ts (vs ++ us) inner)) σ H Q)
    (hRR : ∀ D C s' m H', Inv X pins σ H' s' → Q (.ref D) H' → s'.heap.Ns C m → FpOk X pins H' C → compPost (model X.prog X.w) X.A X.xe use Qf (.ref D) C (.ok .next) s') :
    wpAny (model X.prog X.w) X.A (comprehension (.ListComp elt (⟨tg, iter, ifs, 0⟩ :: rest) scope pos) scope X.env pos' (newList []) false (eval iter X.env) use) Qf X.xe s := by
  have hfree : ∀ y ∈ scope.names, y.2 = .free → ∃ c, X.env.cells.lookup y.1 = some c := fun y hy e => by
    rcases ok.free y hy e with k | k
    · exact I.ok.has _ (.inl k)
    · exact I.ok.has _ (.inr k)
  obtain ⟨env, ρ, S, a, b, c⟩ := h
  refine wpAny_comprehension_free (use := use) rfl hs (closure_ok hfree) ok.kind (fun y hy e => by rw [ok.uniq y hy, e])
    (thn (hi.run pins s σ H _ I (tG.of a b (Post.bind (rep := SrcRep X.K) c))) fun xv s1 hx => thn hx fun itv s2 h2 => ?_)
  obtain ⟨it, fp, tn, J, H2, e, I2, T, st2, f2, ρ1, S1, src, x1, sm1, r1, c1⟩ := h2
  subst e
  refine wpAny_newObj_type (newEnv_comp ?_) (by show 0 ≤ sizeLine; decide)
  generalize hD : s2.heap.objs.size = D
  have hDn : H2 D = none := I2.hok.fresh (Nat.le_of_eq hD)
  -- the run of the loops
  cases ego : cGo src g ts inner (src.len S1) 0 (wipeE env (vs ++ us)) [] S1 with
  | exc x Sx => rw [ego] at c1; exact c1.elim
  | bad => rw [ego] at c1; exact c1.elim
  | ok accF SF =>
  rw [ego] at c1
  simp only [R.nox_ok] at c1
  -- the new list
  generalize hs3 : ({ s2 with heap := s2.heap.push { cls := .type "list", data := .seq ([] : List Value).toArray } } : Shared) = s3
  have I3 : Inv X pins σ (upd H2 D (.lst [])) s3 := by
    rw [← hs3]
    refine I2.laid (t' := s2.toks) (fun b o e => Heap.get?_push_of_some _ e) (Nat.le_of_eq hD) ⟨Nat.zero_le _, [], 0, .nil, ?_⟩
    rw [← hD]
    exact Heap.get?_push_size _ rfl
  have h3 : s3.heap = s2.heap.push { cls := .type "list", data := .seq ([] : List Value).toArray } := by rw [← hs3]
  have sz : ∀ b ∈ fp, b < s2.heap.objs.size := fun b hb => by
    obtain ⟨o, e, _⟩ := T.obj _ _ st2 b hb
    exact Heap.lt_size e
  have f3 : ∀ b ∈ fp, FpOk X pins (upd H2 D (.lst [])) b ∧ b < s3.heap.objs.size := fun b hb => by
    have hlt := sz b hb
    refine ⟨⟨?_, (f2 b hb).2⟩, by rw [h3, Heap.size_push]; exact Nat.lt_succ_of_lt hlt⟩
    rw [upd_ne (by rw [← hD]; exact Nat.ne_of_lt hlt)]
    exact (f2 b hb).1
  have st3 : tn 0 s3.heap := T.keep _ _ _ st2 fun b _ o e => by rw [h3]; exact Heap.get?_push_of_some _ e
  have I4 := block_start I3 ok hN f3
  have pg := hg s3 (upd H2 D (.lst [])) s3.heap.objs.size (cellsFrom (s3.heap.objs.size + 1) scope.names (cloFrom X.env.cells scope.names [])) fp
  have pt := ht s3 (upd H2 D (.lst [])) s3.heap.objs.size (cellsFrom (s3.heap.objs.size + 1) scope.names (cloFrom X.env.cells scope.names [])) fp
  have pin := hin s3 (upd H2 D (.lst [])) s3.heap.objs.size (cellsFrom (s3.heap.objs.size + 1) scope.names (cloFrom X.env.cells scope.names [])) fp D
  show codeAny _ _ (.compStart (.ListComp elt (⟨tg, iter, ifs, 0⟩ :: rest) scope pos) 0 (.ref it) (.ref D) (compEnvC scope (cellsFrom (s3.heap.objs.size + 1) scope.names (cloFrom X.env.cells scope.names [])) s3.heap.objs.size X.env)) (compPost (model X.prog X.w) X.A X.xe use Qf (.ref D) s3.heap.objs.size) { s3 with heap := pushCells (s3.heap.push { cls := .type "dict", data := .dict #[] }) scope.names }
  have nfp : ∀ b ∈ fp, (upd H2 D (.lst [])) b = none := fun b hb => (f3 b hb).1.1
  generalize hce : compEnvC scope (cellsFrom (s3.heap.objs.size + 1) scope.names (cloFrom X.env.cells scope.names [])) s3.heap.objs.size X.env = ce at I4 pg pt pin ⊢
  have cL : ce.locals = s3.heap.objs.size := by subst hce; rfl
  generalize hs4 : ({ s3 with heap := pushCells (s3.heap.push { cls := .type "dict", data := .dict #[] }) scope.names } : Shared) = s4 at I4 ⊢
  have st4 : tn 0 s4.heap := T.keep _ _ _ st3 fun b _ o e => by rw [← hs4]; exact pushCells_keeps _ _ _ _ (Heap.get?_push_of_some _ e)
  have stat : ∀ {H' : Hp}, (∀ b ∈ fp, H' b = none) → ∀ b ∈ fp, FpOk (X.blk s3 (upd H2 D (.lst [])) scope ce fp) [] H' b := fun {H'} hn b hb =>
    ⟨hn b hb, (I4.ok.exf b hb).1, I4.ok.exfs b hb, .inl hb, fun x c e => (I4.ok.exf b hb).2 x c e, fun p hp => absurd (show p ∈ ([] : List (Addr × Obj)) ++ [] from hp) (by simp)⟩
  rw [hown] at I4
  have loop := clause_loop (B := X.blk s3 (upd H2 D (.lst [])) scope ce fp) (Dd := D) (elt := elt) (gens := ⟨tg, iter, ifs, 0⟩ :: rest) (scope := scope) (pos := pos) (d := 0) (Rr := compPost (model X.prog X.w) X.A X.xe use Qf (.ref D) s3.heap.objs.size)
    (fun _ _ h => h) hc rfl (fun g' hg' => ⟨(hs1 g' (by simpa using hg')).1, fun x => (hs1 g' (by simpa using hg')).2 _ x⟩) pg pt pin T (pins := []) (fun H' hn b hb => stat hn b hb) (src := src) (σw := wipe σ (vs ++ us)) (envw := wipeE env (vs ++ us)) (accF := accF) (SF := SF) (H0 := H2) (ρ0 := ρ1)
    (fun s6 H1' ρ' accV' I6 hD' x' sm' ra' n' => by
      have I7 : Inv X pins σ (upd H1' D (.lst accV')) s6 := I3.call' (ch := fp) I6.os I6.base I6.hok I6.bare fun b hb => ⟨(f3 b hb).1.2.2.2.1, (f3 b hb).1.2.1, (f3 b hb).1.2.2.2.2.1, (f3 b hb).1.2.2.2.2.2⟩
      have nC : (upd H1' D (.lst accV')) s3.heap.objs.size = none := by
        have z : (upd H1' D (.lst accV')) ce.locals = none := I6.free
        rw [cL] at z
        exact z
      obtain ⟨m, hn, _⟩ := I6.loc
      have hn : s6.heap.Ns ce.locals m := hn
      rw [cL] at hn
      exact hRR D s3.heap.objs.size s6 m _ I7 (c1 accV' H1' ρ' x' sm' ra' D hD') hn (I3.fpOk (Nat.le_refl _) nC))
    (fun σ' σ'' o k => only_less o k)
    (src.len S1) 0 s4 H2 ρ1 [] [] S1 I4 st4 nfp hDn Ext.refl r1 ((a.ext x1).wipe (vs ++ us)) sm1 RepVs.nil ego
  exact codeAny_compStart_list loop (T.self X.A 0 _ _ _ st4 loop)
/-- a comprehension as a value -/
theorem dn_comp {elt tg iter : Expr} {ifs : List Expr} {rest : List Comprehension} {scope : Scope} {own : List (Str × Nat)} {pos : Pos} {fi : CI} {g : CG} {ts : CT} {vs us : List Nat} {inner : CC}
    (hc : X.calm = true) (hN : X.N.Nodup) (ok : BlkOk X.N X.env.scope scope own) (hown : own.map (·.2) = vs ++ us) (hi : DI X W tg iter fi)
    (hg : ∀ (s : Shared) (H : Hp) (C : Addr) (cl : List (Str × Addr)) (fp : List Addr), DG (X.blk s H scope (compEnvC scope cl C X.env) fp) tg g vs) (ht : ∀ (s : Shared) (H : Hp) (C : Addr) (cl : List (Str × Addr)) (fp : List Addr), DTs (X.blk s H scope (compEnvC scope cl C X.env) fp) WF ifs ts)
    (hin : ∀ (s : Shared) (H : Hp) (C : Addr) (cl : List (Str × Addr)) (fp : List Addr) (Dd : Addr), InnerOk (X.blk s H scope (compEnvC scope cl C X.env) fp) Dd elt (⟨tg, iter, ifs, 0⟩ :: rest) scope pos 0 us inner) (hs : ∀ x, foldedSetIterable iter X.env x = pure x := by intro _; rfl)
    (hs1 : ∀ g', rest[0]? = some g' → g'.is_async = 0 ∧ ∀ env x, foldedSetIterable g'.iter env x = pure x := by intro g' h; cases h; exact ⟨rfl, fun _ _ => rfl⟩) :
    DN X W (.ListComp elt (⟨tg, iter, ifs, 0⟩ :: rest) scope pos) (aComp (cFor fi g ts (vs ++ us) inner)) := by
  refine ⟨fun pins s σ H Q I h => ?_⟩
  rw [eval_ListComp]
  refine lcg_core hc hN I hi ok hown hg ht hin hs hs1 h fun D C s' m H' I' q hn f => ⟨m, hn, fun h'' sb => ?_⟩
  obtain ⟨f0, f1, f2, f3, f4, f5⟩ := f
  exact ⟨.ref D, H', I'.turned (t' := s'.toks) (fun b o hb e => (sb.2 b hb).trans e) f0 f1 f3 f4 f5, rfl, q⟩
end
end J

/-! enumerate(tuple), made -/
namespace PySem
open Sem (wp)
open AutoSeq1 (wpAny_loadPart')
theorem meets_enumerate_newTup (l : Addr) (items : Array Value) (n : Nat) (dct : Option Addr) (sl : Array (Option Value)) :
    Meets (Builtin.«enumerate.__new__» ⟨[.type "enumerate", .ref l], []⟩) (fun _ R s => s.heap.get? l = some { cls := .type "tuple", dict := dct, data := .seq items n, slots := sl } ∧
      R (.ok (.ret (.ref (s.heap.push { cls := .type "tuple_iterator", data := .fields #[.ref l, .int 0 0] }).objs.size)))
        { s with heap := (s.heap.push { cls := .type "tuple_iterator", data := .fields #[.ref l, .int 0 0] }).push { cls := .type "enumerate", data := .fields #[.none, .bool false, .ref s.heap.objs.size, rawInt 0, .none, .none] } }) :=
  .of_wp fun prog w A R s h => by
    obtain ⟨hp, g, d, tk, os⟩ := s; obtain ⟨hl, h⟩ := h
    have hsub := sub_enumerate
    have hL : Heap.IsTuple (Shared.heap ⟨hp, g, d, tk, os⟩) l items := ⟨_, hl, rfl, n, rfl⟩
    wp_walk using wpAny_loadPart' hl
    refine wpAny_stack_any fun st => wpAny_pure ?_
    split
    · rename_i c _ _ _ _ _
      cases (c == Value.type "enumerate")
      · wp_walk using wpAny_loadPart' hl, wpAny_pyIter_tuple hL
        exact ⟨_, rfl, h⟩
      · wp_walk using wpAny_loadPart' hl, wpAny_pyIter_tuple hL
        exact ⟨_, rfl, h⟩
    · wp_walk using wpAny_loadPart' hl, wpAny_pyIter_tuple hL
      exact ⟨_, rfl, h⟩
theorem call_enumerate_tup {prog : Program} {w : World} {A : Around} {E : Value → Shared → Prop} {s : Shared} {l : Addr} {items : Array Value} {Q : Value → Shared → Prop} (hL : s.heap.IsTuple l items)
    (h : ∀ h', IsEnum h' (s.heap.objs.size + 1) s.heap.objs.size 0 .none → h'.IsTupleIter s.heap.objs.size l 0 → h'.objs.size = s.heap.objs.size + 2 →
      (∀ b o, s.heap.get? b = some o → h'.get? b = some o) → Q (.ref (s.heap.objs.size + 1)) { s with heap := h' }) :
    wpAny (model prog w) A (call (.type "enumerate") [.ref l]) Q E s := by
  obtain ⟨⟨c, dct, dt, sl⟩, hl, hc, n, hd⟩ := hL
  replace hc : c = .type "tuple" := hc
  replace hd : dt = .seq items n := hd
  subst hc hd
  refine callType_new F.called_enumerate (by decide) (F.typeCall_enumerate_1 _) (F.newCall_enumerate_1 _) (fun obj => F.args_object_init_2 obj _) F.entry_enumerate_new
    (meets_enumerate_newTup l items n dct sl) ⟨hl, ?_⟩
  have hz : (s.heap.push { cls := .type "tuple_iterator", data := .fields #[.ref l, .int 0 0] }).objs.size = s.heap.objs.size + 1 := Heap.size_push ..
  show _ ∧ _
  rw [hz]
  have he : IsEnum ((s.heap.push { cls := .type "tuple_iterator", data := .fields #[.ref l, .int 0 0] }).push
      { cls := .type "enumerate", data := .fields #[.none, .bool false, .ref s.heap.objs.size, rawInt 0, .none, .none] }) (s.heap.objs.size + 1) s.heap.objs.size 0 .none := by
    have := Heap.get?_push_size (s.heap.push { cls := .type "tuple_iterator", data := .fields #[.ref l, .int 0 0] })
      (o := { cls := .type "enumerate", data := .fields #[.none, .bool false, .ref s.heap.objs.size, rawInt 0, .none, .none] }) rfl
    rw [hz] at this; exact this
  refine ⟨⟨_, he, rfl⟩, h _ he ⟨_, Heap.get?_push_of_some _ (Heap.get?_push_size _ rfl), rfl, rfl⟩ (by rw [Heap.size_push, hz]) fun b o x => Heap.get?_push_of_some _ (Heap.get?_push_of_some _ x)⟩
theorem wpAny_pyNext_enum_endTup {prog : Program} {w : World} {A : Around} {E : Value → Shared → Prop} {s : Shared} {e it l : Addr} {i : Nat} {items : Array Value} {old : Value} {Q : Option Value → Shared → Prop} (hh : A.handled = none)
    (he : IsEnum s.heap e it i old) (hit : s.heap.IsTupleIter it l i) (hl : s.heap.IsTuple l items) (hx : items[i]? = none)
    (hQ : ∀ h', Heap.ExtBut it s.heap h' → Q none { s with heap := h' }) : wpAny (model prog w) A (pyNext (.ref e)) Q E s := by
  have hT : s.TypeIs (.ref e) "enumerate" := ⟨_, he, rfl⟩
  unfold pyNext
  refine wpAny_bind (wpAny_attempt (wpAny_callSpecial?_slot (name := Str.ofString "__next__") hT F.slot_enumerate_next
    (wpAny_call_entry F.slot_enumerate_next hT F.entry_enumerate_next ?_ (F.args_enumerate_next_1 _))))
  show wpAny _ _ (field (.ref e) 2 >>= _) _ _ _
  refine wpAny_bind (wpAny_field he rfl (x := .ref it) rfl ?_)
  refine wpAny_bind (wpAny_nextOf_tuple_end hh hit hl hx fun h' x he' hx' => ?_)
  obtain ⟨o, ho, hc⟩ := hx'
  refine wpAny_bind (wpAny_isInstance (T := "StopIteration") (b := true) ⟨o, ho, hc⟩ isSubtype_stop ?_)
  exact wpAny_pure (hQ _ he')
end PySem
namespace J
open PySem PySem.Spec PyProof.Rows L2

/-! ## what is walked -/
/-- a dict that is walked is locked from then on -/
def seqSrc (d : D) (S : Sto) : R Src := match d with
  | .tup ds => .ok (.fix ds) S
  | .new ds => .ok (.fix ds) S
  | .str x => .ok (.fix (sgnD x)) S
  | .dic ks _ => .ok (.fix ks) S
  | .ref n => .ok (.lst n) S
  | .rdc n => match S[n]? with
    | some (.dic ks vs) => .ok (.fix ks) (S.set n (.fdic ks vs))
    | some (.fdic ks _) => .ok (.fix ks) S
    | _ => .bad
  | _ => .bad
def iSeq (f : CE) : CI := fun env S => (f env S).bind seqSrc
def enumSrc (ds : List D) (S : Sto) : R Src := match ds with
  | [.tup ds] => .ok (.fix (enumD ds)) S
  | [.new ds] => .ok (.fix (enumD ds)) S
  | [.ref n] => .ok (.enl n) S
  | _ => .bad
def iEnumD (f : CA) : CI := fun env S => (f env S).bind enumSrc
def rng1 (ds : List D) (S : Sto) : R Src := match ds with
  | [.int j] => if -(2 ^ 62) ≤ j ∧ j < 2 ^ 62 then .ok (.fix (rangeD 0 j.toNat)) S else .bad
  | _ => .bad
def iRng1D (f : CA) : CI := fun env S => (f env S).bind rng1
def rng2 (ds : List D) (S : Sto) : R Src := match ds with
  | [.int i, .int j] => if -(2 ^ 62) ≤ i ∧ i < 2 ^ 62 ∧ -(2 ^ 62) ≤ j ∧ j < 2 ^ 62 then .ok (.fix (rangeD i (j - i).toNat)) S else .bad
  | _ => .bad
def iRng2D (f : CA) : CI := fun env S => (f env S).bind rng2
def rng3 (ds : List D) (S : Sto) : R Src := match ds with
  | [.int i, .int j, .int c] => if c ≠ 0 ∧ c.natAbs < 1073741824 ∧ Builtin.Range.small i j c = true ∧ 0 ≤ Builtin.Range.rangeSize i j c then .ok (.fix (rangeCD i c (Builtin.Range.rangeSize i j c).toNat)) S else .bad
  | _ => .bad
def iRng3D (f : CA) : CI := fun env S => (f env S).bind rng3
section
variable {X : Cx} {W : WX} {tg iter e : Expr} {fe : CE} {fa : CA} {p pos : Pos}
theorem Inv.dic {pins : List (Addr × Obj)} {s : Shared} {σ : L2.St} {H : Hp} {a : Addr} {es : List Ent} {ep : Nat} (I : Inv X pins σ H s) (h : H a = some (DicT a es ep)) : (a == sysModules) = false ∧ es.length ≤ sizeLine ∧ (es.map (·.1)).Nodup ∧ ∃ (o : Obj) (xs : Array DictEntry), s.heap.get? a = some o ∧ o.ExactDict ∧ o.data = .dict xs ep ∧
    Paired (fun (e : Ent) (x : DictEntry) => (∀ w, x.hash = e.1.hash w) ∧ RelV e.2.1 x.key ∧ RelV e.2.2 x.val) es xs.toList := (I.hok a _ h).1
theorem turn_dic {P : Program} {w : World} {K : PySem.W.Frag} (it a : Addr) (es : List Ent) (ep : Nat) : Turn P w K tg (ItD a es ep) [it] it (fun i h => h.IsKeyIter it a i es.length ep) where
  mem := by simp
  obj := fun i h st b hb => by
    have e : b = it := by simpa using hb
    subst e
    obtain ⟨oi, e, c, dd⟩ := st
    exact ⟨oi, e, fun v z => by rw [dd] at z; cases z⟩
  keep := fun i h h' st k => st.at fun oi e => k it (by simp) oi e
  item := by
    intro X hP hw hK hc i pins s σ H E I hf st hg
    subst hP hw hK
    obtain ⟨hd, hi⟩ := hg
    obtain ⟨f0, f1, f2, f3, f4, f5⟩ := hf it (by simp)
    obtain ⟨hs, hz, hn, o, xs, hgd, hx, hdt, pr⟩ := Inv.dic I hd
    have hsz : xs.size = es.length := by rw [← Array.length_toList]; exact (Paired.length pr).symm
    obtain ⟨q, hq⟩ : ∃ p, es[i]? = some p := ⟨es[i], List.getElem?_eq_getElem hi⟩
    obtain ⟨en, hen, hh, rk, rv⟩ := paired_get pr hq
    refine next_key_item st hgd hdt hsz (by rw [← Array.getElem?_toList]; exact hen) fun h' st' sb => ?_
    have I1 : Inv X pins σ H { s with heap := h' } := I.turned (t' := s.toks) (fun b ob hb e => (sb.2 b hb).trans e) f0 f1 f3 f4 f5
    obtain ⟨oi, e, c, dd⟩ := id st'
    exact ⟨en.key, rfl, go_of (s := { s with heap := h' }) e c dd (by decide) ⟨q.2.1, H, I1, rk, ⟨rfl, by rw [hq]; rfl⟩, st', fun b hb => (hf b hb).1⟩⟩
  done := by
    intro X hP hw hK hc i pins s σ H E I hf st hg
    subst hP hw hK
    obtain ⟨hd, hi⟩ := hg
    obtain ⟨f0, f1, f2, f3, f4, f5⟩ := hf it (by simp)
    obtain ⟨hs, hz, hn, o, xs, hgd, hx, hdt, pr⟩ := Inv.dic I hd
    have hsz : xs.size = es.length := by rw [← Array.length_toList]; exact (Paired.length pr).symm
    exact next_key_end (I.ok.hd hc) st hgd hdt hsz hi fun h' eb => ⟨rfl, I.turned (t' := s.toks) (fun b ob hb e => eb b ob hb e) f0 f1 f3 f4 f5⟩
  self := fun A i s Q E st h => by
    refine wpAny_pyIter_slot st.typeIs F.slot_dict_keyiterator_iter (wpAny_call_entry F.slot_dict_keyiterator_iter st.typeIs F.entry_dict_keyiterator_iter ?_ (F.args_dict_keyiterator_iter_1 _))
    show wpAny _ _ (ret (.ref it)) _ _ s
    exact wpAny_pure ⟨_, rfl, "dict_keyiterator", _, st.typeIs, F.slot_dict_keyiterator_next.lookup, h⟩
/-- what may be walked -/
def tSeqA (K : PySem.W.Frag) (tl : TE) : TI := fun σ H R => tl σ H fun x H1 => (∃ a, x = .ref a ∧ (((∃ xs, SqL K H1 a xs) ∧ R (Itl K a) H1) ∨ ((∃ xs, SqT K H1 a xs) ∧ R (Itt K a) H1) ∨ ∃ es ep, H1 a = some (DicT a es ep) ∧ R (ItD a es ep) H1)) ∨ ∃ z, x = .str z ∧ R (Its z) H1
theorem pi_seq {tl : TE} {l : Expr} (hl : PE X l tl) : PI X tg l (tSeqA X.K tl) := by
  refine ⟨fun pins s σ H R I h => ?_⟩
  refine thn (hl.run pins s σ H _ I h) fun v s1 ⟨x, H1, I1, r1, q1⟩ => ?_
  rcases q1 with ⟨a, e, q⟩ | ⟨x, ex, q⟩
  · subst e
    cases r1
    rcases q with ⟨⟨xs, hq⟩, q⟩ | ⟨⟨xs, hq⟩, q⟩ | ⟨es, ep, hd, q⟩
    · obtain ⟨its, rv, p, hz⟩ := I1.list hq
      refine wpAny_pyIter_list p.isList ?_
      refine ⟨s1.heap.objs.size, [s1.heap.objs.size], _, _, H1, rfl, I1.kept (t' := s1.toks) fun b o e => Heap.get?_push_of_some _ e, turn_list a _, ⟨_, Heap.get?_push_size _ rfl, rfl, rfl⟩, fun b hb => ?_, q⟩
      have e : b = s1.heap.objs.size := by simpa using hb
      subst e
      exact I1.fpOk (Nat.le_refl _) (I1.hok.fresh (Nat.le_refl _))
    · obtain ⟨its, rv, p, hz⟩ := I1.tuple hq
      refine wpAny_pyIter_tuple (show s1.heap.IsTuple a its.toArray from p) ?_
      refine ⟨s1.heap.objs.size, [s1.heap.objs.size], _, _, H1, rfl, I1.kept (t' := s1.toks) fun b o e => Heap.get?_push_of_some _ e, turn_tuple a _, ⟨_, Heap.get?_push_size _ rfl, rfl, rfl⟩, fun b hb => ?_, q⟩
      have e : b = s1.heap.objs.size := by simpa using hb
      subst e
      exact I1.fpOk (Nat.le_refl _) (I1.hok.fresh (Nat.le_refl _))
    · obtain ⟨hs, hz, hn, o, xs, hgd, hx, hdt, pr⟩ := Inv.dic I1 hd
      have hsz : xs.size = es.length := by rw [← Array.length_toList]; exact (Paired.length pr).symm
      refine iter_keys hs hgd hx hdt (pi_one (tk := s1.toks) I1 _ (turn_dic _ a es ep) ⟨_, Heap.get?_push_size _ rfl, rfl, ?_⟩ q)
      rw [hsz] <;> rfl
  · subst ex
    obtain ⟨t, rfl⟩ := r1
    cases ha : x.cps.all (· < 128)
    · exact wpAny_pyIter_wide ha (pi_one (tk := s1.toks) I1 _ (turn_str _ x t "str_iterator" (.inr rfl)) ⟨_, Heap.get?_push_size _ rfl, rfl, rfl⟩ q)
    · exact wpAny_pyIter_ascii ha (pi_one (tk := s1.toks) I1 _ (turn_str _ x t "str_ascii_iterator" (.inl rfl)) ⟨_, Heap.get?_push_size _ rfl, rfl, rfl⟩ q)
theorem PI.mono {t t' : TI} (h : PI X tg iter t) (q : ∀ σ H R, t' σ H R → t σ H R) : PI X tg iter t' := ⟨fun pins s σ H R I z => h.run pins s σ H R I (q _ _ _ z)⟩
/-- a dict of the store is locked -/
theorem Ext.lock {K : PySem.W.Frag} {ρ : Rg} {H : Hp} {a : Addr} (h : a ∈ ρ.st) : Ext K ρ H (ρ.lock a) H :=
  ⟨⟨[], [a], by simp [Rg.lock], by simp, fun b hb => .inl (by rw [List.mem_singleton.mp hb]; exact h)⟩, fun _ _ h => h, fun _ _ h _ => h, fun _ h => h, fun _ us h => ⟨us, h⟩, fun _ es ep h => ⟨es, ep, h⟩⟩
theorem Sim.lock {K : PySem.W.Frag} {ρ : Rg} {H : Hp} {S : Sto} {n : Nat} {a : Addr} {ks vs : List D} (s : Sim K ρ S H) (q : ρ.st[n]? = some a) (e : S[n]? = some (.dic ks vs)) : Sim K (ρ.lock a) (S.set n (.fdic ks vs)) H := by
  have x : Ext K ρ H (ρ.lock a) H := Ext.lock (List.mem_of_getElem? q)
  obtain ⟨es, ep, hd, rd, hz⟩ := s.at_ n a _ q e
  refine ⟨by simp [Rg.lock, s.len], s.nd, fun i b o e1 e2 => ?_, s.hid, fun b hb => ?_⟩
  · have e1 : ρ.st[i]? = some b := e1
    by_cases hi : n = i
    · subst hi
      rw [List.getElem?_set_self (List.getElem?_eq_some_iff.mp e).1] at e2
      cases e2
      rw [q] at e1; cases e1
      exact ⟨es, ep, hd, rd.ext x, List.mem_append_right _ (by simp)⟩
    · rw [List.getElem?_set_ne hi] at e2
      refine RepO.ext x (s.at_ i b o e1 e2) rfl fun z => ?_
      rcases List.mem_append.mp z with z | z
      · exact z
      · rw [List.mem_singleton.mp z] at e1
        exact absurd ((List.getElem?_inj (List.getElem?_eq_some_iff.mp q).1 s.nd).mp (q.trans e1.symm)) hi
  · rcases List.mem_append.mp hb with z | z
    · exact s.fz b z
    · rw [List.mem_singleton.mp z]; exact ⟨es, ep, hd⟩
theorem di_seq (h : DE X W e fe) : DI X W tg e (iSeq fe) := PI.mono (pi_seq h) fun σ H R ⟨env, ρ, S, a, b, c⟩ => by
  refine tG.of a b ((Post.bind (rep := RepV X.K) c).mono fun x H1 ⟨ρ1, S1, d1, x1, s1, r1, c1⟩ => ?_)
  cases d1 with
  | tup ds =>
    unfold RepV at r1
    obtain ⟨p, vs, rfl, q, rs⟩ := r1
    exact .inl ⟨p, rfl, .inr (.inl ⟨⟨vs, q⟩, c1.ret s1 (.tup q rs)⟩)⟩
  | new ds =>
    unfold RepV at r1
    obtain ⟨p, vs, rfl, q, rs⟩ := r1
    exact .inl ⟨p, rfl, .inl ⟨⟨vs, q.sq⟩, c1.ret s1 (.new q rs)⟩⟩
  | dic ks vs =>
    unfold RepV at r1
    obtain ⟨p, es, ep, rfl, ⟨n, q⟩, hk, r2, r3⟩ := r1
    exact .inl ⟨p, rfl, .inr (.inr ⟨es, ep, q, c1.ret s1 (.dic q n r2)⟩)⟩
  | str z =>
    unfold RepV at r1
    subst r1
    exact .inr ⟨z, rfl, c1.ret s1 (.str z)⟩
  | ref n =>
    unfold RepV at r1
    obtain ⟨p, rfl, q, us, hu⟩ := r1
    exact .inl ⟨p, rfl, .inl ⟨⟨us, .inl (.inl hu)⟩, c1.ret s1 (.lst q)⟩⟩
  | rdc n =>
    unfold RepV at r1
    obtain ⟨p, rfl, q, _⟩ := r1
    simp only [seqSrc] at c1
    cases eo : S1[n]? with
    | none => rw [eo] at c1; exact c1.elim
    | some o =>
      rw [eo] at c1
      cases o with
      | lst xs => exact c1.elim
      | dic ks vs =>
        obtain ⟨es, ep, hd, rd, hz⟩ := s1.at_ n p _ q eo
        have m := List.mem_of_getElem? q
        exact .inl ⟨p, rfl, .inr (.inr ⟨es, ep, hd, c1 _ _ (ρ1.lock p) (Ext.lock m) (s1.lock q eo) (.dicZ hd (List.mem_append_right _ (by simp)) m (RepVs.ext (Ext.lock m) _ _ rd.2.1))⟩)⟩
      | fdic ks vs =>
        obtain ⟨es, ep, hd, rd, hz⟩ := s1.at_ n p _ q eo
        exact .inl ⟨p, rfl, .inr (.inr ⟨es, ep, hd, c1.ret s1 (.dicZ hd hz (List.mem_of_getElem? q) rd.2.1)⟩)⟩
      | obj _ _ => exact c1.elim
  | obj _ => exact c1.elim
  | ktp _ => exact c1.elim
  | non => exact c1.elim
  | bl _ => exact c1.elim
  | int _ => exact c1.elim
  | scr _ => exact c1.elim
  | exn _ => exact c1.elim
theorem RepVs.one {K : PySem.W.Frag} {H : Hp} {ρ : Rg} {d : D} {vs : List V} (r : RepVs K H ρ [d] vs) : ∃ v, vs = [v] ∧ RepV K H ρ d v := by
  unfold RepVs at r
  obtain ⟨v, r', rfl, q, t⟩ := r
  unfold RepVs at t
  subst t
  exact ⟨v, rfl, q⟩
theorem RepVs.two {K : PySem.W.Frag} {H : Hp} {ρ : Rg} {d e : D} {vs : List V} (r : RepVs K H ρ [d, e] vs) : ∃ v u, vs = [v, u] ∧ RepV K H ρ d v ∧ RepV K H ρ e u := by
  unfold RepVs at r
  obtain ⟨v, r', rfl, q, t⟩ := r
  obtain ⟨u, rfl, q2⟩ := RepVs.one t
  exact ⟨v, u, rfl, q, q2⟩
theorem RepVs.three {K : PySem.W.Frag} {H : Hp} {ρ : Rg} {d e f : D} {vs : List V} (r : RepVs K H ρ [d, e, f] vs) : ∃ v u w, vs = [v, u, w] ∧ RepV K H ρ d v ∧ RepV K H ρ e u ∧ RepV K H ρ f w := by
  unfold RepVs at r
  obtain ⟨v, r', rfl, q, t⟩ := r
  obtain ⟨u, w, rfl, q2, q3⟩ := RepVs.two t
  exact ⟨v, u, w, rfl, q, q2, q3⟩
theorem RepVs.nil_of {K : PySem.W.Frag} {H : Hp} {ρ : Rg} {vs : List V} (r : RepVs K H ρ [] vs) : vs = [] := by unfold RepVs at r; exact r
theorem rng1_cases {ds : List D} {S : Sto} : (∃ j : Int, ds = [.int j] ∧ -(2 ^ 62) ≤ j ∧ j < 2 ^ 62 ∧ rng1 ds S = .ok (.fix (rangeD 0 j.toNat)) S) ∨ rng1 ds S = .bad := by
  unfold rng1
  split
  · rename_i j
    by_cases h : -(2 ^ 62) ≤ j ∧ j < 2 ^ 62
    · rw [if_pos h]; exact .inl ⟨j, rfl, h.1, h.2, rfl⟩
    · rw [if_neg h]; exact .inr rfl
  · exact .inr rfl
theorem di_range1 (hg : Gl X "range") (hm : X.mg "range" = none) (ha : DA X W [e] fa) (hs : starEach [e] X.env = [(false, eval e X.env)] := by rfl) : DI X W tg (.Call (.Name "range" p) [e] [] pos) (iRng1D fa) :=
  PI.mono (pi_range1 hg hm ha hs) fun σ H R ⟨env, ρ, S, a, b, c⟩ => by
    refine tG.of a b ((Post.bind (rep := RepVs X.K) c).mono fun vs H1 ⟨ρ1, S1, d1, x1, s1, r1, c1⟩ => ?_)
    rcases rng1_cases (ds := d1) (S := S1) with ⟨j, rfl, h1, h2, e⟩ | e
    · rw [e] at c1
      obtain ⟨v, rfl, q⟩ := RepVs.one r1
      unfold RepV at q; subst q
      exact ⟨j, rfl, h1, h2, c1.ret s1 (.rng 0 _)⟩
    · rw [e] at c1; exact c1.elim
theorem rng2_cases {ds : List D} {S : Sto} : (∃ i j : Int, ds = [.int i, .int j] ∧ (-(2 ^ 62) ≤ i ∧ i < 2 ^ 62 ∧ -(2 ^ 62) ≤ j ∧ j < 2 ^ 62) ∧ rng2 ds S = .ok (.fix (rangeD i (j - i).toNat)) S) ∨ rng2 ds S = .bad := by
  unfold rng2
  split
  · rename_i i j
    by_cases h : -(2 ^ 62) ≤ i ∧ i < 2 ^ 62 ∧ -(2 ^ 62) ≤ j ∧ j < 2 ^ 62
    · rw [if_pos h]; exact .inl ⟨i, j, rfl, h, rfl⟩
    · rw [if_neg h]; exact .inr rfl
  · exact .inr rfl
theorem di_range2 {e2 : Expr} (hg : Gl X "range") (hm : X.mg "range" = none) (ha : DA X W [e, e2] fa) (hs : starEach [e, e2] X.env = [(false, eval e X.env), (false, eval e2 X.env)] := by rfl) (hs2 : starEach [e2] X.env = [(false, eval e2 X.env)] := by rfl) :
    DI X W tg (.Call (.Name "range" p) [e, e2] [] pos) (iRng2D fa) :=
  PI.mono (pi_range2 hg hm ha hs hs2) fun σ H R ⟨env, ρ, S, a, b, c⟩ => by
    refine tG.of a b ((Post.bind (rep := RepVs X.K) c).mono fun vs H1 ⟨ρ1, S1, d1, x1, s1, r1, c1⟩ => ?_)
    rcases rng2_cases (ds := d1) (S := S1) with ⟨i, j, rfl, h1, e⟩ | e
    · rw [e] at c1
      obtain ⟨v, u, rfl, q, q2⟩ := RepVs.two r1
      unfold RepV at q q2; subst q; subst q2
      exact ⟨i, j, rfl, h1, c1.ret s1 (.rng i _)⟩
    · rw [e] at c1; exact c1.elim
theorem rng3_cases {ds : List D} {S : Sto} : (∃ (i j c : Int) (n : Nat), ds = [.int i, .int j, .int c] ∧ RgC i j c n ∧ rng3 ds S = .ok (.fix (rangeCD i c n)) S) ∨ rng3 ds S = .bad := by
  unfold rng3
  split
  · rename_i i j c
    by_cases h : c ≠ 0 ∧ c.natAbs < 1073741824 ∧ Builtin.Range.small i j c = true ∧ 0 ≤ Builtin.Range.rangeSize i j c
    · rw [if_pos h]
      obtain ⟨h1, h2, h3, h4⟩ := h
      exact .inl ⟨i, j, c, _, rfl, ⟨h1, h2, h3, (Int.toNat_of_nonneg h4).symm⟩, rfl⟩
    · rw [if_neg h]; exact .inr rfl
  · exact .inr rfl
theorem di_range3 {e2 e3 : Expr} (hg : Gl X "range") (hm : X.mg "range" = none) (ha : DA X W [e, e2, e3] fa) (hs : starEach [e, e2, e3] X.env = (false, eval e X.env) :: starEach [e2, e3] X.env := by rfl) (hpl : (backTo pos (starEach [e2, e3] X.env)).any (·.1) = false := by rfl) :
    DI X W tg (.Call (.Name "range" p) [e, e2, e3] [] pos) (iRng3D fa) :=
  PI.mono (pi_range3 hg hm ha hs hpl) fun σ H R ⟨env, ρ, S, a, b, c⟩ => by
    refine tG.of a b ((Post.bind (rep := RepVs X.K) c).mono fun vs H1 ⟨ρ1, S1, d1, x1, s1, r1, c1⟩ => ?_)
    rcases rng3_cases (ds := d1) (S := S1) with ⟨i, j, k, n, rfl, h1, e⟩ | e
    · rw [e] at c1
      obtain ⟨v, u, w, rfl, q, q2, q3⟩ := RepVs.three r1
      unfold RepV at q q2 q3; subst q; subst q2; subst q3
      exact ⟨i, j, k, n, rfl, h1, c1.ret s1 (.rngC i k n)⟩
    · rw [e] at c1; exact c1.elim
/-! ### enumerate -/
theorem turn_enumT {P : Program} {w : World} {K : PySem.W.Frag} {elts : List Expr} {kk : Nat} {tpos : Pos} (a e it : Addr) (hai : a ≠ it) (hae : a ≠ e) :
    Turn P w K (.Tuple elts kk tpos) (IteT K a) [e, it] e (fun i h => (∃ old, IsEnum h e it ((i : Nat) : Int) old) ∧ h.IsTupleIter it a i ∧ e ≠ it) where
  mem := by simp
  obj := fun i h st b hb => by
    obtain ⟨⟨old, he⟩, ⟨o, ho, hc, hd⟩, _⟩ := st
    have e' : b = e ∨ b = it := by simpa using hb
    rcases e' with z | z
    · rw [z]; exact ⟨_, he, fun v q => nomatch q⟩
    · rw [z]; exact ⟨o, ho, fun v q => by rw [hd] at q; cases q⟩
  keep := fun i h h' st k => let ⟨⟨old, he⟩, hi, hne⟩ := st; ⟨⟨old, k e (by simp) _ he⟩, hi.at fun o q => k it (by simp) o q, hne⟩
  item := by
    intro X hP hw hK hc i pins s σ H E I hf st hg
    subst hP hw hK
    obtain ⟨⟨old, he⟩, hit, hne⟩ := st
    obtain ⟨xs, x, hq, hx⟩ := hg
    obtain ⟨its, rv, p, hz⟩ := I.tuple hq
    obtain ⟨u, hu, ru⟩ := rv.get hx
    have hel : e < s.heap.objs.size := Heap.lt_size he
    have hil : it < s.heap.objs.size := by obtain ⟨_, q, _⟩ := hit; exact Heap.lt_size q
    have hin : i < its.toArray.size := by simpa using (List.getElem?_eq_some_iff.mp hu).1
    have hh : X.A.in1.handled = none := I.ok.hd hc
    refine wpAny_pyNext_enum_itemD (fp := [it, a]) (Draws.tuple hh it a hai its.toArray) he ⟨hit, p⟩ hin hne (by simp; exact ⟨hne, fun z => hae z.symm⟩) fun u' h' tk hP' ho hit' hT hsz hk => ?_
    have eu : u' = u := by
      have : its[i]? = some u' := by simpa using hP'
      rw [hu] at this; exact (Option.some.inj this).symm
    subst eu
    refine ⟨_, rfl, wpAny_letOwnedTupleGo_enum (s := { s with heap := h', toks := tk + 1 }) ho fun h'' he' sb => ?_⟩
    have hT2 : h''.get? s.heap.objs.size = some { cls := .type "tuple", data := .seq #[.int i tk, u'] } := (sb.2 _ (Nat.ne_of_gt hel)).trans hT
    have new : ObjOk X.prog X.w (upd H s.heap.objs.size (.tup [.int (i : Nat), x])) h'' s.heap.objs.size (.tup [.int (i : Nat), x]) :=
      ⟨by show 2 ≤ sizeLine; decide, [.int i tk, u'], .cons ⟨_, rfl⟩ (.cons ru .nil), ⟨_, hT2, rfl, _, rfl⟩⟩
    have I1 : Inv X pins σ (upd H s.heap.objs.size (.tup [.int (i : Nat), x])) { s with heap := h'', toks := tk + 1 } :=
      I.turnedNew (ch := [e, it]) (fun b ob hb q => (sb.2 b (fun z => hb (by simp [z]))).trans (hk b ob (fun z => hb (by simp [z])) (fun z => hb (by simp [z])) q)) hf (Nat.le_refl _) new
    refine ⟨.ref s.heap.objs.size, _, I1, rfl, ⟨_, x, rfl, I.hok.fresh (Nat.le_refl _), rfl, fun ys hy => by rw [I.tuple_inj hy hq]; exact hx⟩, ⟨⟨u', ?_⟩, hit'.1.at fun o q => (sb.2 it (Ne.symm hne)).trans q, hne⟩, fun b hb => ?_⟩
    · have e1 : ((i + 1 : Nat) : Int) = (i : Int) + 1 := by omega
      rw [e1]; exact he'
    · have hb' : b < s.heap.objs.size := by
        have e' : b = e ∨ b = it := by simpa using hb
        rcases e' with z | z
        · rw [z]; exact hel
        · rw [z]; exact hil
      rw [upd_ne (Nat.ne_of_lt hb')]
      exact (hf b hb).1
  done := by
    intro X hP hw hK hc i pins s σ H E I hf st hg
    subst hP hw hK
    obtain ⟨⟨old, he⟩, hit, hne⟩ := st
    obtain ⟨xs, hq, hx⟩ := hg
    obtain ⟨its, rv, p, hz⟩ := I.tuple hq
    obtain ⟨f0, f1, f2, f3, f4, f5⟩ := hf it (by simp)
    have hl := rv.length
    exact wpAny_pyNext_enum_endTup (I.ok.hd hc) he hit (show s.heap.IsTuple a its.toArray from p) (by simp; omega) fun h' eb => ⟨rfl, I.turned (t' := s.toks) (fun b o hb q => eb b o hb q) f0 f1 f3 f4 f5⟩
  self := fun A i s Q E st h => let ⟨⟨_, he⟩, _⟩ := st; wpAny_pyIter_enum he h
theorem pi_enumS {ta : TA} {tpos : Pos} {elts : List Expr} {kk : Nat} (hg : Gl X "enumerate") (hm : X.mg "enumerate" = none) (ha : PA X [e] ta) (hs : starEach [e] X.env = [(false, eval e X.env)] := by rfl) :
    PI X (.Tuple elts kk tpos) (.Call (.Name "enumerate" p) [e] [] pos) (fun σ H R => ta σ H fun vs H1 => ∃ a, vs = [.ref a] ∧ (((∃ xs, SqL X.K H1 a xs) ∧ R (Ite X.K a) H1) ∨ ((∃ xs, SqT X.K H1 a xs) ∧ R (IteT X.K a) H1))) := by
  refine ⟨fun pins s σ H R I h => ?_⟩
  refine Call_ (ld_blt I hg hm boot_enumerate (PyProof.Rows.callWith_type1 (thn (ha.run pos pins s σ H _ I h) fun us s1 ⟨vs, H1, I1, r1, q1⟩ => ?_) hs rfl))
  obtain ⟨a, ex, q⟩ := q1
  subst ex
  cases r1 with
  | cons r rr =>
    cases rr
    cases r
    rcases q with ⟨⟨xs, hq⟩, q⟩ | ⟨⟨xs, hq⟩, q⟩
    · obtain ⟨its, rv, p', hz⟩ := I1.list hq
      refine call_enumerate_list p'.isList fun h' he hit hsz hk => wpAny_pyIter_enum he ?_
      have I2 : Inv X pins σ H1 { s1 with heap := h' } := I1.kept (t' := s1.toks) hk
      refine ⟨s1.heap.objs.size + 1, [s1.heap.objs.size + 1, s1.heap.objs.size], _, _, H1, rfl, I2, turn_enum a (s1.heap.objs.size + 1) s1.heap.objs.size, ⟨⟨.none, he⟩, hit, Nat.succ_ne_self _⟩, fun b hb => ?_, q⟩
      have e' : b = s1.heap.objs.size + 1 ∨ b = s1.heap.objs.size := by simpa using hb
      have hle : s1.heap.objs.size ≤ b := by
        rcases e' with z | z
        · rw [z]; exact Nat.le_add_right _ _
        · rw [z]; exact Nat.le_refl _
      exact I1.fpOk hle (I1.hok.fresh hle)
    · obtain ⟨its, rv, p', hz⟩ := I1.tuple hq
      have hlt : a < s1.heap.objs.size := by obtain ⟨o, ho, _⟩ := id p'; exact Heap.lt_size ho
      refine call_enumerate_tup (show s1.heap.IsTuple a its.toArray from p') fun h' he hit hsz hk => wpAny_pyIter_enum he ?_
      have I2 : Inv X pins σ H1 { s1 with heap := h' } := I1.kept (t' := s1.toks) hk
      refine ⟨s1.heap.objs.size + 1, [s1.heap.objs.size + 1, s1.heap.objs.size], _, _, H1, rfl, I2, turn_enumT a (s1.heap.objs.size + 1) s1.heap.objs.size (Nat.ne_of_lt hlt) (Nat.ne_of_lt (Nat.lt_succ_of_lt hlt)), ⟨⟨.none, he⟩, hit, Nat.succ_ne_self _⟩, fun b hb => ?_, q⟩
      have e' : b = s1.heap.objs.size + 1 ∨ b = s1.heap.objs.size := by simpa using hb
      have hle : s1.heap.objs.size ≤ b := by
        rcases e' with z | z
        · rw [z]; exact Nat.le_add_right _ _
        · rw [z]; exact Nat.le_refl _
      exact I1.fpOk hle (I1.hok.fresh hle)
theorem enumSrc_cases {ds : List D} {S : Sto} : (∃ xs, ds = [.tup xs] ∧ enumSrc ds S = .ok (.fix (enumD xs)) S) ∨ (∃ xs, ds = [.new xs] ∧ enumSrc ds S = .ok (.fix (enumD xs)) S) ∨ (∃ n, ds = [.ref n] ∧ enumSrc ds S = .ok (.enl n) S) ∨ enumSrc ds S = .bad := by
  unfold enumSrc
  split
  · exact .inl ⟨_, rfl, rfl⟩
  · exact .inr (.inl ⟨_, rfl, rfl⟩)
  · exact .inr (.inr (.inl ⟨_, rfl, rfl⟩))
  · exact .inr (.inr (.inr rfl))
theorem di_enum {tpos : Pos} {elts : List Expr} {kk : Nat} (hg : Gl X "enumerate") (hm : X.mg "enumerate" = none) (ha : DA X W [e] fa) (hs : starEach [e] X.env = [(false, eval e X.env)] := by rfl) :
    DI X W (.Tuple elts kk tpos) (.Call (.Name "enumerate" p) [e] [] pos) (iEnumD fa) :=
  PI.mono (pi_enumS hg hm ha hs) fun σ H R ⟨env, ρ, S, a, b, c⟩ => by
    refine tG.of a b ((Post.bind (rep := RepVs X.K) c).mono fun vs H1 ⟨ρ1, S1, d1, x1, s1, r1, c1⟩ => ?_)
    rcases enumSrc_cases (ds := d1) (S := S1) with ⟨xs, rfl, e⟩ | ⟨xs, rfl, e⟩ | ⟨n, rfl, e⟩ | e
    · rw [e] at c1
      obtain ⟨v, rfl, q⟩ := RepVs.one r1
      unfold RepV at q
      obtain ⟨p, us, rfl, q, rs⟩ := q
      exact ⟨p, rfl, .inr ⟨⟨us, q⟩, c1.ret s1 (.etup q rs)⟩⟩
    · rw [e] at c1
      obtain ⟨v, rfl, q⟩ := RepVs.one r1
      unfold RepV at q
      obtain ⟨p, us, rfl, q, rs⟩ := q
      exact ⟨p, rfl, .inl ⟨⟨us, q.sq⟩, c1.ret s1 (.enew q rs)⟩⟩
    · rw [e] at c1
      obtain ⟨v, rfl, q⟩ := RepVs.one r1
      unfold RepV at q
      obtain ⟨p, rfl, q, us, hv⟩ := q
      exact ⟨p, rfl, .inl ⟨⟨us, .inl (.inl hv)⟩, c1.ret s1 (.enl q)⟩⟩
    · rw [e] at c1; exact c1.elim
end

/-! ## y = [..] on one line -/
section
variable {X : Cx} {W : WX}
theorem tN_of_new {K : PySem.W.Frag} {mg : Str → Option Value} {f : CA} {σ : L2.St} {H : Hp} {Q : VK} (h : tG K mg (RepV K) W (eNew f) σ H Q) : tN K mg W f σ H Q := by
  obtain ⟨env, ρ, S, a, b, c⟩ := h
  refine tG.of a b ((Post.bind (rep := RepVs K) c).mono fun x H1 ⟨ρ1, S1, d1, x1, s1, r1, c1⟩ p hp => ?_)
  exact c1.retN s1 hp (by unfold RepV; exact ⟨p, x, rfl, ⟨s1.notin hp, upd_same⟩, RepVs.ext (Ext.new hp) _ _ r1⟩)
theorem tN_of_alloc {K : PySem.W.Frag} {mg : Str → Option Value} {f : CA} {σ : L2.St} {H : Hp} {Q : VK} (h : tG K mg (RepV K) W (eAlloc f) σ H Q) : tN K mg W f σ H Q := by
  obtain ⟨env, ρ, S, a, b, c⟩ := h
  refine tG.of a b ((Post.bind (rep := RepVs K) c).mono fun x H1 ⟨ρ1, S1, d1, x1, s1, r1, c1⟩ p hp => ?_)
  refine c1 _ _ (ρ1.push p) (Ext.take hp (Ext.new hp)) (sim_take s1 hp r1) ?_
  unfold RepV
  exact ⟨p, rfl, by rw [← s1.len]; simp [Rg.push], _, upd_same⟩
theorem ps_setComp {i : Nat} {y : Str} {py : Pos} {elt tg iter : Expr} {ifs : List Expr} {rest : List Comprehension} {scope : Scope} {own : List (Str × Nat)} {pos spos : Pos} {fi : CI} {g : CG} {ts : CT} {vs us : List Nat} {inner : CC}
    (hc : X.calm = true) (hN : X.N.Nodup) (hy : X.N[i]? = some y) (hyl : X.env.scope.names.lookup y = some .local)
    (hsw : swapsWith (.ListComp elt (⟨tg, iter, ifs, 0⟩ :: rest) scope pos) (some (.Name y py)) spos.line X.env = pure true) (ok : BlkOk X.N X.env.scope scope own) (hown : own.map (·.2) = vs ++ us) (hi : DI X W tg iter fi)
    (hg : ∀ (s : Shared) (H : Hp) (C : Addr) (cl : List (Str × Addr)) (fp : List Addr), DG (X.blk s H scope (compEnvC scope cl C X.env) fp) tg g vs) (ht : ∀ (s : Shared) (H : Hp) (C : Addr) (cl : List (Str × Addr)) (fp : List Addr), DTs (X.blk s H scope (compEnvC scope cl C X.env) fp) WF ifs ts)
    (hin : ∀ (s : Shared) (H : Hp) (C : Addr) (cl : List (Str × Addr)) (fp : List Addr) (Dd : Addr), InnerOk (X.blk s H scope (compEnvC scope cl C X.env) fp) Dd elt (⟨tg, iter, ifs, 0⟩ :: rest) scope pos 0 us inner) (hs : ∀ x, foldedSetIterable iter X.env x = pure x)
    (hs1 : ∀ g', rest[0]? = some g' → g'.is_async = 0 ∧ ∀ env x, foldedSetIterable g'.iter env x = pure x) :
    PS X (.Assign [.Name y py] (.ListComp elt (⟨tg, iter, ifs, 0⟩ :: rest) scope pos) spos) (tAsg (tN X.K X.mg W (aComp (cFor fi g ts (vs ++ us) inner))) (L2.gName i)) := by
  refine ⟨fun pins s σ H D I h => ?_⟩
  rw [exec_Assign_Name_used _ _ _ _ hsw]
  refine wpAny_bind (wpAny_standAt (wpAny_bind ?_))
  show wpAny _ X.A (do let _ ← comprehension (.ListComp elt (⟨tg, iter, ifs, 0⟩ :: rest) scope pos) scope X.env (firstIterPos (⟨tg, iter, ifs, 0⟩ :: rest) pos) (newList []) false (eval iter X.env) (some (assign (.Name y py) X.env))) _ _ s
  have h : tN X.K X.mg W (aComp (cFor fi g ts (vs ++ us) inner)) σ H (fun x H1 => L2.gName i x σ H1 D.nx) := h
  refine wpAny_bind (thn (lcg_core (Qf := fun _ s' => SP X pins D .next s') hc hN I hi ok hown hg ht hin hs hs1 h fun L C s' m H' I' q hn f => ?_) fun _ s' hq => wpAny_pure (wpAny_pure hq))
  show wpAny _ _ (assign (.Name y py) X.env (.ref L)) _ _ _
  refine wpAny_assign_Name (store_ok2 (v := V.ref L) I' hN hy (.inl hyl) rfl (fun s2 I2 ⟨a, sb, ha⟩ => ?_) (.inr hyl))
  obtain ⟨f0, f1, f2, f3, f4, f5⟩ := f
  have haC : C ≠ a := by
    rcases ha with z | z
    · rw [z]; exact f1
    · exact fun e => f4 y a z e.symm
  refine ⟨m, hn.sameBut sb haC, fun h3 sb3 => ?_⟩
  exact ⟨_, H', I2.turned (t' := s2.toks) (fun b o hb e => (sb3.2 b hb).trans e) f0 f1 f3 f4 f5, q⟩
theorem ds_asgN {i : Nat} {st : Stmt} {f : CA} (h : PS X st (tAsg (tN X.K X.mg W f) (L2.gName i))) : DS X W st (sAsg (eNew f) (gName i)) :=
  DS.of h fun Dn σ H env ρ S a b c => tN_of_new (tG.of a b ((PostS.st (rep := RepV X.K) a c).mono fun v H1 ⟨ρ1, S1, x, x1, s1, r1, c1⟩ => PostS.nxt c1 s1 ((a.ext x1).set r1)))
theorem ds_asgA {i : Nat} {st : Stmt} {f : CA} (h : PS X st (tAsg (tN X.K X.mg W f) (L2.gName i))) : DS X W st (sAsg (eAlloc f) (gName i)) :=
  DS.of h fun Dn σ H env ρ S a b c => tN_of_alloc (tG.of a b ((PostS.st (rep := RepV X.K) a c).mono fun v H1 ⟨ρ1, S1, x, x1, s1, r1, c1⟩ => PostS.nxt c1 s1 ((a.ext x1).set r1)))
end

/-! ## a def keeps its promise -/
section
variable {P : Program} {w : World} {K : PySem.W.Frag} {mg : Str → Option Value} {base : Heap} {x qual : Str} {params : Arguments} {body : List Stmt} {scope : Scope} {dvs : List V} {kws : List (Str × V)} {f : Addr} {fd : FuncData}
theorem fn_ok {N ps : List Str} {k : Nat} {fb : CS} (F : FunD K x qual params body scope dvs kws f fd) (Sc : FnScope N ps scope) (hln : ps.length ≤ N.length := by decide)
    (hbody : ∀ (cdv : Value) (A : Around) (outer : List PySem.Env) (s : Shared) (H : Hp) (E : XK), Room k (A.deeper (envOfC qual scope s.heap.objs.size f cdv)) →
      DSs (cxOf (CX P w) P w K mg base N qual scope f cdv A outer s H E) (fun cls d _ H => E cls d H) body fb) :
    FnOk P w K mg base (CX P w) (k + 1) f fd ps (spD K mg ps.length (fnD ps.length N.length fb)) := by
  refine F.ok Sc (fun vs H Q E h => h.len) (fun cdv A outer s H vs Q E hr h => ⟨_, hbody cdv A outer s H E hr, ?_⟩)
  obtain ⟨ds, ρ, S, r, sm, c⟩ := h
  unfold fnG at c
  split at c
  · rename_i hl
    have hlv : vs.length = ps.length := by rw [RepVs.length r]; exact hl
    refine tS.of (env := ds.map some ++ List.replicate (N.length - ps.length) none) (ρ := ρ) (S := S) ⟨?_, fun i d e => ?_⟩ sm ?_
    · unfold L2.start
      simp [hlv, hl]
    · unfold L2.start
      have hi : i < ds.length := by
        rcases Nat.lt_or_ge i ds.length with z | z
        · exact z
        · rw [List.getElem?_append_right (by simpa using z)] at e
          obtain ⟨h1, h2⟩ := List.getElem?_eq_some_iff.mp e
          simp at h2
      rw [List.getElem?_append_left (by simpa using hi)] at e
      rw [List.getElem?_map] at e
      have e' : ds[i]? = some d := by
        cases q : ds[i]? with
        | none => rw [q] at e; cases e
        | some z => rw [q] at e; simp at e; rw [e]
      obtain ⟨v, e1, e2⟩ := RepVs.get r e'
      refine ⟨v, ?_, e2⟩
      have hi2 : i < vs.length := (List.getElem?_eq_some_iff.mp e1).1
      rw [List.getElem?_append_left (by simpa using hi2), List.getElem?_map, e1]
      rfl
    · unfold fnD at c
      rw [if_pos hl] at c
      cases q : fb (ds.map some ++ List.replicate (N.length - ps.length) none) S with
      | nx env' S' =>
        rw [q] at c
        exact fun σ' H' ρ' x' s' a' => c .non H' ρ' x' s' (by unfold RepV; rfl)
      | rt d S' => rw [q] at c; exact c
      | bk _ _ => rw [q] at c; exact c.elim
      | ct _ _ => rw [q] at c; exact c.elim
      | exc e env' S' => rw [q] at c; exact fun σ' cls dd H' ρ' x' s' a' rx => c cls dd H' ρ' x' s' rx
      | bad => rw [q] at c; exact c.elim
  · exact c.elim
/-- another function that says no more than the body's -/
def Ref (np : Nat) (F F' : List D → Sto → R D) : Prop := ∀ (ds : List D) (S : Sto), ds.length = np → ∀ (K : PySem.W.Frag) (mg : Str → Option Value) (E : XW) (ρ : Rg) (H : Hp) (Q : VK), Sim K ρ S H → (∃ vs, RepVs K H ρ ds vs) →
  Post K mg (RepV K) E ρ H (F' ds S) Q → Post K mg (RepV K) E ρ H (F ds S) Q
theorem fn_ref {k : Nat} {ps : List Str} {np : Nat} {F F' : List D → Sto → R D} (G : FnOk P w K mg base (CX P w) k f fd ps (spD K mg np F)) (h : Ref np F F') : FnOk P w K mg base (CX P w) k f fd ps (spD K mg np F') :=
  G.imp fun vs H Q E ⟨ds, ρ, S, r, sm, c⟩ => by
    refine ⟨ds, ρ, S, r, sm, ?_⟩
    unfold fnG at c ⊢
    split
    · rename_i hl
      rw [if_pos hl] at c
      exact h ds S hl K mg E ρ H Q sm ⟨vs, r⟩ c
    · rename_i hl
      rw [if_neg hl] at c
      exact c
end
end J

namespace J
open PySem PySem.Spec PyProof.Rows L2

/-! ## keys in the abstract heap -/
mutual
inductive KeyV (K : PySem.W.Frag) (H : Hp) : V → NestedKey → Prop
  | non : KeyV K H .non .none
  | bl (b : Bool) : KeyV K H (.bl b) (.num (if b = true then 1 else 0))
  | int (i : Int) : KeyV K H (.int i) (.num i)
  | tup {a : Addr} {xs : List V} {ks : List NestedKey} (q : SqT K H a xs) (r : KeyVs K H xs ks) : KeyV K H (.ref a) (.tup ks)
inductive KeyVs (K : PySem.W.Frag) (H : Hp) : List V → List NestedKey → Prop
  | nil : KeyVs K H [] []
  | cons {v : V} {k : NestedKey} {vs : List V} {ks : List NestedKey} (h : KeyV K H v k) (t : KeyVs K H vs ks) : KeyVs K H (v :: vs) (k :: ks)
end
section
variable {K : PySem.W.Frag} {H : Hp} {ρ : Rg}
theorem nks_cons {d : D} {ds : List D} {ks : List NestedKey} (h : D.nks (d :: ds) = some ks) : ∃ a b, d.nk = some a ∧ D.nks ds = some b ∧ ks = a :: b := by
  simp only [D.nks] at h
  split at h
  · rename_i a b h1 h2
    exact ⟨a, b, h1, h2, (Option.some.inj h).symm⟩
  · cases h
mutual
theorem KeyV.of : ∀ (d : D) (v : V) (k : NestedKey), RepV K H ρ d v → d.nk = some k → KeyV K H v k
  | .non, v, k, r, e => by unfold RepV at r; subst r; simp only [D.nk, Option.some.injEq] at e; subst e; exact .non
  | .bl b, v, k, r, e => by unfold RepV at r; subst r; simp only [D.nk, Option.some.injEq] at e; subst e; exact .bl b
  | .int i, v, k, r, e => by unfold RepV at r; subst r; simp only [D.nk, Option.some.injEq] at e; subst e; exact .int i
  | .tup ds, v, k, r, e => by
    unfold RepV at r
    obtain ⟨a, vs, rfl, q, t⟩ := r
    simp only [D.nk, Option.map_eq_some_iff] at e
    obtain ⟨ks, e1, rfl⟩ := e
    exact .tup q (KeyVs.of ds vs ks t e1)
  | .str _, _, _, _, e => by simp [D.nk] at e
  | .new _, _, _, _, e => by simp [D.nk] at e
  | .scr _, _, _, _, e => by simp [D.nk] at e
  | .ref _, _, _, _, e => by simp [D.nk] at e
  | .exn _, _, _, _, e => by simp [D.nk] at e
  | .dic _ _, _, _, _, e => by simp [D.nk] at e
  | .rdc _, _, _, _, e => by simp [D.nk] at e
  | .obj _, _, _, _, e => by simp [D.nk] at e
  | .ktp _, _, _, _, e => by simp [D.nk] at e
theorem KeyVs.of : ∀ (ds : List D) (vs : List V) (ks : List NestedKey), RepVs K H ρ ds vs → D.nks ds = some ks → KeyVs K H vs ks
  | [], vs, ks, r, e => by unfold RepVs at r; subst r; simp only [D.nks, Option.some.injEq] at e; subst e; exact .nil
  | d :: ds, vs, ks, r, e => by
    unfold RepVs at r
    obtain ⟨v, rr, rfl, q, t⟩ := r
    obtain ⟨a, b, h1, h2, rfl⟩ := nks_cons e
    exact .cons (KeyV.of d v a q h1) (KeyVs.of ds rr b t h2)
end
mutual
theorem KeyV.hash : ∀ {v : V} {k : NestedKey}, KeyV K H v k → ∀ w w', k.hash w = k.hash w'
  | _, _, .non, _, _ => by simp only [NestedKey.hash]
  | _, _, .bl _, _, _ => by simp only [NestedKey.hash]
  | _, _, .int _, _, _ => by simp only [NestedKey.hash]
  | _, _, .tup _ r, w, w' => by simp only [NestedKey.hash]; rw [KeyVs.hash r w w']
theorem KeyVs.hash : ∀ {vs : List V} {ks : List NestedKey}, KeyVs K H vs ks → ∀ w w', NestedKey.hashes w ks = NestedKey.hashes w' ks
  | _, _, .nil, _, _ => rfl
  | _, _, .cons h t, w, w' => by simp only [NestedKey.hashes]; rw [KeyV.hash h w w', KeyVs.hash t w w']
end
end
section
variable {X : Cx} {pins : List (Addr × Obj)} {σ : L2.St} {H : Hp} {s : Shared}
mutual
theorem KeyV.is (I : Inv X pins σ H s) : ∀ {v : V} {k : NestedKey} {u : Value}, KeyV X.K H v k → RelV v u → NestedIs s.heap k u
  | _, _, _, .non, r => by cases (show _ = Value.none from r); exact .none
  | _, _, _, .bl b, r => by cases (show _ = Value.bool b from r); exact .bool rfl
  | _, _, _, .int i, r => by obtain ⟨t, rfl⟩ := (show ∃ t, _ = Value.int i t from r); exact .int i t
  | _, _, _, .tup q r, e => by
    cases (show _ = Value.ref _ from e)
    obtain ⟨its, rv, ⟨o, ho, hc, n, hd⟩, _⟩ := I.tuple q
    exact .tup ho hc hd (KeyVs.is I r rv)
theorem KeyVs.is (I : Inv X pins σ H s) : ∀ {vs : List V} {ks : List NestedKey} {us : List Value}, KeyVs X.K H vs ks → Vals vs us → NestedAll s.heap ks us
  | _, _, _, .nil, .nil => .nil
  | _, _, _, .cons h t, .cons r rs => .cons (KeyV.is I h r) (KeyVs.is I t rs)
end
end

theorem paired_app {α β : Type} {F : α → β → Prop} : ∀ {xs xs' : List α} {ys ys' : List β}, Paired F xs ys → Paired F xs' ys' → Paired F (xs ++ xs') (ys ++ ys')
  | _, _, _, _, .nil, s => s
  | _, _, _, _, .cons r t, s => .cons r (paired_app t s)

/-! ## entries -/
def valE (es : List Ent) (k : NestedKey) : Option V := (es.find? fun e => decide (e.1 = k)).map (·.2.2)
def hitE (k : NestedKey) (v : V) (e : Ent) : Ent := if e.1 = k then (e.1, e.2.1, v) else e
def putE (es : List Ent) (k : NestedKey) (y v : V) : List Ent := if (valE es k).isSome = true then es.map (hitE k v) else es ++ [(k, y, v)]
def dropE (es : List Ent) (k : NestedKey) : List Ent := es.filter fun e => decide (e.1 ≠ k)
/-- all keys are tuples, or all are whole numbers -/
def EOk (K : PySem.W.Frag) (H : Hp) (es : List Ent) (y : V) (k : NestedKey) : Prop :=
  ((∀ e ∈ es, KeyV K H e.2.1 e.1 ∧ e.1.depth ≤ 8 ∧ ∃ b, e.2.1 = .ref b) ∧ KeyV K H y k ∧ k.depth ≤ 8 ∧ ∃ b, y = .ref b) ∨
  ((∀ e ∈ es, ∃ i, e.2.1 = .int i ∧ e.1 = .num i) ∧ ∃ i, y = .int i ∧ k = .num i)
theorem valE_pos {e : Ent} {r : List Ent} {k : NestedKey} (h : e.1 = k) : valE (e :: r) k = some e.2.2 := by simp [valE, h]
theorem valE_neg {e : Ent} {r : List Ent} {k : NestedKey} (h : ¬ e.1 = k) : valE (e :: r) k = valE r k := by simp [valE, h]
theorem putE_len (es : List Ent) (k : NestedKey) (y v : V) : (putE es k y v).length ≤ es.length + 1 := by
  unfold putE; split <;> simp
abbrev EH : List Ent → List (NestedKey × Addr × Value) → Prop := Paired fun e y => y.1 = e.1 ∧ e.2.1 = .ref y.2.1 ∧ RelV e.2.2 y.2.2
abbrev EI : List Ent → List (Int × Value) → Prop := Paired fun e y => e.1 = .num y.1 ∧ e.2.1 = .int y.1 ∧ RelV e.2.2 y.2
theorem EH.val : ∀ {es : List Ent} {ys : List (NestedKey × Addr × Value)}, EH es ys → ∀ k, RelO (valE es k) ((atKey ys k).map (·.2))
  | _, _, .nil, _ => True.intro
  | _, _, .cons (a := e) (b := y) h t, k => by
    have ih := EH.val t k
    obtain ⟨h1, _, h3⟩ := h
    by_cases q : e.1 = k
    · rw [valE_pos q]
      have : y.1 = k := h1.trans q
      simp only [atKey, List.find?_cons, decide_eq_true this, Option.map_some]
      exact h3
    · rw [valE_neg q]
      have : ¬ y.1 = k := fun z => q (h1.symm.trans z)
      simp only [atKey, List.find?_cons, decide_eq_false this]
      exact ih
theorem EI.val : ∀ {es : List Ent} {ys : List (Int × Value)}, EI es ys → ∀ i : Int, RelO (valE es (.num i)) (valueAt ys i)
  | _, _, .nil, _ => True.intro
  | _, _, .cons (a := e) (b := y) h t, i => by
    have ih := EI.val t i
    obtain ⟨h1, _, h3⟩ := h
    by_cases q : e.1 = .num i
    · rw [valE_pos q]
      have : y.1 = i := by rw [h1] at q; injection q
      simp only [valueAt, List.find?_cons, decide_eq_true this, Option.map_some]
      exact h3
    · rw [valE_neg q]
      have : ¬ y.1 = i := fun z => q (by rw [h1, z])
      simp only [valueAt, List.find?_cons, decide_eq_false this]
      exact ih
theorem EH.hit {k : NestedKey} {v : V} {u : Value} (r : RelV v u) : ∀ {es : List Ent} {ys : List (NestedKey × Addr × Value)}, EH es ys → EH (es.map (hitE k v)) (ys.map (putAt k u))
  | _, _, .nil => .nil
  | _, _, .cons (a := e) (b := y) h t => by
    refine .cons ?_ (EH.hit r t)
    obtain ⟨h1, h2, h3⟩ := h
    unfold hitE putAt
    by_cases q : e.1 = k
    · rw [if_pos q, if_pos (h1.trans q)]; exact ⟨h1, h2, r⟩
    · rw [if_neg q, if_neg (fun z => q (h1.symm.trans z))]; exact ⟨h1, h2, h3⟩
theorem EI.hit {i : Int} {v : V} {u : Value} (r : RelV v u) : ∀ {es : List Ent} {ys : List (Int × Value)}, EI es ys → EI (es.map (hitE (.num i) v)) (ys.map fun kv => if kv.1 = i then (kv.1, u) else kv)
  | _, _, .nil => .nil
  | _, _, .cons (a := e) (b := y) h t => by
    refine .cons ?_ (EI.hit r t)
    obtain ⟨h1, h2, h3⟩ := h
    unfold hitE
    by_cases q : e.1 = .num i
    · have : y.1 = i := by rw [h1] at q; injection q
      simp only [q, this, if_true]
      refine ⟨by rw [← this] at q; simpa [this] using q, by rw [← this]; exact h2, r⟩
    · have : ¬ y.1 = i := fun z => q (by rw [h1, z])
      rw [if_neg q]
      simp only [this, if_false]
      exact ⟨h1, h2, h3⟩
theorem EH.put {es : List Ent} {ys : List (NestedKey × Addr × Value)} (h : EH es ys) (k : NestedKey) (b : Addr) {v : V} {u : Value} (r : RelV v u) : EH (putE es k (.ref b) v) (storedH ys k b u) := by
  have q := (EH.val h k).isSome_eq
  rw [Option.isSome_map] at q
  unfold putE storedH
  rw [q]
  split
  · exact EH.hit r h
  · exact paired_app h (.cons ⟨rfl, rfl, r⟩ .nil)
theorem any_valueAt (ys : List (Int × Value)) (i : Int) : (ys.any fun kv => decide (kv.1 = i)) = (valueAt ys i).isSome := by
  induction ys with
  | nil => rfl
  | cons y ys ih =>
    by_cases q : y.1 = i
    · simp [valueAt, q]
    · simp only [valueAt, List.any_cons, List.find?_cons, decide_eq_false q, Bool.false_or] at ih ⊢
      exact ih
theorem EI.put {es : List Ent} {ys : List (Int × Value)} (h : EI es ys) (i : Int) {v : V} {u : Value} (r : RelV v u) : EI (putE es (.num i) (.int i) v) (stored ys i u) := by
  have q := (EI.val h i).isSome_eq
  unfold putE stored
  rw [q, any_valueAt]
  split
  · exact EI.hit r h
  · exact paired_app h (.cons ⟨rfl, rfl, r⟩ .nil)
theorem EH.keys : ∀ {es : List Ent} {ys : List (NestedKey × Addr × Value)}, EH es ys → ys.map (·.1) = es.map (·.1)
  | _, _, .nil => rfl
  | _, _, .cons h t => by rw [List.map_cons, List.map_cons, h.1, EH.keys t]
theorem EI.keys : ∀ {es : List Ent} {ys : List (Int × Value)}, EI es ys → es.map (·.1) = (ys.map (·.1)).map .num
  | _, _, .nil => rfl
  | _, _, .cons h t => by rw [List.map_cons, List.map_cons, List.map_cons, h.1, EI.keys t]
theorem nodup_num {xs : List Int} : (xs.map NestedKey.num).Nodup ↔ xs.Nodup := by
  constructor
  · exact fun h => List.Pairwise.imp (fun q z => q (by rw [z])) (List.pairwise_map.mp h)
  · exact fun h => List.Pairwise.map _ (fun a b q => by intro z; injection z with z; exact q z) h
theorem hash_num (w : World) (i : Int) : NestedKey.hash w (.num i) = hashInt i := by simp only [NestedKey.hash]

section
variable {X : Cx} {pins : List (Addr × Obj)} {σ : L2.St} {H : Hp} {s : Shared} {a : Addr} {es : List Ent} {ep : Nat} {A : Around} {E : Value → Shared → Prop} {y v : V} {u r : Value} {k : NestedKey}
theorem toH (I : Inv X pins σ H s) (h : H a = some (DicT a es ep)) (ok : ∀ e ∈ es, KeyV X.K H e.2.1 e.1 ∧ e.1.depth ≤ 8 ∧ ∃ b, e.2.1 = .ref b) : ∃ ys, s.heap.DictOfH (nestedKind X.prog X.w) a ys ∧ EH es ys := by
  obtain ⟨hs, hz, hn, o, xs, hg, hx, hd, pr⟩ := Inv.dic I h
  have key : ∀ {es : List Ent} {xs : List DictEntry}, Paired (fun (e : Ent) (x : DictEntry) => (∀ w, x.hash = e.1.hash w) ∧ RelV e.2.1 x.key ∧ RelV e.2.2 x.val) es xs → (∀ e ∈ es, KeyV X.K H e.2.1 e.1 ∧ e.1.depth ≤ 8 ∧ ∃ b, e.2.1 = .ref b) →
      ∃ ys, xs = ys.map (entryOfKey (nestedKind X.prog X.w)) ∧ EH es ys ∧ ∀ y ∈ ys, (nestedKind X.prog X.w).is s.heap y.1 y.2.1 := by
    intro es xs pr
    induction pr with
    | nil => exact fun _ => ⟨[], rfl, .nil, fun _ h => nomatch h⟩
    | @cons e x es xs h t ih =>
      intro ok
      obtain ⟨ys, e1, e2, e3⟩ := ih fun e he => ok e (List.mem_cons_of_mem _ he)
      obtain ⟨k1, k2, b, hb⟩ := ok e List.mem_cons_self
      obtain ⟨h1, h2, h3⟩ := h
      have hb2 := h2
      rw [hb] at hb2
      have hk : x.key = .ref b := hb2
      have is := KeyV.is I k1 h2
      rw [hk] at is
      refine ⟨(e.1, b, x.val) :: ys, ?_, .cons ⟨rfl, hb, h3⟩ e2, fun y hy => ?_⟩
      · rw [List.map_cons, ← e1]
        congr 1
        obtain ⟨xh, xk, xv⟩ := x
        simp only at hk h1 h3 ⊢
        simp only [entryOfKey]
        rw [hk, h1 X.w]; rfl
      · rcases List.mem_cons.mp hy with rfl | hy
        · exact ⟨is, k2⟩
        · exact e3 y hy
  obtain ⟨ys, e1, e2, e3⟩ := key pr ok
  exact ⟨ys, ⟨o, xs, ep, hg, hx, hd, e1, e3, by rw [EH.keys e2]; exact hn⟩, e2⟩
theorem toI' (I : Inv X pins σ H s) (h : H a = some (DicT a es ep)) (ok : ∀ e ∈ es, ∃ i, e.2.1 = .int i ∧ e.1 = .num i) : ∃ ys, s.heap.DictOf (PySem.intKind X.prog X.w) a ys ∧ EI es ys := by
  obtain ⟨hs, hz, hn, o, xs, hg, hx, hd, pr⟩ := Inv.dic I h
  have key : ∀ {es : List Ent} {xs : List DictEntry}, Paired (fun (e : Ent) (x : DictEntry) => (∀ w, x.hash = e.1.hash w) ∧ RelV e.2.1 x.key ∧ RelV e.2.2 x.val) es xs → (∀ e ∈ es, ∃ i, e.2.1 = .int i ∧ e.1 = .num i) →
      ∃ ys, Pairs (PySem.intKind X.prog X.w) xs ys ∧ EI es ys ∧ ∀ x ∈ xs, ∃ k, (PySem.intKind X.prog X.w).is k x.key = true ∧ x.hash = (PySem.intKind X.prog X.w).hash k := by
    intro es xs pr
    induction pr with
    | nil => exact fun _ => ⟨[], .nil, .nil, fun _ h => nomatch h⟩
    | @cons e x es xs h t ih =>
      intro ok
      obtain ⟨ys, e1, e2, e3⟩ := ih fun e he => ok e (List.mem_cons_of_mem _ he)
      obtain ⟨i, k1, k2⟩ := ok e List.mem_cons_self
      obtain ⟨h1, h2, h3⟩ := h
      rw [k1] at h2
      obtain ⟨t, ht⟩ := (show ∃ t, x.key = Value.int i t from h2)
      have is : (PySem.intKind X.prog X.w).is i x.key = true := by rw [ht]; exact (by simp [PySem.intKind, Value.isInt] : Value.isInt i (.int i t) = true)
      refine ⟨(i, x.val) :: ys, .cons is rfl e1, .cons ⟨k2, k1, h3⟩ e2, fun z hz => ?_⟩
      rcases List.mem_cons.mp hz with rfl | hz
      · exact ⟨i, is, by rw [h1 X.w, k2, hash_num]; rfl⟩
      · exact e3 z hz
  obtain ⟨ys, e1, e2, e3⟩ := key pr ok
  refine ⟨ys, ⟨o, xs, ep, hg, hx, hd, fun e he => e3 e (by simpa using he), e1, ?_⟩, e2⟩
  rw [EI.keys e2] at hn
  exact nodup_num.mp hn
/-- the dict's object stands as told -/
theorem dicOk {P : Program} {w : World} {H' : Hp} {h' : Heap} {ep' : Nat} (hs : (a == sysModules) = false) (hz : es.length ≤ sizeLine) (hn : (es.map (·.1)).Nodup) {o : Obj} {xs : Array DictEntry} (hg : h'.get? a = some o) (hx : o.ExactDict) (hd : o.data = .dict xs ep')
    (pr : Paired (fun (e : Ent) (x : DictEntry) => (∀ w, x.hash = e.1.hash w) ∧ RelV e.2.1 x.key ∧ RelV e.2.2 x.val) es xs.toList) : ObjOk P w H' h' a (DicT a es ep') :=
  ⟨⟨hs, hz, hn, o, xs, hg, hx, hd, pr⟩, ⟨o, hg⟩, fun h1 h2 ⟨q1, q2, q3, o, xs, g, r⟩ k => ⟨q1, q2, q3, o, xs, k o g, r⟩⟩
theorem fromH {P : Program} {w : World} {H' : Hp} {h' : Heap} {ys : List (NestedKey × Addr × Value)} (hs : (a == sysModules) = false) (hz : es.length ≤ sizeLine) (hk : ∀ e ∈ es, ∀ w w', e.1.hash w = e.1.hash w') (d : h'.DictOfH (nestedKind P w) a ys) (r : EH es ys) : ∃ ep', ObjOk P w H' h' a (DicT a es ep') := by
  obtain ⟨o, xs, ep', hg, hx, hd, e1, e3, hn⟩ := d
  refine ⟨ep', dicOk hs hz (by rw [← EH.keys r]; exact hn) hg hx hd ?_⟩
  rw [e1]
  have key : ∀ {es : List Ent} {ys : List (NestedKey × Addr × Value)}, EH es ys → (∀ e ∈ es, ∀ w w', e.1.hash w = e.1.hash w') → Paired (fun (e : Ent) (x : DictEntry) => (∀ w, x.hash = e.1.hash w) ∧ RelV e.2.1 x.key ∧ RelV e.2.2 x.val) es (ys.map (entryOfKey (nestedKind P w))) := by
    intro es ys r
    induction r with
    | nil => exact fun _ => .nil
    | @cons e y es ys h t ih =>
      intro hk
      obtain ⟨h1, h2, h3⟩ := h
      refine .cons ⟨fun w' => ?_, by rw [h2]; rfl, h3⟩ (ih fun e he => hk e (List.mem_cons_of_mem _ he))
      show (nestedKind P w).hash y.1 = _
      rw [h1]
      exact hk e List.mem_cons_self w w'
  exact key r hk
theorem fromI {P : Program} {w : World} {H' : Hp} {h' : Heap} {ys : List (Int × Value)} (hs : (a == sysModules) = false) (hz : es.length ≤ sizeLine) (d : h'.DictOf (PySem.intKind P w) a ys) (r : EI es ys) : ∃ ep', ObjOk P w H' h' a (DicT a es ep') := by
  obtain ⟨o, xs, ep', hg, hx, hd, e3, e1, hn⟩ := d
  refine ⟨ep', dicOk hs hz (by rw [EI.keys r]; exact nodup_num.mpr hn) hg hx hd ?_⟩
  have key : ∀ {es : List Ent} {ys : List (Int × Value)} {xs : List DictEntry}, EI es ys → Pairs (PySem.intKind P w) xs ys → (∀ x ∈ xs, ∃ k, (PySem.intKind P w).is k x.key = true ∧ x.hash = (PySem.intKind P w).hash k) → Paired (fun (e : Ent) (x : DictEntry) => (∀ w, x.hash = e.1.hash w) ∧ RelV e.2.1 x.key ∧ RelV e.2.2 x.val) es xs := by
    intro es ys xs r
    induction r generalizing xs with
    | nil => intro p _; cases p; exact .nil
    | @cons e y es ys h t ih =>
      intro p hk
      obtain ⟨h1, h2, h3⟩ := h
      cases p with
      | @cons x _ xs _ p1 p2 p3 =>
        obtain ⟨t', ht⟩ := Value.isInt_shape p1
        obtain ⟨k', q1, q2⟩ := hk x List.mem_cons_self
        have ek : k' = y.1 := (PySem.intKind P w).inj _ _ _ q1 p1
        refine .cons ⟨fun w' => ?_, ?_, ?_⟩ (ih p3 fun x hx => hk x (List.mem_cons_of_mem _ hx))
        · rw [q2, ek, h1, hash_num]; rfl
        · rw [h2]; exact ⟨t', ht⟩
        · rw [p2]; exact h3
  exact key r e1 fun x hx => e3 x (by simpa using hx)
theorem relO_some {o : Option V} {o' : Option Value} {v : V} (h : RelO o o') (e : o = some v) : ∃ u, o' = some u ∧ RelV v u := by
  subst e
  cases o' with
  | none => exact h.elim
  | some u => exact ⟨u, rfl, h⟩
theorem room_n (hu : A.units + 9 < cLine) : (nestedKind X.prog X.w).room A.in1 := by
  show A.units + 1 + 8 < cLine; omega
theorem isInt_of {i : Int} (ry : RelV (.int i) u) : (PySem.intKind X.prog X.w).is i u = true := by
  obtain ⟨t, rfl⟩ := (show ∃ t, u = Value.int i t from ry)
  simp [PySem.intKind, Value.isInt]
theorem dic_getItem {Q : Value → Shared → Prop} (hu : A.units + 9 < cLine) (I : Inv X pins σ H s) (hd : H a = some (DicT a es ep)) (ok : EOk X.K H es y k) (l : valE es k = some v) (ry : RelV y u) (h : ∀ w' s', Inv X pins σ H s' → RelV v w' → Q w' s') :
    wpAny (model X.prog X.w) A (getItem (.ref a) u) Q E s := by
  rcases ok with ⟨ok, kv, dp, b, rfl⟩ | ⟨ok, i, rfl, rfl⟩
  · cases (show u = Value.ref b from ry)
    obtain ⟨ys, dd, rel⟩ := toH I hd ok
    obtain ⟨w', hw, rw'⟩ := relO_some (EH.val rel k) l
    obtain ⟨p, hp, hp2⟩ := Option.map_eq_some_iff.mp hw
    refine wpAny_getItem_heap (room_n hu) ⟨KeyV.is I kv rfl, dp⟩ dd hp ?_
    rw [hp2]
    exact h w' _ (I.tok _) rw'
  · obtain ⟨ys, dd, rel⟩ := toI' I hd ok
    obtain ⟨w', hw, rw'⟩ := relO_some (EI.val rel i) l
    exact wpAny_getItem_of (isInt_of ry) dd.mapOf hw (h w' _ (I.tok _) rw')
theorem dic_get1 {Q : Value → Shared → Prop} (hu : A.units + 9 < cLine) (I : Inv X pins σ H s) (hd : H a = some (DicT a es ep)) (ok : EOk X.K H es y k) (ry : RelV y u) (h : ∀ w' s', Inv X pins σ H s' → RelV ((valE es k).getD .non) w' → Q w' s') :
    wpAny (model X.prog X.w) A (call (.builtin "dict.get") [.ref a, u]) Q E s := by
  have hs := (Inv.dic I hd).1
  rcases ok with ⟨ok, kv, dp, b, rfl⟩ | ⟨ok, i, rfl, rfl⟩
  · cases (show u = Value.ref b from ry)
    obtain ⟨ys, dd, rel⟩ := toH I hd ok
    exact call_meetsIn PySem.F.slot_dict_get dd.typeIs PySem.F.entry_dict_get (PySem.F.args_dict_get_2 _ _) (meetsH_dict_get (nestedKind X.prog X.w) a b hs) ⟨room_n hu, k, ys, ⟨KeyV.is I kv rfl, dp⟩, dd, h _ _ (I.tok _) ((EH.val rel k).getD rfl)⟩
  · obtain ⟨ys, dd, rel⟩ := toI' I hd ok
    exact call_meetsIn PySem.F.slot_dict_get dd.typeIs PySem.F.entry_dict_get (PySem.F.args_dict_get_2 _ _) (meets_dict_get (PySem.intKind X.prog X.w) a (isInt_of ry) hs) ⟨_, dd.mapOf, h _ _ (I.tok _) ((EI.val rel i).getD rfl)⟩
theorem dic_get2 {Q : Value → Shared → Prop} {d : V} (hu : A.units + 9 < cLine) (I : Inv X pins σ H s) (hd : H a = some (DicT a es ep)) (ok : EOk X.K H es y k) (ry : RelV y u) (rd : RelV d r) (h : ∀ w' s', Inv X pins σ H s' → RelV ((valE es k).getD d) w' → Q w' s') :
    wpAny (model X.prog X.w) A (call (.builtin "dict.get") [.ref a, u, r]) Q E s := by
  have hs := (Inv.dic I hd).1
  rcases ok with ⟨ok, kv, dp, b, rfl⟩ | ⟨ok, i, rfl, rfl⟩
  · cases (show u = Value.ref b from ry)
    obtain ⟨ys, dd, rel⟩ := toH I hd ok
    exact call_meetsIn PySem.F.slot_dict_get dd.typeIs PySem.F.entry_dict_get (PySem.F.args_dict_get_3 _ _ _) (meetsH_dict_get_default (nestedKind X.prog X.w) a b hs r) ⟨room_n hu, k, ys, ⟨KeyV.is I kv rfl, dp⟩, dd, h _ _ (I.tok _) ((EH.val rel k).getD rd)⟩
  · obtain ⟨ys, dd, rel⟩ := toI' I hd ok
    exact call_meetsIn PySem.F.slot_dict_get dd.typeIs PySem.F.entry_dict_get (PySem.F.args_dict_get_3 _ _ _) (meets_dict_get_default (PySem.intKind X.prog X.w) a (isInt_of ry) hs r) ⟨_, dd.mapOf, h _ _ (I.tok _) ((EI.val rel i).getD rd)⟩
theorem mutD : Mut (some (DicT a es ep)) := True.intro
theorem hash_put (ok : ∀ e ∈ es, ∀ w w', e.1.hash w = e.1.hash w') (hk : ∀ w w', k.hash w = k.hash w') : ∀ e ∈ putE es k y v, ∀ w w', e.1.hash w = e.1.hash w' := by
  intro e he
  unfold putE at he
  split at he
  · obtain ⟨e0, h0, rfl⟩ := List.mem_map.mp he
    unfold hitE
    split
    · exact ok e0 h0
    · exact ok e0 h0
  · rcases List.mem_append.mp he with h | h
    · exact ok e h
    · rw [List.mem_singleton.mp h]; exact hk
/-- d[y] = v -/
theorem dic_setItem {Q : Unit → Shared → Prop} (hu : A.units + 9 < cLine) (I : Inv X pins σ H s) (hd : H a = some (DicT a es ep)) (ok : EOk X.K H es y k) (hl : es.length < sizeLine) (ry : RelV y u) (rv : RelV v r)
    (h : ∀ ep' s', Inv X pins σ (upd H a (DicT a (putE es k y v) ep')) s' → Q () s') : wpAny (model X.prog X.w) A (setItem (.ref a) u r) Q E s := by
  obtain ⟨hs, hz, _⟩ := Inv.dic I hd
  have hz2 : (putE es k y v).length ≤ sizeLine := Nat.le_trans (putE_len es k y v) hl
  rcases ok with ⟨ok, kv, dp, b, rfl⟩ | ⟨ok, i, rfl, rfl⟩
  · cases (show u = Value.ref b from ry)
    obtain ⟨ys, dd, rel⟩ := toH I hd ok
    have hz1 : ys.length ≤ sizeLine := by rw [← Paired.length rel]; exact hz
    refine wpAny_setItem_heap (hsz := hz1) (room_n hu) ⟨KeyV.is I kv rfl, dp⟩ dd fun h' dd' hsb => ?_
    obtain ⟨ep', ok'⟩ := fromH (H' := upd H a (DicT a (putE es k (.ref b) v) 0)) hs hz2 (hash_put (fun e he => (ok e he).1.hash) kv.hash) dd' (EH.put rel k b rv)
    obtain ⟨q, _, _, hq, _⟩ := dd'
    exact h ep' _ (d_write I (by rw [hd]; exact mutD) hsb ⟨q, hq⟩ ok')
  · obtain ⟨ys, dd, rel⟩ := toI' I hd ok
    have hz1 : ys.length ≤ sizeLine := by rw [← Paired.length rel]; exact hz
    refine wpAny_setItem_pairs (hsz := hz1) (isInt_of ry) dd fun h' dd' hsb => ?_
    obtain ⟨ep', ok'⟩ := fromI (H' := upd H a (DicT a (putE es (.num i) (.int i) v) 0)) hs hz2 dd' (EI.put rel i rv)
    obtain ⟨q, _, _, hq, _⟩ := dd'
    exact h ep' _ (d_write I (by rw [hd]; exact mutD) hsb ⟨q, hq⟩ ok')
theorem dic_typeIs (I : Inv X pins σ H s) (hd : H a = some (DicT a es ep)) : s.TypeIs (.ref a) "dict" := by
  obtain ⟨_, _, _, o, xs, hg, hx, _⟩ := Inv.dic I hd
  exact ⟨o, hg, hx.1⟩
end
end J

namespace J
open PySem PySem.Spec PyProof.Rows L2

/-! ## reading data -/
def lstOf (S : Sto) : D → Option (List D)
  | .new xs => some xs
  | .ref n => match S[n]? with
    | some (.lst xs) => some xs
    | _ => none
  | _ => none
def seqOf (S : Sto) : D → Option (List D)
  | .tup xs => some xs
  | .scr xs => some xs
  | d => lstOf S d
@[simp] theorem lstOf_new (S : Sto) (xs : List D) : lstOf S (.new xs) = some xs := Eq.trans rfl rfl
@[simp] theorem seqOf_new (S : Sto) (xs : List D) : seqOf S (.new xs) = some xs := Eq.trans rfl rfl
@[simp] theorem seqOf_tup (S : Sto) (xs : List D) : seqOf S (.tup xs) = some xs := Eq.trans rfl rfl
@[simp] theorem seqOf_scr (S : Sto) (xs : List D) : seqOf S (.scr xs) = some xs := Eq.trans rfl rfl
theorem lstOf_ref {S : Sto} {n : Nat} {xs : List D} (h : S[n]? = some (.lst xs)) : lstOf S (.ref n) = some xs := by simp [lstOf, h]
section
variable {K : PySem.W.Frag} {H : Hp} {ρ : Rg} {S : Sto} {d : D} {v : V} {xs : List D}
theorem lst_rep (s : Sim K ρ S H) (r : RepV K H ρ d v) (e : lstOf S d = some xs) : ∃ a vs, v = .ref a ∧ H a = some (.lst vs) ∧ RepVs K H ρ xs vs := by
  cases d with
  | new ys =>
    simp only [lstOf_new, Option.some.injEq] at e; subst e
    unfold RepV at r
    obtain ⟨a, vs, rfl, q, rs⟩ := r
    exact ⟨a, vs, rfl, q.2, rs⟩
  | ref n =>
    unfold RepV at r
    obtain ⟨a, rfl, q, _⟩ := r
    cases q2 : S[n]? with
    | none => simp [lstOf, q2] at e
    | some o =>
      cases o with
      | dic _ _ => simp [lstOf, q2] at e
      | fdic _ _ => simp [lstOf, q2] at e
      | obj _ _ => simp [lstOf, q2] at e
      | lst ys =>
        simp only [lstOf, q2, Option.some.injEq] at e; subst e
        obtain ⟨vs, h1, h2⟩ := s.lst q q2
        exact ⟨a, vs, rfl, h1, h2⟩
  | non => cases e
  | bl _ => cases e
  | int _ => cases e
  | str _ => cases e
  | tup _ => cases e
  | scr _ => cases e
  | exn _ => cases e
  | dic _ _ => cases e
  | rdc _ => cases e
  | obj _ => cases e
  | ktp _ => cases e
theorem seq_rep (s : Sim K ρ S H) (r : RepV K H ρ d v) (e : seqOf S d = some xs) : ∃ a vs, v = .ref a ∧ (SqL K H a vs ∨ SqT K H a vs) ∧ RepVs K H ρ xs vs := by
  cases d with
  | tup ys =>
    simp only [seqOf_tup, Option.some.injEq] at e; subst e
    unfold RepV at r
    obtain ⟨a, vs, rfl, q, rs⟩ := r
    exact ⟨a, vs, rfl, .inr q, rs⟩
  | scr ys =>
    simp only [seqOf_scr, Option.some.injEq] at e; subst e
    unfold RepV at r
    obtain ⟨a, vs, rfl, q, rs⟩ := r
    exact ⟨a, vs, rfl, .inl q.sq, rs⟩
  | new ys =>
    obtain ⟨a, vs, h1, h2, h3⟩ := lst_rep s r (show lstOf S (.new ys) = some xs from e)
    exact ⟨a, vs, h1, .inl (.inl (.inl h2)), h3⟩
  | ref n =>
    obtain ⟨a, vs, h1, h2, h3⟩ := lst_rep s r (show lstOf S (.ref n) = some xs from e)
    exact ⟨a, vs, h1, .inl (.inl (.inl h2)), h3⟩
  | non => cases e
  | bl _ => cases e
  | int _ => cases e
  | str _ => cases e
  | exn _ => cases e
  | dic _ _ => cases e
  | rdc _ => cases e
  | obj _ => cases e
  | ktp _ => cases e
end

/-! ## == at any depth -/
mutual
def D.eqv : D → D → Bool
  | .non, .non => true
  | .bl a, .bl b => a == b
  | .bl a, .int j => (if a then 1 else 0) == j
  | .int i, .bl b => i == (if b then 1 else 0)
  | .int i, .int j => i == j
  | .str x, .str y => x == y
  | .tup xs, .tup ys => D.eqvs xs ys
  | .new xs, .new ys => D.eqvs xs ys
  | .new xs, .scr ys => D.eqvs xs ys
  | .scr xs, .new ys => D.eqvs xs ys
  | .scr xs, .scr ys => D.eqvs xs ys
  | _, _ => false
def D.eqvs : List D → List D → Bool
  | [], [] => true
  | x :: xs, y :: ys => D.eqv x y && D.eqvs xs ys
  | _, _ => false
end
mutual
def D.dep : D → Nat
  | .tup xs => D.deps xs + 1
  | .new xs => D.deps xs + 1
  | .scr xs => D.deps xs + 1
  | .ref _ => 100
  | .exn _ => 100
  | .dic _ _ => 100
  | .rdc _ => 100
  | .obj _ => 100
  | .ktp _ => 100
  | .str x => if PyData.strOk x = true then 0 else 100
  | _ => 0
def D.deps : List D → Nat
  | [] => 0
  | x :: xs => max (D.dep x) (D.deps xs)
end
mutual
def D.py : D → PyData
  | .non => .none
  | .bl b => .bool b
  | .int i => .int i
  | .str x => .str x
  | .tup xs => .tuple (D.pys xs)
  | .new xs => .list (D.pys xs)
  | .scr xs => .list (D.pys xs)
  | .ref _ => .none
  | .exn _ => .none
  | .dic _ _ => .none
  | .rdc _ => .none
  | .obj _ => .none
  | .ktp _ => .none
def D.pys : List D → List PyData
  | [] => []
  | x :: xs => D.py x :: D.pys xs
end
def derf (S : Sto) : D → D
  | .ref n => match S[n]? with
    | some (.lst xs) => .new xs
    | _ => .ref n
  | d => d
mutual
theorem py_eqv : ∀ (a b : D), a.dep < 100 → b.dep < 100 → PyData.eqv a.py b.py = D.eqv a b
  | .non, b, _, hb => by cases b <;> simp [D.py, D.eqv, PyData.eqv] <;> simp [D.dep] at hb
  | .bl x, b, _, hb => by cases b <;> simp [D.py, D.eqv, PyData.eqv]
  | .int x, b, _, hb => by cases b <;> simp [D.py, D.eqv, PyData.eqv]
  | .str x, b, _, hb => by cases b <;> simp [D.py, D.eqv, PyData.eqv]
  | .ref n, b, ha, _ => by simp [D.dep] at ha
  | .exn n, b, ha, _ => by simp [D.dep] at ha
  | .dic _ _, b, ha, _ => by simp [D.dep] at ha
  | .rdc _, b, ha, _ => by simp [D.dep] at ha
  | .obj _, b, ha, _ => by simp [D.dep] at ha
  | .ktp _, b, ha, _ => by simp [D.dep] at ha
  | .tup xs, b, ha, hb => by
    cases b with
    | tup ys =>
      simp only [D.py, D.eqv, PyData.eqv]
      exact pys_eqv xs ys (by simp [D.dep] at ha; omega) (by simp [D.dep] at hb; omega)
    | ref n => simp [D.dep] at hb
    | exn n => simp [D.dep] at hb
    | dic _ _ => simp [D.dep] at hb
    | rdc _ => simp [D.dep] at hb
    | obj _ => simp [D.dep] at hb
    | ktp _ => simp [D.dep] at hb
    | _ => simp [D.py, D.eqv, PyData.eqv]
  | .new xs, b, ha, hb => by
    cases b with
    | new ys =>
      simp only [D.py, D.eqv, PyData.eqv]
      exact pys_eqv xs ys (by simp [D.dep] at ha; omega) (by simp [D.dep] at hb; omega)
    | scr ys =>
      simp only [D.py, D.eqv, PyData.eqv]
      exact pys_eqv xs ys (by simp [D.dep] at ha; omega) (by simp [D.dep] at hb; omega)
    | ref n => simp [D.dep] at hb
    | exn n => simp [D.dep] at hb
    | dic _ _ => simp [D.dep] at hb
    | rdc _ => simp [D.dep] at hb
    | obj _ => simp [D.dep] at hb
    | ktp _ => simp [D.dep] at hb
    | _ => simp [D.py, D.eqv, PyData.eqv]
  | .scr xs, b, ha, hb => by
    cases b with
    | new ys =>
      simp only [D.py, D.eqv, PyData.eqv]
      exact pys_eqv xs ys (by simp [D.dep] at ha; omega) (by simp [D.dep] at hb; omega)
    | scr ys =>
      simp only [D.py, D.eqv, PyData.eqv]
      exact pys_eqv xs ys (by simp [D.dep] at ha; omega) (by simp [D.dep] at hb; omega)
    | ref n => simp [D.dep] at hb
    | exn n => simp [D.dep] at hb
    | dic _ _ => simp [D.dep] at hb
    | rdc _ => simp [D.dep] at hb
    | obj _ => simp [D.dep] at hb
    | ktp _ => simp [D.dep] at hb
    | _ => simp [D.py, D.eqv, PyData.eqv]
theorem pys_eqv : ∀ (xs ys : List D), D.deps xs < 100 → D.deps ys < 100 → PyData.eqvAll (D.pys xs) (D.pys ys) = D.eqvs xs ys
  | [], [], _, _ => by simp [D.pys, D.eqvs, PyData.eqvAll]
  | [], y :: ys, _, _ => by simp [D.pys, D.eqvs, PyData.eqvAll]
  | x :: xs, [], _, _ => by simp [D.pys, D.eqvs, PyData.eqvAll]
  | x :: xs, y :: ys, ha, hb => by
    simp only [D.pys, D.eqvs, PyData.eqvAll]
    simp only [D.deps] at ha hb
    rw [py_eqv x y (by omega) (by omega), pys_eqv xs ys (by omega) (by omega)]
end
mutual
theorem py_shape : ∀ (a : D), a.dep < 100 → a.py.canLay0 = true ∧ a.py.depth = a.dep
  | .non, _ => by simp [D.py, D.dep, PyData.canLay0, PyData.depth]
  | .bl x, _ => by simp [D.py, D.dep, PyData.canLay0, PyData.depth]
  | .int x, _ => by simp [D.py, D.dep, PyData.canLay0, PyData.depth]
  | .str x, h => by
    by_cases q : PyData.strOk x = true
    · simp [D.py, D.dep, PyData.canLay0, PyData.depth, q]
    · simp [D.dep, q] at h
  | .ref n, ha => by simp [D.dep] at ha
  | .exn n, ha => by simp [D.dep] at ha
  | .dic _ _, ha => by simp [D.dep] at ha
  | .rdc _, ha => by simp [D.dep] at ha
  | .obj _, ha => by simp [D.dep] at ha
  | .ktp _, ha => by simp [D.dep] at ha
  | .tup xs, ha => by
    have h := pys_shape xs (by simp [D.dep] at ha; omega)
    simp [D.py, D.dep, PyData.canLay0, PyData.depth, h.1, h.2]
  | .new xs, ha => by
    have h := pys_shape xs (by simp [D.dep] at ha; omega)
    simp [D.py, D.dep, PyData.canLay0, PyData.depth, h.1, h.2]
  | .scr xs, ha => by
    have h := pys_shape xs (by simp [D.dep] at ha; omega)
    simp [D.py, D.dep, PyData.canLay0, PyData.depth, h.1, h.2]
theorem pys_shape : ∀ (xs : List D), D.deps xs < 100 → PyData.canLayAll0 (D.pys xs) = true ∧ PyData.depthAll (D.pys xs) = D.deps xs
  | [], _ => by simp [D.pys, D.deps, PyData.canLayAll0, PyData.depthAll]
  | x :: xs, ha => by
    simp only [D.deps] at ha
    have h1 := py_shape x (by omega)
    have h2 := pys_shape xs (by omega)
    simp [D.pys, D.deps, PyData.canLayAll0, PyData.depthAll, h1.1, h1.2, h2.1, h2.2]
end
theorem py_shaped {a : D} (h : a.dep ≤ 64) : SeqAt.shaped a.py = true := by
  have q := py_shape a (by omega)
  unfold SeqAt.shaped
  rw [q.1, q.2]
  simp [h]
section
variable {K : PySem.W.Frag} {H : Hp} {ρ : Rg} {S : Sto}
mutual
theorem dp_of : ∀ (d : D) (v : V), d.dep < 100 → RepV K H ρ d v → Dp K H v d.py
  | .non, v, _, r => by unfold RepV at r; subst r; simp only [D.py]; exact .non
  | .bl b, v, _, r => by unfold RepV at r; subst r; simp only [D.py]; exact .bl b
  | .int i, v, _, r => by unfold RepV at r; subst r; simp only [D.py]; exact .int i
  | .str x, v, _, r => by unfold RepV at r; subst r; simp only [D.py]; exact .str x
  | .ref n, v, h, _ => by simp [D.dep] at h
  | .exn n, v, h, _ => by simp [D.dep] at h
  | .dic _ _, v, h, _ => by simp [D.dep] at h
  | .rdc _, v, h, _ => by simp [D.dep] at h
  | .obj _, v, h, _ => by simp [D.dep] at h
  | .ktp _, v, h, _ => by simp [D.dep] at h
  | .tup xs, v, h, r => by
    unfold RepV at r
    obtain ⟨a, vs, rfl, q, rs⟩ := r
    simp only [D.py]
    exact .tup q (dps_of xs vs (by simp [D.dep] at h; omega) rs)
  | .new xs, v, h, r => by
    unfold RepV at r
    obtain ⟨a, vs, rfl, q, rs⟩ := r
    simp only [D.py]
    exact .lst q.sq (dps_of xs vs (by simp [D.dep] at h; omega) rs)
  | .scr xs, v, h, r => by
    unfold RepV at r
    obtain ⟨a, vs, rfl, q, rs⟩ := r
    simp only [D.py]
    exact .lst q.sq (dps_of xs vs (by simp [D.dep] at h; omega) rs)
theorem dps_of : ∀ (ds : List D) (vs : List V), D.deps ds < 100 → RepVs K H ρ ds vs → DpAll K H vs (D.pys ds)
  | [], vs, _, r => by unfold RepVs at r; subst r; simp only [D.pys]; exact .nil
  | d :: ds, vs, h, r => by
    unfold RepVs at r
    obtain ⟨v, rr, rfl, q, t⟩ := r
    simp only [D.deps] at h
    simp only [D.pys]
    exact .cons (dp_of d v (by omega) q) (dps_of ds rr (by omega) t)
end
/-- a value of the store, or one that nobody changes, reads as data -/
theorem dp_derf (s : Sim K ρ S H) {d : D} {v : V} (r : RepV K H ρ d v) (h : (derf S d).dep < 100) : Dp K H v (derf S d).py := by
  cases d with
  | ref n =>
    cases q : S[n]? with
    | none => simp [derf, q, D.dep] at h
    | some o =>
      cases o with
      | dic _ _ => simp [derf, q, D.dep] at h
      | fdic _ _ => simp [derf, q, D.dep] at h
      | obj _ _ => simp [derf, q, D.dep] at h
      | lst xs =>
        simp only [derf, q] at h ⊢
        obtain ⟨a, vs, rfl, h1, h2⟩ := lst_rep (xs := xs) s r (by simp [lstOf, q])
        simp only [D.py]
        exact .lst (.inl (.inl h1)) (dps_of xs vs (by simp [D.dep] at h; omega) h2)
  | _ => exact dp_of _ v h r
end
def gEq (a b : D) (S : Sto) : R D := if (derf S a).dep ≤ 64 ∧ (derf S b).dep ≤ 64 then .ok (.bl (D.eqv (derf S a) (derf S b))) S else .bad
def gNe (a b : D) (S : Sto) : R D := if (derf S a).dep ≤ 64 ∧ (derf S b).dep ≤ 64 then .ok (.bl (!D.eqv (derf S a) (derf S b))) S else .bad
section
variable {K : PySem.W.Frag} {mg : Str → Option Value}
theorem o_eq : Op2 K mg (rEqD K) gEq := by
  intro H ρ S a b x y w Q s ra rb c
  unfold gEq at c
  split at c
  · rename_i h
    refine ⟨_, _, dp_derf s ra (by omega), dp_derf s rb (by omega), py_shaped h.1, py_shaped h.2, ?_⟩
    rw [py_eqv _ _ (by omega) (by omega)]
    exact c.ret s (by unfold RepV; rfl)
  · exact c.elim
theorem o_ne : Op2 K mg (rNeD K) gNe := by
  intro H ρ S a b x y w Q s ra rb c
  unfold gNe at c
  split at c
  · rename_i h
    refine ⟨_, _, dp_derf s ra (by omega), dp_derf s rb (by omega), py_shaped h.1, py_shaped h.2, ?_⟩
    rw [py_eqv _ _ (by omega) (by omega)]
    exact c.ret s (by unfold RepV; rfl)
  · exact c.elim
end

/-! ## numbers -/
def int2 (a b : D) (f : Int → Int → R D) : R D := match a, b with
  | .int i, .int j => f i j
  | _, _ => .bad
@[simp] theorem int2_int (i j : Int) (f : Int → Int → R D) : int2 (.int i) (.int j) f = f i j := Eq.trans rfl rfl
theorem int2_rep {K : PySem.W.Frag} {mg : Str → Option Value} {H : Hp} {ρ : Rg} {a b : D} {x y : V} {w : XW} {Q : VK} {f : Int → Int → R D} (ra : RepV K H ρ a x) (rb : RepV K H ρ b y) (c : Post K mg (RepV K) w ρ H (int2 a b f) Q) :
    ∃ i j, x = .int i ∧ y = .int j ∧ Post K mg (RepV K) w ρ H (f i j) Q := by
  cases a with
  | int i =>
    cases b with
    | int j => unfold RepV at ra rb; exact ⟨i, j, ra, rb, c⟩
    | _ => exact c.elim
  | _ => exact c.elim
def gSub (a b : D) (S : Sto) : R D := int2 a b fun i j => .ok (.int (i - j)) S
def gLt (a b : D) (S : Sto) : R D := int2 a b fun i j => .ok (.bl (decide (i < j))) S
def gLe (a b : D) (S : Sto) : R D := int2 a b fun i j => .ok (.bl (decide (i ≤ j))) S
def gGt (a b : D) (S : Sto) : R D := int2 a b fun i j => .ok (.bl (decide (j < i))) S
def gGe (a b : D) (S : Sto) : R D := int2 a b fun i j => .ok (.bl (decide (j ≤ i))) S
def gMod (a b : D) (S : Sto) : R D := int2 a b fun i j => if 0 < j then .ok (.int (i % j)) S else .bad
def gDiv (a b : D) (S : Sto) : R D := int2 a b fun i j => if 0 < j ∧ j < 1073741824 then .ok (.int (i / j)) S else .bad
def gPow (a b : D) (S : Sto) : R D := int2 a b fun i j => if 0 ≤ j ∧ j ≤ 1000000 ∧ i.natAbs < 2 ^ 64 then .ok (.int (i ^ j.toNat)) S else .bad
section
variable {K : PySem.W.Frag} {mg : Str → Option Value}
theorem o_sub : Op2 K mg (rI0 fun i j => .int (i - j)) gSub := fun H ρ S a b x y w Q s ra rb c =>
  let ⟨i, j, e1, e2, c⟩ := int2_rep ra rb c; ⟨i, j, e1, e2, c.ret s (by unfold RepV; rfl)⟩
theorem o_lt : Op2 K mg (rI0 fun i j => .bl (decide (i < j))) gLt := fun H ρ S a b x y w Q s ra rb c =>
  let ⟨i, j, e1, e2, c⟩ := int2_rep ra rb c; ⟨i, j, e1, e2, c.ret s (by unfold RepV; rfl)⟩
theorem o_le : Op2 K mg (rI0 fun i j => .bl (decide (i ≤ j))) gLe := fun H ρ S a b x y w Q s ra rb c =>
  let ⟨i, j, e1, e2, c⟩ := int2_rep ra rb c; ⟨i, j, e1, e2, c.ret s (by unfold RepV; rfl)⟩
theorem o_gt : Op2 K mg (rI0 fun i j => .bl (decide (j < i))) gGt := fun H ρ S a b x y w Q s ra rb c =>
  let ⟨i, j, e1, e2, c⟩ := int2_rep ra rb c; ⟨i, j, e1, e2, c.ret s (by unfold RepV; rfl)⟩
theorem o_ge : Op2 K mg (rI0 fun i j => .bl (decide (j ≤ i))) gGe := fun H ρ S a b x y w Q s ra rb c =>
  let ⟨i, j, e1, e2, c⟩ := int2_rep ra rb c; ⟨i, j, e1, e2, c.ret s (by unfold RepV; rfl)⟩
theorem o_mod : Op2 K mg (rI (fun _ j => 0 < j) fun i j => .int (i % j)) gMod := fun H ρ S a b x y w Q s ra rb c => by
  obtain ⟨i, j, e1, e2, c⟩ := int2_rep ra rb c
  split at c
  · rename_i h; exact ⟨i, j, e1, e2, h, c.ret s (by unfold RepV; rfl)⟩
  · exact c.elim
theorem o_div : Op2 K mg (rI CDiv fun i j => .int (i / j)) gDiv := fun H ρ S a b x y w Q s ra rb c => by
  obtain ⟨i, j, e1, e2, c⟩ := int2_rep ra rb c
  split at c
  · rename_i h; exact ⟨i, j, e1, e2, h, c.ret s (by unfold RepV; rfl)⟩
  · exact c.elim
theorem o_pow : Op2 K mg (rI CPow fun i j => .int (i ^ j.toNat)) gPow := fun H ρ S a b x y w Q s ra rb c => by
  obtain ⟨i, j, e1, e2, c⟩ := int2_rep ra rb c
  split at c
  · rename_i h; exact ⟨i, j, e1, e2, h, c.ret s (by unfold RepV; rfl)⟩
  · exact c.elim
end
def gNeg (a : D) (S : Sto) : R D := match a with | .int i => .ok (.int (-i)) S | _ => .bad
theorem o_neg {K : PySem.W.Frag} {mg : Str → Option Value} : Op1 K mg (rU fun i => .int (-i)) gNeg := fun H ρ S a x w Q s ra c => by
  cases a with
  | int i => unfold RepV at ra; exact ⟨i, ra, c.ret s (by unfold RepV; rfl)⟩
  | _ => exact c.elim

/-! ## + of numbers, texts, tuples, lists -/
def rAddA (K : PySem.W.Frag) : R2 := fun x y H Q => rI0 (fun i j => .int (i + j)) x y H Q ∨ (∃ i j, x = .str i ∧ y = .str j ∧ i.length + j.length ≤ sizeLine ∧ Q (.str (i ++ j)) H) ∨ rCatA K x y H Q ∨ rCat x y H Q
theorem op_addA {X : Cx} : OpR X (binaryOp .Add) (rAddA X.K) := op_add.or (op_add_str.or (op_catA.or op_cat))
def gAdd (a b : D) (S : Sto) : R D := match a, b with
  | .int i, .int j => .ok (.int (i + j)) S
  | .str x, .str y => if x.length + y.length ≤ sLim then .ok (.str (x ++ y)) S else .bad
  | .tup xs, .tup ys => if xs.length + ys.length ≤ sLim then .ok (.tup (xs ++ ys)) S else .bad
  | a, b => match lstOf S a, lstOf S b with
    | some xs, some ys => if xs.length + ys.length ≤ sLim then .ok (.new (xs ++ ys)) S else .bad
    | _, _ => .bad
theorem lst_cases {S : Sto} {a b : D} {f : List D → List D → R D} {K : PySem.W.Frag} {mg : Str → Option Value} {H : Hp} {ρ : Rg} {w : XW} {Q : VK} (c : Post K mg (RepV K) w ρ H (match lstOf S a, lstOf S b with
    | some xs, some ys => f xs ys
    | _, _ => .bad) Q) : ∃ xs ys, lstOf S a = some xs ∧ lstOf S b = some ys ∧ Post K mg (RepV K) w ρ H (f xs ys) Q := by
  cases h1 : lstOf S a with
  | none => rw [h1] at c; exact c.elim
  | some xs =>
    cases h2 : lstOf S b with
    | none => rw [h1, h2] at c; exact c.elim
    | some ys => rw [h1, h2] at c; exact ⟨xs, ys, rfl, rfl, c⟩
theorem o_add {K : PySem.W.Frag} {mg : Str → Option Value} : Op2 K mg (rAddA K) gAdd := fun H ρ S a b x y w Q s ra rb c => by
  unfold gAdd at c
  split at c
  · unfold RepV at ra rb
    exact .inl ⟨_, _, ra, rb, c.ret s (by unfold RepV; rfl)⟩
  · split at c
    · rename_i h
      unfold RepV at ra rb
      exact .inr (.inl ⟨_, _, ra, rb, h, c.ret s (by unfold RepV; rfl)⟩)
    · exact c.elim
  · rename_i xs ys
    split at c
    · rename_i h
      have ra0 := ra
      have rb0 := rb
      unfold RepV at ra rb
      obtain ⟨p, vs, rfl, q, r1⟩ := ra
      obtain ⟨p2, us, rfl, q2, r2⟩ := rb
      refine .inr (.inr (.inl ⟨p, p2, vs, us, rfl, rfl, q, q2, by rw [RepVs.length r1, RepVs.length r2]; exact h, fun e => ?_, fun _ e => ?_, fun _ _ n hn => ?_⟩))
      · subst e
        have : xs = [] := List.length_eq_zero_iff.mp (RepVs.length r1).symm
        subst this
        exact c.ret s rb0
      · subst e
        have : ys = [] := List.length_eq_zero_iff.mp (RepVs.length r2).symm
        subst this
        exact c.ret s (by rw [List.append_nil]; exact ra0)
      · exact c.retN s hn (by unfold RepV; exact ⟨n, _, rfl, .inl (.inl upd_same), RepVs.ext (Ext.new hn) _ _ (RepVs.append r1 r2)⟩)
    · exact c.elim
  · obtain ⟨xs, ys, e1, e2, c⟩ := lst_cases c
    split at c
    · rename_i h
      obtain ⟨p, vs, rfl, h1, r1⟩ := lst_rep s ra e1
      obtain ⟨p2, us, rfl, h2, r2⟩ := lst_rep s rb e2
      refine .inr (.inr (.inr ⟨p, p2, vs, us, rfl, rfl, h1, h2, by rw [RepVs.length r1, RepVs.length r2]; exact h, fun n hn => ?_⟩))
      exact c.retN s hn (by unfold RepV; exact ⟨n, _, rfl, ⟨s.notin hn, upd_same⟩, RepVs.ext (Ext.new hn) _ _ (RepVs.append r1 r2)⟩)
    · exact c.elim
end J

namespace J
open PySem PySem.Spec PyProof.Rows L2

/-! ## dicts as data -/
def dicOf (S : Sto) : D → Option (List D × List D)
  | .dic ks vs => some (ks, vs)
  | .rdc n => match S[n]? with
    | some (.dic ks vs) => some (ks, vs)
    | some (.fdic ks vs) => some (ks, vs)
    | _ => none
  | _ => none
@[simp] theorem dicOf_ref (S : Sto) (n : Nat) : dicOf S (.ref n) = none := Eq.trans rfl rfl
@[simp] theorem dicOf_tup (S : Sto) (xs : List D) : dicOf S (.tup xs) = none := Eq.trans rfl rfl
@[simp] theorem dicOf_new (S : Sto) (xs : List D) : dicOf S (.new xs) = none := Eq.trans rfl rfl
@[simp] theorem dicOf_scr (S : Sto) (xs : List D) : dicOf S (.scr xs) = none := Eq.trans rfl rfl
@[simp] theorem dicOf_str (S : Sto) (x : Str) : dicOf S (.str x) = none := Eq.trans rfl rfl
@[simp] theorem dicOf_int (S : Sto) (x : Int) : dicOf S (.int x) = none := Eq.trans rfl rfl
@[simp] theorem dicOf_non (S : Sto) : dicOf S .non = none := Eq.trans rfl rfl
@[simp] theorem dicOf_dic (S : Sto) (ks vs : List D) : dicOf S (.dic ks vs) = some (ks, vs) := Eq.trans rfl rfl
def D.isT : D → Bool
  | .tup _ => true
  | _ => false
def D.isI : D → Bool
  | .int _ => true
  | _ => false
/-- may be asked for -/
def kOk (ks : List D) (k : D) : Bool := (ks.all D.isT && D.isT k && decide (D.deps ks ≤ 8) && decide (k.dep ≤ 8) && k.nk.isSome) || (ks.all D.isI && D.isI k)
def dIx (ks : List D) (k : D) : Option Nat := ks.findIdx? fun x => decide (x.nk = k.nk)
def dGet (ks vs : List D) (k : D) : Option D := (dIx ks k).bind fun i => vs[i]?
def dKs (ks : List D) (k : D) : List D := match dIx ks k with | some _ => ks | none => ks ++ [k]
def dVs (ks vs : List D) (k v : D) : List D := match dIx ks k with | some i => vs.set i v | none => vs ++ [v]
def onKey {α : Type} (S : Sto) (d k : D) (f : List D → List D → R α) : R α := match dicOf S d with
  | some (ks, vs) => if kOk ks k = true then f ks vs else .bad
  | none => .bad
mutual
theorem nk_depth : ∀ (d : D) (k : NestedKey), d.nk = some k → k.depth ≤ d.dep
  | .non, k, e => by simp only [D.nk, Option.some.injEq] at e; subst e; simp [NestedKey.depth]
  | .bl _, k, e => by simp only [D.nk, Option.some.injEq] at e; subst e; simp [NestedKey.depth]
  | .int _, k, e => by simp only [D.nk, Option.some.injEq] at e; subst e; simp [NestedKey.depth]
  | .tup xs, k, e => by
    simp only [D.nk, Option.map_eq_some_iff] at e
    obtain ⟨ks, e1, rfl⟩ := e
    have := nks_depth xs ks e1
    simp only [NestedKey.depth, D.dep]
    omega
  | .str _, k, e => by simp [D.nk] at e
  | .new _, k, e => by simp [D.nk] at e
  | .scr _, k, e => by simp [D.nk] at e
  | .ref _, k, e => by simp [D.nk] at e
  | .exn _, k, e => by simp [D.nk] at e
  | .dic _ _, k, e => by simp [D.nk] at e
  | .rdc _, k, e => by simp [D.nk] at e
  | .obj _, k, e => by simp [D.nk] at e
  | .ktp _, k, e => by simp [D.nk] at e
theorem nks_depth : ∀ (xs : List D) (ks : List NestedKey), D.nks xs = some ks → NestedKey.depthAll ks ≤ D.deps xs
  | [], ks, e => by simp only [D.nks, Option.some.injEq] at e; subst e; simp [NestedKey.depthAll]
  | x :: xs, ks, e => by
    obtain ⟨a, b, h1, h2, rfl⟩ := nks_cons e
    have := nk_depth x a h1
    have := nks_depth xs b h2
    simp only [NestedKey.depthAll, D.deps]
    omega
end
theorem nks_snoc {k : D} {nk : NestedKey} (h : k.nk = some nk) : ∀ {ks : List D} {ns : List NestedKey}, D.nks ks = some ns → D.nks (ks ++ [k]) = some (ns ++ [nk])
  | [], ns, e => by simp only [D.nks, Option.some.injEq] at e; subst e; simp [D.nks, h]
  | x :: xs, ns, e => by
    obtain ⟨a, b, h1, h2, rfl⟩ := nks_cons e
    have := nks_snoc h h2
    simp only [List.cons_append, D.nks, h1, this]
section
variable {K : PySem.W.Frag} {mg : Str → Option Value} {H : Hp} {ρ : Rg} {S : Sto} {d k : D} {v y : V} {ks vs : List D} {es : List Ent} {nk : NestedKey}
theorem dic_rep (s : Sim K ρ S H) (r : RepV K H ρ d v) (e : dicOf S d = some (ks, vs)) : ∃ a es ep, v = .ref a ∧ H a = some (DicT a es ep) ∧ RepD K H ρ ks vs es := by
  cases d with
  | dic ks' vs' =>
    simp only [dicOf_dic, Option.some.injEq, Prod.mk.injEq] at e
    obtain ⟨rfl, rfl⟩ := e
    unfold RepV at r
    obtain ⟨a, es, ep, rfl, ⟨_, q⟩, h⟩ := r
    exact ⟨a, es, ep, rfl, q, h⟩
  | rdc n =>
    unfold RepV at r
    obtain ⟨a, rfl, q, _⟩ := r
    cases eo : S[n]? with
    | none => simp [dicOf, eo] at e
    | some o =>
      cases o with
      | lst _ => simp [dicOf, eo] at e
      | dic ks' vs' =>
        simp only [dicOf, eo, Option.some.injEq, Prod.mk.injEq] at e
        obtain ⟨rfl, rfl⟩ := e
        obtain ⟨es, ep, h, rd, _⟩ := s.at_ n a _ q eo
        exact ⟨a, es, ep, rfl, h, rd⟩
      | fdic ks' vs' =>
        simp only [dicOf, eo, Option.some.injEq, Prod.mk.injEq] at e
        obtain ⟨rfl, rfl⟩ := e
        obtain ⟨es, ep, h, rd, _⟩ := s.at_ n a _ q eo
        exact ⟨a, es, ep, rfl, h, rd⟩
      | obj _ _ => simp [dicOf, eo] at e
  | obj _ => simp [dicOf] at e
  | ktp _ => simp [dicOf] at e
  | non => simp [dicOf] at e
  | bl _ => simp [dicOf] at e
  | int _ => simp [dicOf] at e
  | str _ => simp [dicOf] at e
  | tup _ => simp [dicOf] at e
  | new _ => simp [dicOf] at e
  | scr _ => simp [dicOf] at e
  | exn _ => simp [dicOf] at e
  | ref _ => simp [dicOf] at e
/-- keys with their entries -/
theorem nks_mem : ∀ {ks : List D} {es : List Ent}, D.nks ks = some (es.map (·.1)) → RepVs K H ρ ks (es.map (·.2.1)) → ∀ e ∈ es, ∃ x ∈ ks, x.nk = some e.1 ∧ RepV K H ρ x e.2.1
  | [], es, h, _, e, he => by
    simp only [D.nks, Option.some.injEq] at h
    cases es with
    | nil => cases he
    | cons _ _ => simp at h
  | x :: xs, es, h, r, e, he => by
    obtain ⟨a, b, h1, h2, h3⟩ := nks_cons h
    cases es with
    | nil => cases he
    | cons e0 es =>
      simp only [List.map_cons, List.cons.injEq] at h3
      rw [List.map_cons] at r
      unfold RepVs at r
      obtain ⟨v0, rr, e1, q, t⟩ := r
      simp only [List.cons.injEq] at e1
      obtain ⟨rfl, rfl⟩ := e1
      rcases List.mem_cons.mp he with rfl | he
      · exact ⟨x, List.mem_cons_self, by rw [h1, h3.1], q⟩
      · obtain ⟨z, hz, p⟩ := nks_mem (by rw [h2, ← h3.2]) t e he
        exact ⟨z, List.mem_cons_of_mem _ hz, p⟩
theorem dep_mem : ∀ {ks : List D} {x : D}, x ∈ ks → x.dep ≤ D.deps ks
  | y :: ys, x, h => by
    rcases List.mem_cons.mp h with rfl | h
    · simp only [D.deps]; omega
    · have := dep_mem h; simp only [D.deps]; omega
theorem isT_of {d : D} {v : V} (h : d.isT = true) (r : RepV K H ρ d v) : ∃ b, v = .ref b := by
  cases d <;> simp [D.isT] at h
  unfold RepV at r
  obtain ⟨a, _, rfl, _⟩ := r
  exact ⟨a, rfl⟩
theorem isI_of {d : D} {v : V} {nk : NestedKey} (h : d.isI = true) (r : RepV K H ρ d v) (e : d.nk = some nk) : ∃ i, v = .int i ∧ nk = .num i := by
  cases d <;> simp [D.isI] at h
  unfold RepV at r
  simp only [D.nk, Option.some.injEq] at e
  exact ⟨_, r, e.symm⟩
theorem eok_of (rd : RepD K H ρ ks vs es) (ry : RepV K H ρ k y) (h : kOk ks k = true) : ∃ nk, k.nk = some nk ∧ EOk K H es y nk := by
  unfold kOk at h
  simp only [Bool.or_eq_true, Bool.and_eq_true, decide_eq_true_eq, List.all_eq_true] at h
  rcases h with ⟨⟨⟨⟨h1, h2⟩, h3⟩, h4⟩, h5⟩ | ⟨h1, h2⟩
  · obtain ⟨nk, e⟩ := Option.isSome_iff_exists.mp h5
    refine ⟨nk, e, .inl ⟨fun z hz => ?_, KeyV.of k y nk ry e, Nat.le_trans (nk_depth k nk e) h4, isT_of h2 ry⟩⟩
    obtain ⟨x, hx, e1, r1⟩ := nks_mem rd.1 rd.2.1 z hz
    exact ⟨KeyV.of x _ _ r1 e1, Nat.le_trans (nk_depth x _ e1) (Nat.le_trans (dep_mem hx) h3), isT_of (h1 x hx) r1⟩
  · have e : ∃ nk, k.nk = some nk := by cases k <;> simp [D.isI] at h2; exact ⟨_, rfl⟩
    obtain ⟨nk, e⟩ := e
    refine ⟨nk, e, .inr ⟨fun z hz => ?_, isI_of h2 ry e⟩⟩
    obtain ⟨x, hx, e1, r1⟩ := nks_mem rd.1 rd.2.1 z hz
    exact isI_of (h1 x hx) r1 e1
theorem dIx_val : ∀ {ks vs : List D} {es : List Ent}, k.nk = some nk → D.nks ks = some (es.map (·.1)) → RepVs K H ρ vs (es.map (·.2.2)) →
    match dIx ks k with | none => valE es nk = none | some i => ∃ v, (∀ d, vs[i]? = some d → RepV K H ρ d v) ∧ i < vs.length ∧ valE es nk = some v
  | [], vs, es, ek, h, r => by
    simp only [D.nks, Option.some.injEq] at h
    cases es with
    | nil => exact rfl
    | cons _ _ => simp at h
  | x :: xs, vs, es, ek, h, r => by
    obtain ⟨a, b, h1, h2, h3⟩ := nks_cons h
    cases es with
    | nil => simp at h3
    | cons e0 es =>
      simp only [List.map_cons, List.cons.injEq] at h3
      cases vs with
      | nil => unfold RepVs at r; simp at r
      | cons v0 vs =>
        rw [List.map_cons] at r
        unfold RepVs at r
        obtain ⟨u0, rr, e1, q, t⟩ := r
        simp only [List.cons.injEq] at e1
        obtain ⟨rfl, rfl⟩ := e1
        have ih := dIx_val (ks := xs) ek (by rw [h2, ← h3.2]) t
        unfold dIx at ih ⊢
        rw [List.findIdx?_cons]
        by_cases c : x.nk = k.nk
        · rw [decide_eq_true c]
          simp only [if_true]
          refine ⟨e0.2.2, fun d hd => ?_, by simp, valE_pos ?_⟩
          · simp at hd; subst hd; exact q
          · rw [h1, ek] at c
            rw [h3.1]; exact Option.some.inj c
        · rw [decide_eq_false c]
          simp only [Bool.false_eq_true, if_false]
          have cn : ¬ e0.1 = nk := fun z => c (by rw [h1, ek, ← h3.1, z])
          rw [valE_neg cn]
          cases f : xs.findIdx? (fun x => decide (x.nk = k.nk)) with
          | none => rw [f] at ih; exact ih
          | some i =>
            rw [f] at ih
            obtain ⟨v, h5, h6, h7⟩ := ih
            exact ⟨v, fun d hd => h5 d (by simpa using hd), by simp; omega, h7⟩
theorem dGet_some (rd : RepD K H ρ ks vs es) (ek : k.nk = some nk) (h : dGet ks vs k = some d) : ∃ v, valE es nk = some v ∧ RepV K H ρ d v := by
  have := dIx_val (k := k) ek rd.1 rd.2.2
  unfold dGet at h
  cases e : dIx ks k with
  | none => rw [e] at h; cases h
  | some i =>
    rw [e] at h this
    obtain ⟨v, h1, h2, h3⟩ := this
    exact ⟨v, h3, h1 d h⟩
theorem dGet_none (rd : RepD K H ρ ks vs es) (ek : k.nk = some nk) (h : dGet ks vs k = none) : valE es nk = none := by
  have := dIx_val (k := k) ek rd.1 rd.2.2
  unfold dGet at h
  cases e : dIx ks k with
  | none => rw [e] at this; exact this
  | some i =>
    rw [e] at h this
    obtain ⟨v, h1, h2, h3⟩ := this
    have : vs[i]? = none := h
    rw [List.getElem?_eq_none_iff] at this
    omega
theorem dIx_isSome (rd : RepD K H ρ ks vs es) (ek : k.nk = some nk) : (dIx ks k).isSome = (valE es nk).isSome := by
  have := dIx_val (k := k) ek rd.1 rd.2.2
  cases e : dIx ks k with
  | none => rw [e] at this; rw [this]; rfl
  | some i =>
    rw [e] at this
    obtain ⟨v, h1, h2, h3⟩ := this
    rw [h3]; rfl
theorem hit_none {nk : NestedKey} {v : V} : ∀ {es : List Ent}, (∀ e ∈ es, e.1 ≠ nk) → es.map (hitE nk v) = es
  | [], _ => rfl
  | e :: es, h => by
    rw [List.map_cons, hit_none fun x hx => h x (List.mem_cons_of_mem _ hx)]
    unfold hitE
    rw [if_neg (h e List.mem_cons_self)]
theorem hit_set {v : D} {vv : V} (ek : k.nk = some nk) (rv : RepV K H ρ v vv) : ∀ {ks vs : List D} {es : List Ent} {i : Nat}, (es.map (·.1)).Nodup → D.nks ks = some (es.map (·.1)) → RepVs K H ρ vs (es.map (·.2.2)) → dIx ks k = some i →
    RepVs K H ρ (vs.set i v) ((es.map (hitE nk vv)).map (·.2.2)) ∧ (es.map (hitE nk vv)).map (·.1) = es.map (·.1) ∧ (es.map (hitE nk vv)).map (·.2.1) = es.map (·.2.1)
  | [], vs, es, i, _, h, r, hi => by simp [dIx] at hi
  | x :: xs, vs, es, i, hn, h, r, hi => by
    obtain ⟨a, b, h1, h2, h3⟩ := nks_cons h
    cases es with
    | nil => simp at h3
    | cons e0 es =>
      simp only [List.map_cons, List.cons.injEq] at h3
      rw [List.map_cons, List.nodup_cons] at hn
      cases vs with
      | nil => unfold RepVs at r; simp at r
      | cons v0 vs =>
        rw [List.map_cons] at r
        unfold RepVs at r
        obtain ⟨u0, rr, e1, q, t⟩ := r
        simp only [List.cons.injEq] at e1
        obtain ⟨rfl, rfl⟩ := e1
        unfold dIx at hi
        rw [List.findIdx?_cons] at hi
        by_cases c : x.nk = k.nk
        · rw [decide_eq_true c] at hi
          simp only [if_true, Option.some.injEq] at hi
          subst hi
          have ce : e0.1 = nk := by rw [h1, ek] at c; rw [h3.1]; exact Option.some.inj c
          have hz : es.map (hitE nk vv) = es := hit_none fun z hz w => hn.1 (by rw [ce, ← w]; exact List.mem_map.mpr ⟨z, hz, rfl⟩)
          have h0 : hitE nk vv e0 = (e0.1, e0.2.1, vv) := by unfold hitE; rw [if_pos ce]
          rw [List.map_cons, hz, h0]
          exact ⟨RepVs.cons rv t, rfl, rfl⟩
        · rw [decide_eq_false c] at hi
          simp only [Bool.false_eq_true, if_false, Option.map_eq_some_iff] at hi
          obtain ⟨j, hj, rfl⟩ := hi
          have cn : ¬ e0.1 = nk := fun z => c (by rw [h1, ek, ← h3.1, z])
          obtain ⟨p1, p2, p3⟩ := hit_set ek rv (ks := xs) hn.2 (by rw [h2, ← h3.2]) t hj
          have h0 : hitE nk vv e0 = e0 := by unfold hitE; rw [if_neg cn]
          rw [List.map_cons, h0]
          simp only [List.map_cons, List.set_cons_succ]
          exact ⟨RepVs.cons q p1, by rw [p2], by rw [p3]⟩
theorem put_rep {v : D} {vv : V} (hn : (es.map (·.1)).Nodup) (rd : RepD K H ρ ks vs es) (ek : k.nk = some nk) (ry : RepV K H ρ k y) (rv : RepV K H ρ v vv) : RepD K H ρ (dKs ks k) (dVs ks vs k v) (putE es nk y vv) := by
  have q := dIx_isSome rd ek
  unfold dKs dVs putE
  cases e : dIx ks k with
  | none =>
    rw [e] at q
    rw [← q]
    simp only [Option.isSome_none, Bool.false_eq_true, if_false]
    refine ⟨by rw [List.map_append]; exact nks_snoc ek rd.1, ?_, ?_⟩
    · rw [List.map_append]; exact RepVs.append rd.2.1 (RepVs.cons ry RepVs.nil)
    · rw [List.map_append]; exact RepVs.append rd.2.2 (RepVs.cons rv RepVs.nil)
  | some i =>
    rw [e] at q
    rw [← q]
    simp only [Option.isSome_some, if_true]
    obtain ⟨p1, p2, p3⟩ := hit_set ek rv hn rd.1 rd.2.2 e
    exact ⟨by rw [p2]; exact rd.1, by rw [p3]; exact rd.2.1, p1⟩
theorem RepD.len (rd : RepD K H ρ ks vs es) : ks.length = es.length ∧ vs.length = es.length := by
  have h1 := RepVs.length rd.2.1
  have h2 := RepVs.length rd.2.2
  rw [List.length_map] at h1 h2
  exact ⟨h1.symm, h2.symm⟩
theorem onKey_rep {α β : Type} {rep : Hp → Rg → α → β → Prop} {f : List D → List D → R α} {w : XW} {Q : β → Hp → Prop} (s : Sim K ρ S H) (r : RepV K H ρ d v) (ry : RepV K H ρ k y) (c : Post K mg rep w ρ H (onKey S d k f) Q) :
    ∃ a es ep ks vs nk, v = .ref a ∧ H a = some (DicT a es ep) ∧ dicOf S d = some (ks, vs) ∧ RepD K H ρ ks vs es ∧ k.nk = some nk ∧ EOk K H es y nk ∧ kOk ks k = true ∧ Post K mg rep w ρ H (f ks vs) Q := by
  unfold onKey at c
  cases e : dicOf S d with
  | none => rw [e] at c; exact c.elim
  | some p =>
    obtain ⟨ks, vs⟩ := p
    rw [e] at c
    simp only at c
    by_cases hk : kOk ks k = true
    · rw [if_pos hk] at c
      obtain ⟨a, es, ep, rfl, h1, rd⟩ := dic_rep s r e
      obtain ⟨nk, e1, e2⟩ := eok_of rd ry hk
      exact ⟨a, es, ep, ks, vs, nk, rfl, h1, rfl, rd, e1, e2, hk, c⟩
    · rw [if_neg hk] at c; exact c.elim
end
/-! ## rules by values -/
section
variable {X : Cx}
def rIxD (K : PySem.W.Frag) : R2 := fun x y H Q => ∃ a es ep nk v, x = .ref a ∧ H a = some (DicT a es ep) ∧ EOk K H es y nk ∧ valE es nk = some v ∧ Q v H
theorem ix_dic (hu : X.A.units + 9 < cLine) : IxR X (rIxD X.K) := by
  intro value slice pins s σ H x y v u Q I rx ry h hs
  obtain ⟨a, es, ep, nk, v0, rfl, hd, ok, hv, q⟩ := h
  cases rx
  exact tail_any (dic_typeIs I hd) slot_dict_getitem.lookup (dic_getItem hu I hd ok hv ry fun w' s' I' rw' => ⟨v0, H, I', rw', q⟩) hs
theorem pget_dic (hu : X.A.units + 9 < cLine) : PGet X (rIxD X.K) := by
  intro pins s σ H x y v u Q I rx ry h
  obtain ⟨a, es, ep, nk, v0, rfl, hd, ok, hv, q⟩ := h
  cases rx
  exact dic_getItem hu I hd ok hv ry fun w' s' I' rw' => ⟨v0, H, I', rw', q⟩
def rSetD (K : PySem.W.Frag) : V → V → V → Hp → (Hp → Prop) → Prop := fun o i v H Q => ∃ a es ep nk, o = .ref a ∧ H a = some (DicT a es ep) ∧ EOk K H es i nk ∧ es.length < sizeLine ∧ ((es.map (·.1)).Nodup → ∀ ep', Q (upd H a (DicT a (putE es nk i v) ep')))
theorem set_dic (hu : X.A.units + 9 < cLine) : PSet X (rSetD X.K) := by
  intro pins s σ H o i v ov iv u Q I ro ri rv h
  obtain ⟨a, es, ep, nk, rfl, hd, ok, hl, q⟩ := h
  cases ro
  exact dic_setItem hu I hd ok hl ri rv fun ep' s' I' => ⟨_, I', q (Inv.dic I hd).2.2.1 ep'⟩
end
end J

namespace J
open PySem PySem.Spec PyProof.Rows L2
/-! ## sum, max, min, any of a tuple of whole numbers -/
section
variable {prog : Program} {w : World} {A : Around} {E : Value → Shared → Prop} {s : Shared} {l : Addr} {its : List Value} {ns : List Int} {xs : Array (Int × Tok)} {Q : Value → Shared → Prop}
theorem iter_tupA {items : Array Value} (hl : s.heap.IsTuple l items)
    (h : ∀ s₂ : Shared, s₂ = { s with heap := s.heap.push { cls := .type "tuple_iterator", data := .fields #[.ref l, .int 0 0] } } →
      (s₂.heap.IsTupleIter s.heap.objs.size l 0 ∧ s₂.heap.IsTuple l items) → (∀ b ∈ [s.heap.objs.size, l], b < s₂.heap.objs.size) → l ≠ s.heap.objs.size → Q (.ref s.heap.objs.size) s₂) :
    wpAny (model prog w) A (pyIter (.ref l)) Q E s := by
  have hlt : l < s.heap.objs.size := by obtain ⟨_, e, _⟩ := hl; exact Heap.lt_size e
  refine wpAny_pyIter_tuple hl (h _ rfl ⟨⟨_, Heap.get?_push_size _ rfl, rfl, rfl⟩, hl.push _⟩ (fun b hb => ?_) (Nat.ne_of_lt hlt))
  show b < (s.heap.push _).objs.size
  rw [Heap.size_push]
  rcases List.mem_cons.mp hb with rfl | hb
  · exact Nat.lt_succ_self _
  · obtain rfl := List.mem_singleton.mp hb
    exact Nat.lt_succ_of_lt hlt
theorem keptT {h h' : Heap} {o : Obj} (hk : ∀ b o', b ∉ [h.objs.size] → (h.push o).get? b = some o' → h'.get? b = some o') : ∀ b o', h.get? b = some o' → h'.get? b = some o' := fun b o' e =>
  hk b o' (fun hb => absurd (Heap.lt_size e) ((List.mem_singleton.mp hb) ▸ Nat.lt_irrefl _)) (Heap.get?_push_of_some _ e)
theorem max_intTup (hh : A.handled = none) (hl : s.heap.IsTuple l (intItems xs)) (hne : 0 < xs.size)
    (h : ∀ v h' tk, (intItems xs)[argBest (fun i j => decide (numAt xs i > numAt xs j)) (xs.size - 1)]? = some v → (∀ b o, s.heap.get? b = some o → h'.get? b = some o) → Q v { s with heap := h', toks := tk }) :
    wpAny (model prog w) A (call (.builtin "max") [.ref l]) Q E s := by
  refine call_max_walk (iter_tupA hl fun s₂ e st hfp hlI => ?_)
  subst e
  refine ⟨_, _, _, _, _, _, _, rfl, Walks.tuple (A := A.in1) hh _ l hlI (intItems xs), st, hfp, by simpa [intItems] using hne, CmpOf.ints_gt (numAt xs) (fun _ _ => intItems_at), fun v h' tk hP hk => ?_⟩
  exact h v h' tk (by simpa [intItems] using hP) (keptT hk)
theorem max_rawT (hh : A.handled = none) (hl : s.heap.IsTuple l its.toArray) (hi : IntsAre its ns) (hne : 0 < ns.length)
    (h : ∀ h' tk M t', (∀ b o, s.heap.get? b = some o → h'.get? b = some o) → M ∈ ns → (∀ a, a ∈ ns → a ≤ M) → Q (.int M t') { s with heap := h', toks := tk }) : wpAny (model prog w) A (call (.builtin "max") [.ref l]) Q E s := by
  obtain ⟨xs, e⟩ := hi.allInts.items
  have hn : numsOf (intItems xs).toList = ns := by rw [← e]; exact hi.numsOf
  rw [nums_intItems] at hn
  subst hn
  rw [e] at hl
  have hsz : 0 < xs.size := by simpa using hne
  refine max_intTup hh hl hsz fun v h' tk hv hk => ?_
  obtain ⟨t, rfl⟩ := intItems_at hv
  obtain ⟨h1, h2⟩ := argBest_gt (numAt xs) (xs.size - 1)
  refine h h' tk _ t hk ?_ fun a ha => ?_
  · rw [numAt_eq]; exact PySem.getD_mem (by rw [List.length_map, Array.length_toList]; omega)
  · obtain ⟨j, hj, rfl⟩ := mem_getD ha
    rw [List.length_map, Array.length_toList] at hj
    rw [← numAt_eq]; exact h2 j (by omega)
theorem sum_rawT (hh : A.handled = none) (hl : s.heap.IsTuple l its.toArray) (hi : IntsAre its ns)
    (h : ∀ h' tk t', (∀ b o, s.heap.get? b = some o → h'.get? b = some o) → Q (.int ns.sum t') { s with heap := h', toks := tk }) : wpAny (model prog w) A (call (.builtin "sum") [.ref l]) Q E s := by
  obtain ⟨xs, e⟩ := hi.allInts.items
  have hn : numsOf (intItems xs).toList = ns := by rw [← e]; exact hi.numsOf
  rw [nums_intItems] at hn
  rw [e] at hl
  refine PySem.W.ktm_sumG hh hl fun h' tk t' hk => ?_
  have := h h' tk t' hk
  rw [preSum_eq, List.take_of_length_le (by simp), hn]; exact this
theorem vals_int_get : ∀ {ns : List Int} {us : List Value} {i : Nat} {v : Value}, Vals (ns.map V.int) us → us[i]? = some v → ∃ t, v = .int (ns.getD i 0) t
  | [], _, i, v, h, e => by cases h; simp at e
  | n :: ns, _, 0, v, .cons r t, e => by
    simp at e; subst e
    obtain ⟨t, rfl⟩ := r
    exact ⟨t, by simp⟩
  | n :: ns, _, i + 1, v, .cons r t, e => by
    obtain ⟨t, h⟩ := vals_int_get (i := i) t (by simpa using e)
    exact ⟨t, by simpa using h⟩
theorem any_rangeI : ∀ ns : List Int, (List.range ns.length).any (fun i => ns.getD i 0 != 0) = ns.any (· != 0)
  | [] => rfl
  | b :: bs => by
    rw [List.length_cons, List.range_succ_eq_map, List.any_cons, List.any_map, List.any_cons, ← any_rangeI bs]
    all_goals rfl
theorem truth_ints (rv : Vals (ns.map V.int) its) : TruthOf prog w A (fun i v => its.toArray[i]? = some v) (fun i => ns.getD i 0 != 0) := fun i v s Q E hv hq => by
  obtain ⟨t, rfl⟩ := vals_int_get rv (by simpa using hv)
  exact PySem.P.truthy_int hq
end
section
variable {X : Cx}
def rSumT (K : PySem.W.Frag) : List V → Hp → VK → Prop := fun vs H Q => ∃ (a : Addr) (ns : List Int), vs = [V.ref a] ∧ SqT K H a (ns.map V.int) ∧ Q (.int ns.sum) H
def rMaxT (K : PySem.W.Frag) : List V → Hp → VK → Prop := fun vs H Q => ∃ (a : Addr) (ns : List Int), vs = [V.ref a] ∧ SqT K H a (ns.map V.int) ∧ 0 < ns.length ∧ ∀ m, m ∈ ns → (∀ y, y ∈ ns → y ≤ m) → Q (.int m) H
def rAnyT (K : PySem.W.Frag) : List V → Hp → VK → Prop := fun vs H Q => ∃ (a : Addr) (ns : List Int), vs = [V.ref a] ∧ SqT K H a (ns.map V.int) ∧ Q (.bl (ns.any (· != 0))) H
theorem cr_sumT (hc : X.calm = true) : CallR X (.builtin "sum") (rSumT X.K) := by
  intro pins s σ H vs us Q I r h
  obtain ⟨a, ns, rfl, hs, q⟩ := h
  obtain ⟨its, rv, hl, _⟩ := I.tuple hs
  rw [Vals.ref1 r]
  exact sum_rawT (I.ok.hd hc) hl rv.ints fun h' tk t' hk => ⟨.int _, H, I.kept hk, ⟨_, rfl⟩, q⟩
theorem cr_maxT (hc : X.calm = true) : CallR X (.builtin "max") (rMaxT X.K) := by
  intro pins s σ H vs us Q I r h
  obtain ⟨a, ns, rfl, hs, hne, q⟩ := h
  obtain ⟨its, rv, hl, _⟩ := I.tuple hs
  rw [Vals.ref1 r]
  exact max_rawT (I.ok.hd hc) hl rv.ints hne fun h' tk m t' hk h1 h2 => ⟨.int _, H, I.kept hk, ⟨_, rfl⟩, q m h1 h2⟩
theorem cr_anyT (hc : X.calm = true) : CallR X (.builtin "any") (rAnyT X.K) := by
  intro pins s σ H vs us Q I r h
  obtain ⟨a, ns, rfl, hs, q⟩ := h
  obtain ⟨its, rv, hl, _⟩ := I.tuple hs
  rw [Vals.ref1 r]
  refine call_any_walk (iter_tupA hl fun s₂ e2 st hfp hne => ?_)
  subst e2
  refine ⟨_, _, _, _, _, _, _, rfl, Walks.tuple (A := X.A.in1) (I.ok.hd hc) _ a hne its.toArray, st, truth_ints rv, fun h' tk hk => ?_⟩
  refine ⟨.bl _, H, I.kept (keptT hk), ?_, q⟩
  show Value.bool _ = Value.bool _
  rw [← any_rangeI, List.size_toArray, ← rv.length, List.length_map]
end
end J

namespace J
open PySem PySem.Spec PyProof.Rows L2

/-! ## a list of the store is changed -/
section
variable {K : PySem.W.Frag} {H : Hp} {ρ : Rg} {S : Sto} {n : Nat} {a : Addr} {ds : List D} {vs : List V}
theorem sqt_upd_nt {us : HO} (h : H a = some us) (hu : NTup us) {o : HO} {b : Addr} {xs : List V} (q : SqT K H b xs) : SqT K (upd H a o) b xs := by
  rcases q with q | q
  · have ne : b ≠ a := by
      rintro rfl
      rcases q with q | ⟨_, q⟩
      · rw [h] at q; exact hu.1 _ (Option.some.inj q)
      · rw [h] at q; exact hu.2 _ _ (Option.some.inj q)
    rcases q with q | ⟨ob, q⟩
    · exact .inl (.inl (by rw [upd_ne ne]; exact q))
    · exact .inl (.inr ⟨ob, by rw [upd_ne ne]; exact q⟩)
  · exact .inr q
/-- of the same kind -/
def Alk (a : Addr) (u o : HO) : Prop := (∃ us us', u = .lst us ∧ o = .lst us') ∨ ∃ es ep es' ep', u = DicT a es ep ∧ o = DicT a es' ep'
theorem Ext.setO (s : Sim K ρ S H) (q : ρ.st[n]? = some a) (hz : a ∉ ρ.fz) {u o : HO} (hu : H a = some u) (al : Alk a u o) : Ext K ρ H ρ (upd H a o) := by
  have ha : a ∈ ρ.st := List.mem_of_getElem? q
  obtain ⟨us, hu', nt⟩ := s.tracked ha
  refine ⟨⟨[], [], by simp, by simp, by simp⟩, fun b xs h => sqt_upd_nt hu' nt h, fun b ob h nb => ?_, fun b h => ?_, fun b us2 h => ?_, fun b es2 ep2 h => ?_⟩
  · have ne : b ≠ a := fun z => nb.elim (fun nb => nb (by rw [z]; exact ha)) fun nb => hz (by rw [← z]; exact nb)
    rw [upd_ne ne]; exact h
  · by_cases z : b = a
    · subst z; rw [upd_same]; simp
    · rw [upd_ne z]; exact h
  · by_cases z : b = a
    · subst z
      rw [h] at hu
      rcases al with ⟨us, us', e1, e2⟩ | ⟨es, ep, es', ep', e1, e2⟩
      · exact ⟨us', by rw [upd_same, e2]⟩
      · rw [e1] at hu; cases hu
    · exact ⟨us2, by rw [upd_ne z]; exact h⟩
  · by_cases z : b = a
    · subst z
      rw [h] at hu
      rcases al with ⟨us, us', e1, e2⟩ | ⟨es, ep, es', ep', e1, e2⟩
      · rw [e1] at hu; cases hu
      · exact ⟨es', ep', by rw [upd_same, e2]⟩
    · exact ⟨es2, ep2, by rw [upd_ne z]; exact h⟩
theorem Sim.setO {u u' : HO} {ob : O} (s : Sim K ρ S H) (q : ρ.st[n]? = some a) (hz : a ∉ ρ.fz) (hu : H a = some u') (al : Alk a u' u) (r : RepO K (upd H a u) ρ a ob) : Sim K ρ (S.set n ob) (upd H a u) := by
  have x : Ext K ρ H ρ (upd H a u) := Ext.setO s q hz hu al
  refine ⟨by simp [s.len], s.nd, fun i b o e1 e2 => ?_, fun b hb => ⟨x.trk b (s.hid b hb).1, (s.hid b hb).2⟩, fun b hb => ?_⟩
  · by_cases e : n = i
    · subst e
      have hn : n < S.length := by rw [← s.len]; exact (List.getElem?_eq_some_iff.mp q).1
      rw [List.getElem?_set_self hn] at e2
      cases e2
      rw [q] at e1; cases e1
      exact r
    · rw [List.getElem?_set_ne e] at e2
      refine RepO.ext x (s.at_ i b o e1 e2) (upd_ne fun z => ?_) id
      subst z
      obtain ⟨h1, h2⟩ := List.getElem?_eq_some_iff.mp e1
      obtain ⟨h3, h4⟩ := List.getElem?_eq_some_iff.mp q
      exact e ((List.getElem_inj s.nd).mp (h4.trans h2.symm))
  · obtain ⟨es, ep, h⟩ := s.fz b hb
    exact ⟨es, ep, by rw [upd_ne (fun z => hz (by rw [← z]; exact hb))]; exact h⟩
theorem Sim.nofz {us : List V} (s : Sim K ρ S H) (h : H a = some (.lst us)) : a ∉ ρ.fz := fun z => by
  obtain ⟨es, ep, e⟩ := s.fz a z
  rw [h] at e; cases e
theorem Ext.set (s : Sim K ρ S H) (q : ρ.st[n]? = some a) {us us' : List V} (h : H a = some (.lst us)) : Ext K ρ H ρ (upd H a (.lst us')) := Ext.setO s q (s.nofz h) h (.inl ⟨us, us', rfl, rfl⟩)
theorem Sim.set (s : Sim K ρ S H) (q : ρ.st[n]? = some a) {us : List V} (h : H a = some (.lst us)) (r : RepVs K H ρ ds vs) : Sim K ρ (S.set n (.lst ds)) (upd H a (.lst vs)) :=
  s.setO q (s.nofz h) h (.inl ⟨us, vs, rfl, rfl⟩) ⟨vs, upd_same, RepVs.ext (Ext.set s q h) _ _ r⟩
/-- a dict of the store is changed -/
theorem Ext.setD (s : Sim K ρ S H) (q : ρ.st[n]? = some a) (hz : a ∉ ρ.fz) {es es' : List Ent} {ep ep' : Nat} (h : H a = some (DicT a es ep)) : Ext K ρ H ρ (upd H a (DicT a es' ep')) := Ext.setO s q hz h (.inr ⟨es, ep, es', ep', rfl, rfl⟩)
theorem Sim.setD (s : Sim K ρ S H) (q : ρ.st[n]? = some a) (hz : a ∉ ρ.fz) {es es' : List Ent} {ep ep' : Nat} {ks ws : List D} (h : H a = some (DicT a es ep)) (r : RepD K H ρ ks ws es') : Sim K ρ (S.set n (.dic ks ws)) (upd H a (DicT a es' ep')) :=
  s.setO q hz h (.inr ⟨es, ep, es', ep', rfl, rfl⟩) ⟨es', ep', upd_same, r.ext (Ext.setD s q hz h), hz⟩
end

/-! ## * -/
def rMulA : R2 := fun x y H Q => rI CMul (fun i j => .int (i * j)) x y H Q ∨ rRep x y H Q
theorem op_mulA {X : Cx} : OpR X (binaryOp .Mult) rMulA := op_mul.or op_rep
def gMul (a b : D) (S : Sto) : R D := match a, b with
  | .int i, .int j => if (-(2 ^ 64) < i ∧ i < 2 ^ 64) ∨ (-(2 ^ 64) < j ∧ j < 2 ^ 64) then .ok (.int (i * j)) S else .bad
  | a, .int k => match lstOf S a with
    | some xs => if -(2 ^ 63) ≤ k ∧ k < 2 ^ 63 ∧ xs.length * k.toNat ≤ sLim then .ok (.new (List.replicate k.toNat xs).flatten) S else .bad
    | none => .bad
  | _, _ => .bad
theorem o_mul {K : PySem.W.Frag} {mg : Str → Option Value} : Op2 K mg rMulA gMul := fun H ρ S a b x y w Q s ra rb c => by
  unfold gMul at c
  split at c
  · split at c
    · rename_i h
      unfold RepV at ra rb
      exact .inl ⟨_, _, ra, rb, h, c.ret s (by unfold RepV; rfl)⟩
    · exact c.elim
  · rename_i k _
    cases e : lstOf S a with
    | none => rw [e] at c; exact c.elim
    | some xs =>
      rw [e] at c
      simp only at c
      split at c
      · rename_i h
        obtain ⟨p, vs, rfl, h1, r1⟩ := lst_rep s ra e
        unfold RepV at rb
        subst rb
        refine .inr ⟨p, k, vs, rfl, rfl, h1, h.1, h.2.1, by rw [RepVs.length r1]; exact h.2.2, fun n hn => ?_⟩
        exact c.retN s hn (by unfold RepV; exact ⟨n, _, rfl, ⟨s.notin hn, upd_same⟩, RepVs.ext (Ext.new hn) _ _ (RepVs.rep r1 _)⟩)
      · exact c.elim
  · exact c.elim

/-! ## a[i] -/
def gIxD (a b : D) (S : Sto) : R D := onKey S a b fun ks vs => match dGet ks vs b with
  | some d => .ok d S
  | none => .bad
def gIxS (a b : D) (S : Sto) : R D := match b with
  | .int i => match a with
    | .str z => if z.length ≤ sLim then match atI z.cps.toList i with
        | some c => .ok (.str ⟨#[c]⟩) S
        | none => .bad
      else .bad
    | a => match seqOf S a with
      | some xs => match atI xs i with
        | some d => .ok d S
        | none => .bad
      | none => .bad
  | _ => .bad
def gIx (a b : D) (S : Sto) : R D := match dicOf S a with
  | some _ => gIxD a b S
  | none => gIxS a b S
def rIxA (K : PySem.W.Frag) : R2 := fun x y H Q => rIx K x y H Q ∨ rIxD K x y H Q
theorem atI_rep {K : PySem.W.Frag} {H : Hp} {ρ : Rg} {xs : List D} {vs : List V} {i : Int} {d : D} (r : RepVs K H ρ xs vs) (h : atI xs i = some d) : ∃ v, atI vs i = some v ∧ RepV K H ρ d v := by
  unfold atI at h ⊢
  rw [RepVs.length r]
  cases q : ixN xs.length i with
  | none => rw [q] at h; cases h
  | some j =>
    rw [q] at h
    exact RepVs.get r h
theorem ix_of_seq {K : PySem.W.Frag} {mg : Str → Option Value} {H : Hp} {ρ : Rg} {S : Sto} {a : D} {x : V} {i : Int} {w : XW} {Q : VK} (s : Sim K ρ S H) (ra : RepV K H ρ a x)
    (c : Post K mg (RepV K) w ρ H (match seqOf S a with
      | some xs => match atI xs i with
        | some d => .ok d S
        | none => .bad
      | none => .bad) Q) : rIx K x (.int i) H Q := by
  cases e : seqOf S a with
  | none => rw [e] at c; exact c.elim
  | some xs =>
    rw [e] at c
    simp only at c
    cases e2 : atI xs i with
    | none => rw [e2] at c; exact c.elim
    | some d =>
      rw [e2] at c
      obtain ⟨p, vs, rfl, h1, r1⟩ := seq_rep s ra e
      obtain ⟨v, h2, r2⟩ := atI_rep r1 e2
      rcases h1 with h1 | h1
      · exact .inl ⟨p, vs, i, v, rfl, rfl, h1, h2, c.ret s r2⟩
      · exact .inr (.inl ⟨p, vs, i, v, rfl, rfl, h1, h2, c.ret s r2⟩)
theorem o_ixD {K : PySem.W.Frag} {mg : Str → Option Value} : Op2 K mg (rIxD K) gIxD := fun H ρ S a b x y w Q s ra rb c => by
  unfold gIxD at c
  obtain ⟨p, es, ep, ks, vs, nk, rfl, hd, e, rd, ek, ok, hk, c⟩ := onKey_rep s ra rb c
  cases g : dGet ks vs b with
  | none => rw [g] at c; exact c.elim
  | some d =>
    rw [g] at c
    obtain ⟨v, h1, h2⟩ := dGet_some rd ek g
    exact ⟨p, es, ep, nk, v, rfl, hd, ok, h1, c.ret s h2⟩
theorem o_ixS {K : PySem.W.Frag} {mg : Str → Option Value} : Op2 K mg (rIx K) gIxS := fun H ρ S a b x y w Q s ra rb c => by
  unfold gIxS at c
  cases b with
  | int i =>
    unfold RepV at rb
    subst rb
    cases a with
    | str z =>
      simp only at c
      split at c
      · rename_i h
        cases e : atI z.cps.toList i with
        | none => rw [e] at c; exact c.elim
        | some k =>
          rw [e] at c
          unfold RepV at ra
          exact .inr (.inr ⟨z, i, k, ra, rfl, h, e, c.ret s (by unfold RepV; rfl)⟩)
      · exact c.elim
    | non => exact ix_of_seq s ra c
    | bl _ => exact ix_of_seq s ra c
    | int _ => exact ix_of_seq s ra c
    | tup _ => exact ix_of_seq s ra c
    | new _ => exact ix_of_seq s ra c
    | scr _ => exact ix_of_seq s ra c
    | ref _ => exact ix_of_seq s ra c
    | exn _ => exact ix_of_seq s ra c
    | dic _ _ => exact ix_of_seq s ra c
    | rdc _ => exact ix_of_seq s ra c
    | obj _ => exact ix_of_seq s ra c
    | ktp _ => exact ix_of_seq s ra c
  | _ => exact c.elim
theorem o_ix {K : PySem.W.Frag} {mg : Str → Option Value} : Op2 K mg (rIxA K) gIx := fun H ρ S a b x y w Q s ra rb c => by
  unfold gIx at c
  cases e : dicOf S a with
  | none => rw [e] at c; exact .inl (o_ixS H ρ S a b x y w Q s ra rb c)
  | some p => rw [e] at c; exact .inr (o_ixD H ρ S a b x y w Q s ra rb c)

/-! ## slices -/
def cutD {α : Type} (xs : List α) (lo hi : Option Int) : List α := (xs.drop (HT.sIx xs.length 0 lo)).take (HT.sIx xs.length xs.length hi - HT.sIx xs.length 0 lo)
abbrev CO := Env → Sto → R (Option Int)
def pNone : CO := fun _ S => .ok none S
def toI (d : D) (S : Sto) : R (Option Int) := match d with | .int i => .ok (some i) S | _ => .bad
def pSome (f : CE) : CO := fun env S => (f env S).bind toI
def gSl (d : D) (lo hi : Option Int) (S : Sto) : R D := match d with
  | .tup xs => .ok (.tup (cutD xs lo hi)) S
  | .str z => if z.length ≤ sLim then .ok (.str (cutS z lo hi)) S else .bad
  | d => match lstOf S d with
    | some xs => .ok (.new (cutD xs lo hi)) S
    | none => .bad
def eSl (a : CE) (lo hi : CO) : CE := fun env S => (a env S).bind fun d S => (lo env S).bind fun l S => (hi env S).bind fun h S => gSl d l h S
def DO (X : Cx) (W : WX) (e : Option Expr) (f : CO) : Prop := PO X e (tG X.K X.mg eqR W f)
theorem RepVs.cut {K : PySem.W.Frag} {H : Hp} {ρ : Rg} {xs : List D} {vs : List V} (r : RepVs K H ρ xs vs) (lo hi : Option Int) : RepVs K H ρ (cutD xs lo hi) (cutV vs lo hi) := by
  unfold cutD cutV
  rw [RepVs.length r]
  exact RepVs.take _ (RepVs.drop _ r)
section
variable {X : Cx} {W : WX} {e : Expr} {fe : CE} {lo hi : Option Expr} {fl fh : CO} {pos p2 : Pos}
theorem PO.mono {e : Option Expr} {t t' : TO} (h : PO X e t) (q : ∀ σ H Q, t' σ H Q → t σ H Q) : PO X e t' := ⟨fun pins s σ H Q I z => h.run pins s σ H Q I (q _ _ _ z)⟩
theorem do_none : DO X W none pNone := PO.mono po_none fun σ H Q ⟨env, ρ, S, a, b, c⟩ => c.ret b rfl
theorem do_some (h : DE X W e fe) : DO X W (some e) (pSome fe) := PO.mono (po_some h) fun σ H Q ⟨env, ρ, S, a, b, c⟩ => by
  refine tG.of a b ((Post.bind (rep := RepV X.K) c).mono fun x H1 ⟨ρ1, S1, d1, x1, s1, r1, c1⟩ => ?_)
  cases d1 with
  | int i => unfold RepV at r1; exact ⟨i, r1, c1.ret s1 rfl⟩
  | _ => exact c1.elim
def rSlAny (K : PySem.W.Frag) : V → Option Int → Option Int → Hp → VK → Prop := fun x lo hi H Q => rSlA K x lo hi H Q ∨ rSlL K x lo hi H Q ∨ (∃ z, x = .str z ∧ z.length ≤ sizeLine ∧ Q (.str (cutS z lo hi)) H)
theorem sl_any : SlR X (rSlAny X.K) := sl_tupA.or (sl_list.or sl_str)
theorem de_slice (he : DE X W e fe) (hl : DO X W lo fl) (hu : DO X W hi fh) : DE X W (.Subscript e (.Slice lo hi none p2) pos) (eSl fe fl fh) :=
  DE.of (pe_slice sl_any he hl hu) fun σ H Q env ρ S a b c => by
    refine tG.of a b ((Post.bind (rep := RepV X.K) c).mono fun x H1 ⟨ρ1, S1, d1, x1, s1, r1, c1⟩ => ?_)
    refine tG.of (a.ext x1) s1 ((Post.bind (rep := eqR) c1).mono fun l H2 ⟨ρ2, S2, l2, x2, s2, r2, c2⟩ => ?_)
    cases r2
    refine tG.of ((a.ext x1).ext x2) s2 ((Post.bind (rep := eqR) c2).mono fun h H3 ⟨ρ3, S3, h3, x3, s3, r3, c3⟩ => ?_)
    cases r3
    have ra := RepV.ext (x2.trans x3) _ _ r1
    have lists : ∀ {xs : List D}, lstOf S3 d1 = some xs → Post X.K X.mg (RepV X.K) (fun c d H' => W c d σ H') ρ3 H3 (.ok (.new (cutD xs l h)) S3) Q → rSlAny X.K x l h H3 Q := fun {xs} e c => by
      obtain ⟨p, vs, rfl, h1, r1⟩ := lst_rep s3 ra e
      refine .inr (.inl ⟨p, vs, rfl, .inl (.inl h1), fun n hn => ?_⟩)
      exact c.retN s3 hn (by unfold RepV; exact ⟨n, _, rfl, ⟨s3.notin hn, upd_same⟩, RepVs.ext (Ext.new hn) _ _ (r1.cut l h)⟩)
    unfold gSl at c3
    cases d1 with
    | tup xs =>
      have ra0 := ra
      unfold RepV at ra
      obtain ⟨p, vs, rfl, q, rs⟩ := ra
      simp only at c3
      refine .inl ⟨p, vs, rfl, q, fun hw => ?_, fun hw n hn => ?_⟩
      · have e : cutD xs l h = xs := by
          unfold cutD
          rw [← RepVs.length rs, hw.1, hw.2]
          simp [RepVs.length rs]
        rw [e] at c3
        exact c3.ret s3 ra0
      · exact c3.retN s3 hn (by unfold RepV; exact ⟨n, _, rfl, .inl (.inl upd_same), RepVs.ext (Ext.new hn) _ _ (rs.cut l h)⟩)
    | str z =>
      simp only at c3
      split at c3
      · rename_i hz
        unfold RepV at ra
        exact .inr (.inr ⟨z, ra, hz, c3.ret s3 (by unfold RepV; rfl)⟩)
      · exact c3.elim
    | new xs => exact lists rfl c3
    | ref n =>
      simp only at c3
      cases e : lstOf S3 (.ref n) with
      | none => rw [e] at c3; exact c3.elim
      | some xs => rw [e] at c3; exact lists e c3
    | non => exact c3.elim
    | bl _ => exact c3.elim
    | int _ => exact c3.elim
    | scr _ => exact c3.elim
    | exn _ => exact c3.elim
    | dic _ _ => exact c3.elim
    | rdc _ => exact c3.elim
    | obj _ => exact c3.elim
    | ktp _ => exact c3.elim
/-- xs[::-1] of a list -/
def gRev (d : D) (S : Sto) : R D := match lstOf S d with | some xs => .ok (.new xs.reverse) S | none => .bad
theorem de_rev {k : Nat} {p1 p2 p3 : Pos} (he : DE X W e fe) : DE X W (.Subscript e (.Slice none none (some (.UnaryOp .USub (.Constant (.int 1) k p1) p2)) p3) pos) (eUn gRev fe) :=
  DE.of (pe_revL he) fun σ H Q env ρ S a b c => by
    refine tG.of a b ((Post.bind (rep := RepV X.K) c).mono fun x H1 ⟨ρ1, S1, d1, x1, s1, r1, c1⟩ => ?_)
    unfold gRev at c1
    cases e : lstOf S1 d1 with
    | none => rw [e] at c1; exact c1.elim
    | some xs =>
      rw [e] at c1
      obtain ⟨p, vs, rfl, h1, r1⟩ := lst_rep s1 r1 e
      exact ⟨p, vs, rfl, .inl (.inl h1), fun n hn => c1.retN s1 hn (by unfold RepV; exact ⟨n, _, rfl, ⟨s1.notin hn, upd_same⟩, RepVs.ext (Ext.new hn) _ _ r1.reverse⟩)⟩
end

/-! ## built-in functions -/
def one (ds : List D) (f : D → R D) : R D := match ds with | [d] => f d | _ => .bad
@[simp] theorem one_one (d : D) (f : D → R D) : one [d] f = f d := Eq.trans rfl rfl
theorem one_rep {K : PySem.W.Frag} {mg : Str → Option Value} {H : Hp} {ρ : Rg} {as : List D} {xs : List V} {w : XW} {Q : VK} {f : D → R D} (r : RepVs K H ρ as xs) (c : Post K mg (RepV K) w ρ H (one as f) Q) :
    ∃ d v, as = [d] ∧ xs = [v] ∧ RepV K H ρ d v ∧ Post K mg (RepV K) w ρ H (f d) Q := by
  unfold one at c
  split at c
  · rename_i d
    obtain ⟨v, e, q⟩ := RepVs.one r
    exact ⟨d, v, rfl, e, q, c⟩
  · exact c.elim
def gLenS (as : List D) (S : Sto) : R D := one as fun d => match d with
  | .str z => if z.length ≤ sLim then .ok (.int z.length) S else .bad
  | d => match seqOf S d with
    | some xs => .ok (.int xs.length) S
    | none => .bad
section
variable {K : PySem.W.Frag} {mg : Str → Option Value}
theorem o_lenS : OpN K mg (fun xs H Q => ∃ x n, xs = [x] ∧ LenV K x H n ∧ Q (.int n) H) gLenS := fun H ρ S as xs w Q s r c => by
  obtain ⟨d, v, rfl, rfl, rd, c⟩ := one_rep r c
  have seq : ∀ {ys : List D}, seqOf S d = some ys → Post K mg (RepV K) w ρ H (.ok (.int ys.length) S) Q → ∃ x n, [v] = [x] ∧ LenV K x H n ∧ Q (.int n) H := fun {ys} e c => by
    obtain ⟨p, vs, rfl, h1, r1⟩ := seq_rep s rd e
    refine ⟨_, vs.length, rfl, ?_, by rw [RepVs.length r1]; exact c.ret s (by unfold RepV; rfl)⟩
    rcases h1 with h1 | h1
    · exact .inl ⟨vs, h1, rfl⟩
    · exact .inr ⟨vs, h1, rfl⟩
  cases d with
  | str z =>
    simp only at c
    split at c
    · rename_i h
      unfold RepV at rd
      subst rd
      exact ⟨_, z.length, rfl, ⟨h, rfl⟩, c.ret s (by unfold RepV; rfl)⟩
    · exact c.elim
  | tup xs => exact seq rfl c
  | new xs => exact seq rfl c
  | scr xs => exact seq rfl c
  | ref n =>
    simp only at c
    cases e : seqOf S (.ref n) with
    | none => rw [e] at c; exact c.elim
    | some xs => rw [e] at c; exact seq e c
  | non => exact c.elim
  | bl _ => exact c.elim
  | int _ => exact c.elim
  | exn _ => exact c.elim
  | dic _ _ => exact c.elim
  | rdc _ => exact c.elim
  | obj _ => exact c.elim
  | ktp _ => exact c.elim
end
def gLenD (d : D) (S : Sto) : R D := match dicOf S d with
  | some (ks, _) => .ok (.int ks.length) S
  | none => .bad
def gLen (as : List D) (S : Sto) : R D := one as fun d => match dicOf S d with
  | some _ => gLenD d S
  | none => gLenS [d] S
def rLenD : List V → Hp → VK → Prop := fun xs H Q => ∃ a es ep, xs = [.ref a] ∧ H a = some (DicT a es ep) ∧ Q (.int (es.length : Nat)) H
def rLenA (K : PySem.W.Frag) : List V → Hp → VK → Prop := fun xs H Q => (∃ x n, xs = [x] ∧ LenV K x H n ∧ Q (.int n) H) ∨ rLenD xs H Q
theorem call_lenDic {X : Cx} : CallR X (.builtin "len") rLenD := by
  intro pins s σ H xs us Q I r h
  obtain ⟨a, es, ep, rfl, hd, q⟩ := h
  rw [Vals.ref1 r]
  obtain ⟨hs, hz, hn, o, ys, hg, hx, hdt, pr⟩ := Inv.dic I hd
  have hsz : ys.size = es.length := by rw [← Array.length_toList]; exact (Paired.length pr).symm
  refine PyProof.Rows.call_len_slot (n := es.length) (dic_typeIs I hd) F.slot_dict_len (fun Q' hq => call_len_raw (es := ys) (ep := ep) hs ⟨o, hg, hx, hdt⟩ (by rw [hsz]; exact hq)) (by omega) (by rw [sizeLine_eq] at hz; omega) ?_
  exact ⟨.int _, H, I.tok _, ⟨_, rfl⟩, q⟩
theorem CallR.or {X : Cx} {f : Value} {r r' : List V → Hp → VK → Prop} (h : CallR X f r) (h' : CallR X f r') : CallR X f (fun xs H Q => r xs H Q ∨ r' xs H Q) := by
  intro pins s σ H xs us Q I rs q
  rcases q with q | q
  · exact h pins s σ H xs us Q I rs q
  · exact h' pins s σ H xs us Q I rs q
theorem call_lenA {X : Cx} : CallR X (.builtin "len") (rLenA X.K) := CallR.or call_len call_lenDic
theorem o_len {K : PySem.W.Frag} {mg : Str → Option Value} : OpN K mg (rLenA K) gLen := fun H ρ S as xs w Q s r c => by
  obtain ⟨d, v, rfl, rfl, rd, c⟩ := one_rep r c
  cases e : dicOf S d with
  | none => rw [e] at c; exact .inl (o_lenS H ρ S [d] [v] w Q s r c)
  | some p =>
    obtain ⟨ks, vs⟩ := p
    rw [e] at c
    simp only [gLenD, e] at c
    obtain ⟨a, es, ep, rfl, hd, rr⟩ := dic_rep s rd e
    refine .inr ⟨a, es, ep, rfl, hd, c.ret s (by unfold RepV; rw [rr.len.1])⟩
/-- a list of whole numbers, of truth values -/
def intsOf : List D → Option (List Int)
  | [] => some []
  | .int i :: r => (intsOf r).map (i :: ·)
  | _ :: _ => none
def blsOf : List D → Option (List Bool)
  | [] => some []
  | .bl i :: r => (blsOf r).map (i :: ·)
  | _ :: _ => none
theorem intsOf_eq : ∀ {ds : List D} {ns : List Int}, intsOf ds = some ns → ds = ns.map D.int
  | [], ns, h => by simp [intsOf] at h; subst h; rfl
  | .int i :: r, ns, h => by
    simp only [intsOf, Option.map_eq_some_iff] at h
    obtain ⟨ms, h1, rfl⟩ := h
    rw [intsOf_eq h1]; rfl
  | .non :: _, _, h => by simp [intsOf] at h
  | .bl _ :: _, _, h => by simp [intsOf] at h
  | .str _ :: _, _, h => by simp [intsOf] at h
  | .tup _ :: _, _, h => by simp [intsOf] at h
  | .new _ :: _, _, h => by simp [intsOf] at h
  | .scr _ :: _, _, h => by simp [intsOf] at h
  | .ref _ :: _, _, h => by simp [intsOf] at h
  | .exn _ :: _, _, h => by simp [intsOf] at h
  | .dic _ _ :: _, _, h => by simp [intsOf] at h
  | .rdc _ :: _, _, h => by simp [intsOf] at h
  | .obj _ :: _, _, h => by simp [intsOf] at h
  | .ktp _ :: _, _, h => by simp [intsOf] at h
theorem blsOf_eq : ∀ {ds : List D} {ns : List Bool}, blsOf ds = some ns → ds = ns.map D.bl
  | [], ns, h => by simp [blsOf] at h; subst h; rfl
  | .bl i :: r, ns, h => by
    simp only [blsOf, Option.map_eq_some_iff] at h
    obtain ⟨ms, h1, rfl⟩ := h
    rw [blsOf_eq h1]; rfl
  | .non :: _, _, h => by simp [blsOf] at h
  | .int _ :: _, _, h => by simp [blsOf] at h
  | .str _ :: _, _, h => by simp [blsOf] at h
  | .tup _ :: _, _, h => by simp [blsOf] at h
  | .new _ :: _, _, h => by simp [blsOf] at h
  | .scr _ :: _, _, h => by simp [blsOf] at h
  | .ref _ :: _, _, h => by simp [blsOf] at h
  | .exn _ :: _, _, h => by simp [blsOf] at h
  | .dic _ _ :: _, _, h => by simp [blsOf] at h
  | .rdc _ :: _, _, h => by simp [blsOf] at h
  | .obj _ :: _, _, h => by simp [blsOf] at h
  | .ktp _ :: _, _, h => by simp [blsOf] at h
@[simp] theorem intsOf_map (ns : List Int) : intsOf (ns.map D.int) = some ns := by
  induction ns with
  | nil => rfl
  | cons n ns ih => simp [intsOf, ih]
@[simp] theorem blsOf_map (ns : List Bool) : blsOf (ns.map D.bl) = some ns := by
  induction ns with
  | nil => rfl
  | cons n ns ih => simp [blsOf, ih]
def onInts (S : Sto) (d : D) (f : List Int → R D) : R D := match lstOf S d with
  | some xs => match intsOf xs with
    | some ns => f ns
    | none => .bad
  | none => .bad
def onBls (S : Sto) (d : D) (f : List Bool → R D) : R D := match lstOf S d with
  | some xs => match blsOf xs with
    | some ns => f ns
    | none => .bad
  | none => .bad
section
variable {K : PySem.W.Frag} {mg : Str → Option Value} {H : Hp} {ρ : Rg} {S : Sto} {d : D} {v : V} {w : XW} {Q : VK}
theorem onInts_rep (s : Sim K ρ S H) (r : RepV K H ρ d v) {f : List Int → R D} (c : Post K mg (RepV K) w ρ H (onInts S d f) Q) : ∃ a ns, v = .ref a ∧ SqL K H a (ns.map V.int) ∧ Post K mg (RepV K) w ρ H (f ns) Q := by
  unfold onInts at c
  cases e : lstOf S d with
  | none => rw [e] at c; exact c.elim
  | some xs =>
    rw [e] at c
    simp only at c
    cases e2 : intsOf xs with
    | none => rw [e2] at c; exact c.elim
    | some ns =>
      rw [e2] at c
      obtain ⟨p, vs, rfl, h1, r1⟩ := lst_rep s r e
      rw [intsOf_eq e2] at r1
      rw [RepVs.ints_of r1] at h1
      exact ⟨p, ns, rfl, .inl (.inl h1), c⟩
theorem onBls_rep (s : Sim K ρ S H) (r : RepV K H ρ d v) {f : List Bool → R D} (c : Post K mg (RepV K) w ρ H (onBls S d f) Q) : ∃ a ns, v = .ref a ∧ SqL K H a (ns.map V.bl) ∧ Post K mg (RepV K) w ρ H (f ns) Q := by
  unfold onBls at c
  cases e : lstOf S d with
  | none => rw [e] at c; exact c.elim
  | some xs =>
    rw [e] at c
    simp only at c
    cases e2 : blsOf xs with
    | none => rw [e2] at c; exact c.elim
    | some ns =>
      rw [e2] at c
      obtain ⟨p, vs, rfl, h1, r1⟩ := lst_rep s r e
      rw [blsOf_eq e2] at r1
      rw [RepVs.bls_of r1] at h1
      exact ⟨p, ns, rfl, .inl (.inl h1), c⟩
end
def gAll (as : List D) (S : Sto) : R D := one as fun d => onBls S d fun bs => .ok (.bl (bs.all id)) S
/-- a tuple of whole numbers, or else -/
def onTup (d : D) (f : List Int → R D) (g : R D) : R D := match d with
  | .tup xs => match intsOf xs with
    | some ns => f ns
    | none => .bad
  | _ => g
@[simp] theorem onTup_new (xs : List D) (f : List Int → R D) (g : R D) : onTup (.new xs) f g = g := Eq.trans rfl rfl
@[simp] theorem onTup_ref (n : Nat) (f : List Int → R D) (g : R D) : onTup (.ref n) f g = g := Eq.trans rfl rfl
theorem onTup_tup (xs : List D) (f : List Int → R D) (g : R D) : onTup (.tup xs) f g = match intsOf xs with | some ns => f ns | none => .bad := Eq.trans rfl rfl
theorem onTup_rep {K : PySem.W.Frag} {mg : Str → Option Value} {H : Hp} {ρ : Rg} {d : D} {v : V} {w : XW} {Q : VK} (r : RepV K H ρ d v) {f : List Int → R D} {g : R D} (c : Post K mg (RepV K) w ρ H (onTup d f g) Q) :
    (∃ a ns, v = .ref a ∧ SqT K H a (ns.map V.int) ∧ Post K mg (RepV K) w ρ H (f ns) Q) ∨ Post K mg (RepV K) w ρ H g Q := by
  cases d with
  | tup xs =>
    rw [onTup_tup] at c
    cases e : intsOf xs with
    | none => rw [e] at c; exact c.elim
    | some ns =>
      rw [e] at c
      unfold RepV at r
      obtain ⟨a, vs, rfl, q, rs⟩ := r
      rw [intsOf_eq e] at rs
      rw [RepVs.ints_of rs] at q
      exact .inl ⟨a, ns, rfl, q, c⟩
  | _ => exact .inr c
def gAny (as : List D) (S : Sto) : R D := one as fun d => onTup d (fun ns => .ok (.bl (ns.any (· != 0))) S) (onBls S d fun bs => .ok (.bl (bs.any id)) S)
def gSum (as : List D) (S : Sto) : R D := one as fun d => onTup d (fun ns => .ok (.int ns.sum) S) (onInts S d fun ns => .ok (.int ns.sum) S)
def maxI : List Int → Int
  | [] => 0
  | [n] => n
  | n :: m :: r => max n (maxI (m :: r))
def gMax (as : List D) (S : Sto) : R D := one as fun d => onTup d (fun ns => if 0 < ns.length then .ok (.int (maxI ns)) S else .bad) (onInts S d fun ns => if 0 < ns.length then .ok (.int (maxI ns)) S else .bad)
theorem maxI_ge : ∀ {ns : List Int} {n : Int}, n ∈ ns → n ≤ maxI ns
  | [a], n, h => by simp at h; subst h; simp [maxI]
  | a :: b :: r, n, h => by
    rcases List.mem_cons.mp h with h | h
    · subst h; simp only [maxI]; omega
    · have := maxI_ge h; simp only [maxI]; omega
theorem maxI_mem : ∀ {ns : List Int}, 0 < ns.length → maxI ns ∈ ns
  | [a], _ => by simp [maxI]
  | a :: b :: r, _ => by
    have h := maxI_mem (ns := b :: r) (by simp)
    simp only [maxI]
    by_cases q : a ≤ maxI (b :: r)
    · rw [Int.max_eq_right q]; exact List.mem_cons_of_mem _ h
    · rw [Int.max_eq_left (by omega)]; exact List.mem_cons_self
section
variable {K : PySem.W.Frag} {mg : Str → Option Value}
theorem o_all : OpN K mg (rAll K) gAll := fun H ρ S as xs w Q s r c => by
  obtain ⟨d, v, rfl, rfl, rd, c⟩ := one_rep r c
  obtain ⟨a, bs, rfl, h, c⟩ := onBls_rep s rd c
  exact ⟨a, bs, rfl, h, c.ret s (by unfold RepV; rfl)⟩
def rAnyA (K : PySem.W.Frag) : List V → Hp → VK → Prop := fun xs H Q => rAny K xs H Q ∨ rAnyT K xs H Q
def rSumA (K : PySem.W.Frag) : List V → Hp → VK → Prop := fun xs H Q => rSum K xs H Q ∨ rSumT K xs H Q
def rMaxA (K : PySem.W.Frag) : List V → Hp → VK → Prop := fun xs H Q => rMax K xs H Q ∨ rMaxT K xs H Q
theorem o_any : OpN K mg (rAnyA K) gAny := fun H ρ S as xs w Q s r c => by
  obtain ⟨d, v, rfl, rfl, rd, c⟩ := one_rep r c
  rcases onTup_rep rd c with ⟨a, ns, rfl, h, c⟩ | c
  · exact .inr ⟨a, ns, rfl, h, c.ret s (by unfold RepV; rfl)⟩
  · obtain ⟨a, bs, rfl, h, c⟩ := onBls_rep s rd c
    exact .inl ⟨a, bs, rfl, h, c.ret s (by unfold RepV; rfl)⟩
theorem o_sum : OpN K mg (rSumA K) gSum := fun H ρ S as xs w Q s r c => by
  obtain ⟨d, v, rfl, rfl, rd, c⟩ := one_rep r c
  rcases onTup_rep rd c with ⟨a, ns, rfl, h, c⟩ | c
  · exact .inr ⟨a, ns, rfl, h, c.ret s (by unfold RepV; rfl)⟩
  · obtain ⟨a, bs, rfl, h, c⟩ := onInts_rep s rd c
    exact .inl ⟨a, bs, rfl, h, c.ret s (by unfold RepV; rfl)⟩
theorem maxI_uniq {ns : List Int} {m : Int} (hl : 0 < ns.length) (h1 : m ∈ ns) (h2 : ∀ y, y ∈ ns → y ≤ m) : m = maxI ns := by
  have := maxI_ge h1
  have := h2 _ (maxI_mem hl)
  omega
theorem o_max : OpN K mg (rMaxA K) gMax := fun H ρ S as xs w Q s r c => by
  obtain ⟨d, v, rfl, rfl, rd, c⟩ := one_rep r c
  rcases onTup_rep rd c with ⟨a, ns, rfl, h, c⟩ | c
  · split at c
    · rename_i hl
      exact .inr ⟨a, ns, rfl, h, hl, fun m h1 h2 => c.ret s (by unfold RepV; rw [maxI_uniq hl h1 h2])⟩
    · exact c.elim
  · obtain ⟨a, ns, rfl, h, c⟩ := onInts_rep s rd c
    split at c
    · rename_i hl
      exact .inl ⟨a, ns, rfl, h, hl, fun m h1 h2 => c.ret s (by unfold RepV; rw [maxI_uniq hl h1 h2])⟩
    · exact c.elim
end
def gTuple (as : List D) (S : Sto) : R D := one as fun d => match d with
  | .tup xs => .ok (.tup xs) S
  | d => match lstOf S d with
    | some xs => .ok (.tup xs) S
    | none => .bad
theorem o_tuple {K : PySem.W.Frag} {mg : Str → Option Value} : OpN K mg (fun xs H Q => ∃ p ys, xs = [.ref p] ∧ ((SqL K H p ys ∧ ∀ l, H l = none → Q (.ref l) (upd H l (.tup ys))) ∨ (SqT K H p ys ∧ Q (.ref p) H))) gTuple := fun H ρ S as xs w Q s r c => by
  obtain ⟨d, v, rfl, rfl, rd, c⟩ := one_rep r c
  have lists : ∀ {ys : List D}, lstOf S d = some ys → Post K mg (RepV K) w ρ H (.ok (.tup ys) S) Q → ∃ p ys, [v] = [.ref p] ∧ ((SqL K H p ys ∧ ∀ l, H l = none → Q (.ref l) (upd H l (.tup ys))) ∨ (SqT K H p ys ∧ Q (.ref p) H)) := fun {ys} e c => by
    obtain ⟨p, vs, rfl, h1, r1⟩ := lst_rep s rd e
    exact ⟨p, vs, rfl, .inl ⟨.inl (.inl h1), fun n hn => c.retN s hn (by unfold RepV; exact ⟨n, _, rfl, .inl (.inl upd_same), RepVs.ext (Ext.new hn) _ _ r1⟩)⟩⟩
  cases d with
  | tup ys =>
    have rd0 := rd
    unfold RepV at rd
    obtain ⟨p, vs, rfl, q, rs⟩ := rd
    exact ⟨p, vs, rfl, .inr ⟨q, c.ret s rd0⟩⟩
  | new ys => exact lists rfl c
  | ref n =>
    simp only at c
    cases e : lstOf S (.ref n) with
    | none => rw [e] at c; exact c.elim
    | some ys => rw [e] at c; exact lists e c
  | non => exact c.elim
  | bl _ => exact c.elim
  | int _ => exact c.elim
  | str _ => exact c.elim
  | scr _ => exact c.elim
  | exn _ => exact c.elim
  | dic _ _ => exact c.elim
  | rdc _ => exact c.elim
  | obj _ => exact c.elim
  | ktp _ => exact c.elim
/-- a list made by a call -/
def NpN (K : PySem.W.Frag) (mg : Str → Option Value) (r : List V → Hp → VK → Prop) (g : List D → Sto → R (List D)) : Prop :=
  ∀ (H : Hp) (ρ : Rg) (S : Sto) (as : List D) (xs : List V) (w : XW) (Q : VK), Sim K ρ S H → RepVs K H ρ as xs → Post K mg (RepVs K) w ρ H (g as S) (fun vs H1 => ∀ p, H1 p = none → Q (.ref p) (upd H1 p (.lst vs))) → r xs H Q
def aCall (g : List D → Sto → R (List D)) (f : CA) : CA := fun env S => (f env S).bind g
theorem dn_tCB {X : Cx} {W : WX} {e : Expr} {r : List V → Hp → VK → Prop} {g : List D → Sto → R (List D)} {f : CA} (h : PE X e (tCB r (tG X.K X.mg (RepVs X.K) W f))) (o : NpN X.K X.mg r g) : DN X W e (aCall g f) :=
  PE.mono h fun σ H Q ⟨env, ρ, S, a, b, c⟩ => tG.of a b ((Post.bind (rep := RepVs X.K) c).mono fun xs H1 ⟨ρ1, S1, d1, x1, s1, r1, c1⟩ => o H1 ρ1 S1 d1 xs _ Q s1 r1 c1)
def gList (as : List D) (S : Sto) : R (List D) := match as with
  | [d] => match seqOf S d with
    | some xs => .ok xs S
    | none => .bad
  | _ => .bad
theorem n_list {K : PySem.W.Frag} {mg : Str → Option Value} : NpN K mg (fun xs H Q => ∃ p ys, xs = [.ref p] ∧ (SqL K H p ys ∨ SqT K H p ys) ∧ ∀ l, H l = none → Q (.ref l) (upd H l (.lst ys))) gList := fun H ρ S as xs w Q s r c => by
  unfold gList at c
  split at c
  · rename_i d
    obtain ⟨v, rfl, rd⟩ := RepVs.one r
    cases e : seqOf S d with
    | none => rw [e] at c; exact c.elim
    | some ys =>
      rw [e] at c
      obtain ⟨p, vs, rfl, h1, r1⟩ := seq_rep s rd e
      exact ⟨p, vs, rfl, h1, c vs H ρ Ext.refl s r1⟩
  · exact c.elim
/-- [a, b, ..] -/
def gDisp (xs : List D) (S : Sto) : R (List D) := if xs.length ≤ sLim then .ok xs S else .bad
theorem dn_disp {X : Cx} {W : WX} {es : List Expr} {f : CA} {pos : Pos} (h : DA X W es f) : DN X W (.List es pos) (aCall gDisp f) :=
  PE.mono (pe_lst h) fun σ H Q ⟨env, ρ, S, a, b, c⟩ => by
    refine tG.of a b ((Post.bind (rep := RepVs X.K) c).mono fun xs H1 ⟨ρ1, S1, d1, x1, s1, r1, c1⟩ => ?_)
    unfold gDisp at c1
    split at c1
    · rename_i h
      exact ⟨by rw [RepVs.length r1]; exact h, c1 xs H1 ρ1 Ext.refl s1 r1⟩
    · exact c1.elim
end J

namespace J
open PySem PySem.Spec PyProof.Rows L2

/-! ## is, is not: None, True, False -/
def isNon : D → Bool
  | .non => true
  | _ => false
def gIs (a b : D) (S : Sto) : R D := match b with
  | .non => .ok (.bl (isNon a)) S
  | .bl y => match a with | .bl x => .ok (.bl (decide (x = y))) S | _ => .bad
  | _ => .bad
def gIsNot (a b : D) (S : Sto) : R D := match b with
  | .non => .ok (.bl (!isNon a)) S
  | .bl y => match a with | .bl x => .ok (.bl (!decide (x = y))) S | _ => .bad
  | _ => .bad
section
variable {K : PySem.W.Frag} {mg : Str → Option Value}
end

/-! ## isinstance of data and a built-in class -/
def tyD : D → String
  | .non => "NoneType"
  | .bl _ => "bool"
  | .int _ => "int"
  | .str _ => "str"
  | .tup _ => "tuple"
  | .new _ => "list"
  | .scr _ => "list"
  | .ref _ => "list"
  | .exn _ => "list"
  | .dic _ _ => "dict"
  | .rdc _ => "dict"
  | .obj _ => "list"
  | .ktp _ => "list"
def D.isX : D → Bool
  | .exn _ => true
  | .dic _ _ => true
  | .rdc _ => true
  | .obj _ => true
  | .ktp _ => true
  | _ => false
def isiB (a T : String) : Bool := a == T || (a == "bool" && T == "int")
def gIsi (T : String) (d : D) (S : Sto) : R D := if d.isX = true then .bad else .ok (.bl (isiB (tyD d) T)) S
theorem tyX_of {K : PySem.W.Frag} {H : Hp} {ρ : Rg} {S : Sto} {d : D} {v : V} (s : Sim K ρ S H) (r : RepV K H ρ d v) (hx : d.isX = false) : TyX K H v (.type (tyD d)) := by
  cases d with
  | exn _ => cases hx
  | dic _ _ => cases hx
  | rdc _ => cases hx
  | obj _ => cases hx
  | ktp _ => cases hx
  | non => unfold RepV at r; subst r; exact .base .non
  | bl b => unfold RepV at r; subst r; exact .base (.bl b)
  | int i => unfold RepV at r; subst r; exact .base (.int i)
  | str x => unfold RepV at r; subst r; exact .base (.str x)
  | tup xs =>
    unfold RepV at r
    obtain ⟨a, vs, rfl, q, _⟩ := r
    rcases q with (q | ⟨o, q⟩) | ⟨o, its, n, h1, h2, h3, _⟩
    · exact .base (.tup q)
    · exact .fTuple q
    · exact .kTuple h1 h2
  | new xs =>
    unfold RepV at r
    obtain ⟨a, vs, rfl, q, _⟩ := r
    exact .base (.lst q.2)
  | scr xs =>
    unfold RepV at r
    obtain ⟨a, vs, rfl, q, _⟩ := r
    rcases q with ⟨_, o, q⟩ | ⟨o, its, n, h1, h2, _⟩
    · exact .base (.frz q)
    · exact .kList h1 h2
  | ref n =>
    unfold RepV at r
    obtain ⟨a, rfl, q, us, hu⟩ := r
    exact .base (.lst hu)
theorem isi_kit (T : String) (hT : T = "int" ∨ T = "bool" ∨ T = "tuple" ∨ T = "list" ∨ T = "str" ∨ T = "dict") : ∀ d : D, kitB (tyD d) T = some (isiB (tyD d) T) := by
  intro d
  rcases hT with rfl | rfl | rfl | rfl | rfl | rfl <;> cases d <;> (simp only [tyD]; decide +kernel)
section
variable {X : Cx} {W : WX} {e : Expr} {fe : CE} {p p2 pos : Pos}
theorem de_isi (T : String) {x : Str} (hT : T = "int" ∨ T = "bool" ∨ T = "tuple" ∨ T = "list" ∨ T = "str" ∨ T = "dict") (hg : Gl X "isinstance") (hm : X.mg "isinstance" = none) (hg2 : Gl X x) (hm2 : X.mg x = none) (hv : bootBuiltins x = some (.type T)) (he : DE X W e fe)
    (hn : x ≠ "__name__" := by decide) (hd : (x == ("__debug__" : Str)) = false := by decide)
    (hs : starEach [e, .Name x p2] X.env = (false, eval e X.env) :: starEach [.Name x p2] X.env := by rfl) (hpl : (backTo pos (starEach [.Name x p2] X.env)).any (·.1) = false := by rfl) (hs2 : starEach [.Name x p2] X.env = (false, eval (.Name x p2) X.env) :: starEach [] X.env := by rfl) :
    DE X W (.Call (.Name "isinstance" p) [e, .Name x p2] [] pos) (eUn (gIsi T) fe) :=
  DE.of (pe_callB call_isi hg hm (by decide +kernel) (pa_cons he (pa_cons (pe_bltn (v := .ty T) hg2 hm2 hv rfl hn hd) pa_nil hs2) hs) (by decide) (by decide) hs hpl) fun σ H Q env ρ S a b c => by
    refine tG.of a b ((Post.bind (rep := RepV X.K) c).mono fun v H1 ⟨ρ1, S1, d1, x1, s1, r1, c1⟩ => ?_)
    unfold gIsi at c1
    split at c1
    · exact c1.elim
    rename_i hx
    exact ⟨v, .ty T, .type (tyD d1), .type T, isiB (tyD d1) T, rfl, .ty T, tyX_of s1 r1 (by simpa using hx), kit_ty (isi_kit T hT d1), c1.ret s1 (by unfold RepV; rfl)⟩
end

/-! ## sorted -/
theorem collect_seqZ {prog : Program} {w : World} {A : Around} {E : Value → Shared → Prop} {s : Shared} {Q : List Value → Shared → Prop} (it : Addr) {T : String} {o : Obj} {items : Array Value} {n : Nat} (hT : T = "list" ∨ T = "tuple")
    (ho : s.heap.get? it = some o) (hc : o.cls = .type T) (hd : o.data = .seq items n)
    (hQ : ∀ h' : Heap, h'.objs.size = s.heap.objs.size + 1 → (∀ b o', s.heap.get? b = some o' → h'.get? b = some o') → Q items.toList { s with heap := h' }) (hsz : items.size ≤ sizeLine) :
    wpAny (model prog w) A (collect (.ref it)) Q E s := by
  unfold collect
  refine wpAny_bind (wpAny_runValue (codeAny_builtin F.entry_proto_collect ?_))
  rw [Around.under_plainId F.plain_proto_collect _]
  show wpAny _ A.in1 (newList [] >>= fun l => again (.builtin "list.__iadd__" ⟨[l, .ref it], []⟩)) _ _ s
  refine wpAny_bind (wpAny_newObj_type ?_)
  refine wpAny_pure ⟨plainId_quiet F.plain_list_iadd _, codeAny_builtin F.entry_list_iadd ?_⟩
  rw [Around.under_plainId F.plain_list_iadd _]
  show wpAny _ A.in1 (Builtin.List.listExtendWith (.ref s.heap.objs.size) (.ref it) (.ref s.heap.objs.size)) _ _ _
  have hS : (s.heap.push { cls := .type "list", data := .seq ([] : List Value).toArray }).get? s.heap.objs.size = some { cls := .type "list", data := .seq #[] 0 } := Heap.get?_push_size _ rfl
  have hS₂ := Heap.get?_update_self (Obj.mapSeq (· ++ items)) hS rfl
  have fin' : wpAny (model prog w) A (match Value.ref s.heap.objs.size with
      | Value.ref a => do
        match (← load a).data with
          | Data.seq xs _ => pure xs.toList
          | _ => unsupported "internal:collect"
      | _ => unsupported "internal:collect") Q E { s with heap := (s.heap.push { cls := .type "list", data := .seq ([] : List Value).toArray }).update s.heap.objs.size (Obj.mapSeq (· ++ items)) } := by
    show wpAny _ A (load s.heap.objs.size >>= _) _ _ _
    refine wpAny_bind (wpAny_load hS₂ ?_)
    refine wpAny_pure ?_
    have e : ((#[] : Array Value) ++ items).toList = items.toList := by simp
    show Q ((#[] : Array Value) ++ items).toList _
    rw [e]
    refine hQ _ ?_ (fun b o' hb => ?_)
    · rw [Heap.size_update]; exact Heap.size_push ..
    · exact (Heap.get?_update_other _ _ (Nat.ne_of_gt (Heap.lt_size hb))).trans (Heap.get?_push_of_some _ hb)
  refine wpAny_mono (wpAny_extend_seq (hsz := hsz) (A := A) (R := fun r s' => r = .ok (.ret (.ref s.heap.objs.size)) ∧ s' = { s with heap := (s.heap.push { cls := .type "list", data := .seq ([] : List Value).toArray }).update s.heap.objs.size (Obj.mapSeq (· ++ items)) })
    (s := { s with heap := s.heap.push { cls := .type "list", data := .seq ([] : List Value).toArray } }) _ it _ 0 hT hS (Heap.get?_push_of_some _ ho) hc hd ⟨rfl, rfl⟩) (fun fin s' h => ?_) (fun e s' h => ?_)
  · cases fin with
    | done f =>
      obtain ⟨e, rfl⟩ := h
      cases e
      exact fin'
    | again c' => exact ⟨h.1, codeAny_mono h.2 fun r s'' hr => by obtain ⟨rfl, rfl⟩ := hr; exact fin'⟩
  · exact absurd h.1 (by simp)
/-- sorted(x), x a list or a tuple -/
theorem sorted_of_sortS {prog : Program} {w : World} {A : Around} {E : Value → Shared → Prop} {s : Shared} {l : Addr} {T : String} {o : Obj} {vs : List Value} {n : Nat} {Q : Value → Shared → Prop} (hT : T = "list" ∨ T = "tuple") (ho : s.heap.get? l = some o) (hc : o.cls = .type T) (hd : o.data = .seq vs.toArray n) (hL : vs.length ≤ sizeLine)
    (body : ∀ (E' : Value → Shared → Prop) (h' : Heap), h'.objs.size = s.heap.objs.size + 1 → (∀ b o', s.heap.get? b = some o' → h'.get? b = some o') →
      wpAny (model prog w) A.in1.in1 (Builtin.«list.sort» ⟨[.ref h'.objs.size], []⟩) (fun f s' => f = .done (.ret .none) ∧ Q (.ref h'.objs.size) s') E' { s with heap := h'.push (seqObj "list" vs.toArray 0) }) :
    wpAny (model prog w) A (call (.builtin "sorted") [.ref l]) Q E s := by
  refine PySem.Calls.call_function_entry kind_sorted plain_sorted entry_sorted (args_sorted1 _) ?_
  unfold Builtin.«sorted»
  refine wpAny_bind (m := checkCount "sorted" 1 1 _) (wpAny_pure ?_)
  refine wpAny_bind (collect_seqZ l hT ho hc hd (fun h' hz hk => ?_) (by simpa using hL))
  refine wpAny_bind (wpAny_newList ?_ hL)
  show wpAny _ _ _ _ _ { s with heap := h'.push (seqObj "list" vs.toArray 0) }
  refine wpAny_bind (wpAny_holding (wpAny_call_entry slot_list_sort ⟨_, Heap.get?_push_size _ rfl, rfl⟩ entry_list_sort ?body (args_list_sort _)))
  case body =>
    show wpAny (model prog w) A.in1.in1 (Builtin.«list.sort» ⟨[.ref h'.objs.size], []⟩) _ _ _
    refine wpAny_mono (body _ h' hz hk) (fun f s' hf => ?_) fun _ _ e => e
    obtain ⟨rfl, hq⟩ := hf
    exact ⟨_, rfl, wpAny_pure ⟨_, rfl, hq⟩⟩
open PySem.W in
def rSortD (K : PySem.W.Frag) : List V → Hp → VK → Prop := fun vs H Q => ∃ (a : Addr) (bs : List (V × PyData)), vs = [.ref a] ∧ (SqL K H a (bs.map (·.1)) ∨ SqT K H a (bs.map (·.1))) ∧ (∀ b ∈ bs, Dp K H b.1 b.2) ∧
  AllAlike (bs.map (·.2)) ∧ Sortable (bs.map (·.2)) ∧ (∀ b ∈ bs, b.2.depth ≤ 64) ∧ ∀ p, H p = none → Q (.ref p) (upd H p (.lst ((bs.mergeSort (dataLe false (·.2))).map (·.1))))
open PySem.W in
theorem vals_each : ∀ {bs : List (V × PyData)} {us : List Value}, Vals (bs.map (·.1)) us → EachIs (fun v (b : V × PyData) => RelV b.1 v) us bs
  | [], _, h => by cases h; exact .nil
  | b :: bs, _, .cons r t => .cons r (vals_each t)
open PySem.W in
theorem each_vals : ∀ {bs : List (V × PyData)} {us : List Value}, EachIs (fun v (b : V × PyData) => RelV b.1 v) us bs → Vals (bs.map (·.1)) us
  | _, _, .nil => .nil
  | _, _, .cons r t => .cons r (each_vals t)
open PySem.W in
theorem each_reads {X : Cx} {pins : List (Addr × Obj)} {σ : L2.St} {H : Hp} {s : Shared} (I : Inv X pins σ H s) : ∀ {bs : List (V × PyData)} {us : List Value}, Vals (bs.map (·.1)) us → (∀ b ∈ bs, Dp X.K H b.1 b.2) → EachIs (fun v (b : V × PyData) => ∃ as, Reads s.heap v b.2 as) us bs
  | [], _, h, _ => by cases h; exact .nil
  | b :: bs, _, .cons r t, d => .cons (Dp.reads I b.2 b.1 _ (d b (List.mem_cons_self ..)) r) (each_reads I t fun c hc => d c (List.mem_cons_of_mem _ hc))
open PySem.W in
theorem cr_sortD {X : Cx} (hu : X.A.units + 70 < cLine) : CallR X (.builtin "sorted") (rSortD X.K) := by
  intro pins s σ H xs us Q I r h
  obtain ⟨a, bs, rfl, hq, hd, hal, hk, hdep, q⟩ := h
  obtain rfl := Vals.ref1 r
  have src : ∃ (T : String) (o : Obj) (its : List Value) (n : Nat), (T = "list" ∨ T = "tuple") ∧ s.heap.get? a = some o ∧ o.cls = .type T ∧ o.data = .seq its.toArray n ∧ Vals (bs.map (·.1)) its ∧ its.length ≤ sizeLine := by
    rcases hq with hq | hq
    · obtain ⟨its, rv, ⟨o, n, e1, e2, _, e3⟩, hz⟩ := I.list hq
      exact ⟨"list", o, its, n, .inl rfl, e1, e2, e3, rv, by rw [← rv.length]; exact hz⟩
    · obtain ⟨its, rv, ⟨o, e1, e2, n, e3⟩, hz⟩ := I.tuple hq
      exact ⟨"tuple", o, its, n, .inr rfl, e1, e2, e3, rv, by rw [← rv.length]; exact hz⟩
  obtain ⟨T, o, its, n, hT, ho, hc, hdt, rv, hL⟩ := src
  refine sorted_of_sortS hT ho hc hdt hL fun E' h' hz hkp => ?_
  have hpn : H h'.objs.size = none := I.hok.fresh (by rw [hz]; exact Nat.le_succ _)
  have hat : (h'.push (seqObj "list" its.toArray 0)).get? h'.objs.size = some (seqObj "list" its.toArray 0) := Heap.get?_push_size _ rfl
  have keep1 : ∀ b ob, s.heap.get? b = some ob → b ≠ h'.objs.size ∧ (h'.push (seqObj "list" its.toArray 0)).get? b = some ob := fun b ob e => ⟨Nat.ne_of_lt (Heap.lt_size (hkp b ob e)), Heap.get?_push_of_some _ (hkp b ob e)⟩
  have er : EachIs (fun v (b : V × PyData) => ∃ as, Reads (sortingHeap (h'.push (seqObj "list" its.toArray 0)) h'.objs.size its) v b.2 as) its bs :=
    (each_reads I rv hd).mono fun _ _ ⟨as, rr⟩ => ⟨as, PyProof.Rows.Reads.keeps (fun b ob e => sortingHeap_old (keep1 b ob e).1 (keep1 b ob e).2) rr⟩
  have ev := vals_each rv
  have SA := SortsAt.data (prog := X.prog) (w := X.w) (A := X.A.in1.in1) (s := { s with heap := sortingHeap (h'.push (seqObj "list" its.toArray 0)) h'.objs.size its }) (ds := bs.map (·.2))
    (each_map (R := fun v d => ∃ as, Reads (sortingHeap (h'.push (seqObj "list" its.toArray 0)) h'.objs.size its) v d as) (fun b : V × PyData => b.2) er) hal hk (by
      intro d hdm
      obtain ⟨b, hb, rfl⟩ := List.mem_map.mp hdm
      have := hdep b hb
      show X.A.units + 2 + b.2.depth < cLine
      omega)
  have od := sortVals_data (R := fun v (b : V × PyData) => RelV b.1 v) false ev er hal
  have hln : (sortVals (dataKind (sortingHeap (h'.push (seqObj "list" its.toArray 0)) h'.objs.size its) (bs.map (·.2))) false its its).length = its.length := sortVals_length false rfl
  refine list_sort_vals (s := { s with heap := h'.push (seqObj "list" its.toArray 0) }) hat SA hL ⟨rfl, ?_⟩
  generalize sortVals (dataKind (sortingHeap (h'.push (seqObj "list" its.toArray 0)) h'.objs.size its) (bs.map (·.2))) false its its = out at od hln ⊢
  obtain ⟨e0, hat2⟩ := sortedHeap_at (h := h'.push (seqObj "list" its.toArray 0)) (out := out.toArray) hat
  refine ⟨.ref h'.objs.size, upd H h'.objs.size (.lst ((bs.mergeSort (dataLe false (·.2))).map (·.1))), I.laid (t' := s.toks) (fun b ob e => ?_) (by rw [hz]; exact Nat.le_succ _) ⟨?_, out, e0, each_vals od, hat2⟩, rfl, q _ hpn⟩
  · rw [sortedHeap_old (keep1 b ob e).1 (Heap.lt_size (keep1 b ob e).2)]
    exact (keep1 b ob e).2
  · rw [List.length_map]
    rw [← od.length, hln]; exact hL
/-! ### the order, as a plain function -/
mutual
def D.lt : D → D → Bool
  | .int i, .int j => decide (i < j)
  | .str x, .str y => decide (x.cps.toList < y.cps.toList)
  | .tup xs, .tup ys => D.lts xs ys
  | _, _ => false
def D.lts : List D → List D → Bool
  | [], [] => false
  | [], _ :: _ => true
  | _ :: _, [] => false
  | x :: xs, y :: ys => if D.eqv x y = true then D.lts xs ys else D.lt x y
end
/-! of one kind, place by place (whole numbers, texts, tuples) -/
mutual
def D.alk : D → D → Bool
  | .int _, .int _ => true
  | .str _, .str _ => true
  | .tup xs, .tup ys => D.alks xs ys
  | _, _ => false
def D.alks : List D → List D → Bool
  | x :: xs, y :: ys => D.alk x y && D.alks xs ys
  | _, _ => true
end
open PySem.W in
mutual
theorem alk_py : ∀ (a b : D), D.alk a b = true → alike a.py b.py = true
  | .int _, b, h => by cases b <;> simp [D.alk] at h; simp [D.py, alike]
  | .str _, b, h => by cases b <;> simp [D.alk] at h; simp [D.py, alike]
  | .tup xs, b, h => by
    cases b <;> simp [D.alk] at h
    simp only [D.py, alike]
    exact alks_py _ _ h
  | .non, b, h => by cases b <;> simp [D.alk] at h
  | .bl _, b, h => by cases b <;> simp [D.alk] at h
  | .new _, b, h => by cases b <;> simp [D.alk] at h
  | .scr _, b, h => by cases b <;> simp [D.alk] at h
  | .ref _, b, h => by cases b <;> simp [D.alk] at h
  | .exn _, b, h => by cases b <;> simp [D.alk] at h
  | .dic _ _, b, h => by cases b <;> simp [D.alk] at h
  | .rdc _, b, h => by cases b <;> simp [D.alk] at h
  | .obj _, b, h => by cases b <;> simp [D.alk] at h
  | .ktp _, b, h => by cases b <;> simp [D.alk] at h
theorem alks_py : ∀ (xs ys : List D), D.alks xs ys = true → alikeAll (D.pys xs) (D.pys ys) = true
  | [], _, _ => by simp [D.pys, alikeAll]
  | _ :: _, [], _ => by simp [D.pys, alikeAll]
  | x :: xs, y :: ys, h => by
    simp only [D.alks, Bool.and_eq_true] at h
    simp only [D.pys, alikeAll, Bool.and_eq_true]
    exact ⟨alk_py x y h.1, alks_py xs ys h.2⟩
end
open PySem.W in
mutual
theorem lt_py : ∀ (a b : D), a.dep < 100 → b.dep < 100 → D.alk a b = true → dataLt a.py b.py = D.lt a b
  | .int i, b, _, _, h => by cases b <;> simp [D.alk] at h; simp only [D.py, D.lt]; exact dataLt_int _ _
  | .str i, b, _, _, h => by cases b <;> simp [D.alk] at h; simp only [D.py, D.lt]; exact dataLt_str _ _
  | .tup xs, b, ha, hb, h => by
    cases b with
    | tup ys =>
      simp only [D.alk] at h
      simp only [D.py, D.lt]
      rw [dataLt_tuple]
      exact lts_py xs ys (by simp [D.dep] at ha; omega) (by simp [D.dep] at hb; omega) h
    | _ => simp [D.alk] at h
  | .non, b, _, _, h => by cases b <;> simp [D.alk] at h
  | .bl _, b, _, _, h => by cases b <;> simp [D.alk] at h
  | .new _, b, _, _, h => by cases b <;> simp [D.alk] at h
  | .scr _, b, _, _, h => by cases b <;> simp [D.alk] at h
  | .ref _, b, _, _, h => by cases b <;> simp [D.alk] at h
  | .exn _, b, _, _, h => by cases b <;> simp [D.alk] at h
  | .dic _ _, b, _, _, h => by cases b <;> simp [D.alk] at h
  | .rdc _, b, _, _, h => by cases b <;> simp [D.alk] at h
  | .obj _, b, _, _, h => by cases b <;> simp [D.alk] at h
  | .ktp _, b, _, _, h => by cases b <;> simp [D.alk] at h
theorem lts_py : ∀ (xs ys : List D), D.deps xs < 100 → D.deps ys < 100 → D.alks xs ys = true → PyProof.Rows.lexLt itemOrd (keyToksAll (D.pys xs)) (keyToksAll (D.pys ys)) = D.lts xs ys
  | [], [], _, _, _ => by
    simp only [D.pys, D.lts]
    exact (show PyProof.Rows.lexLt itemOrd (keyToksAll []) (keyToksAll []) = false by decide +kernel)
  | [], y :: ys, _, _, _ => by
    simp only [D.pys, D.lts]
    simp only [keyToksAll]
    exact (lex_atom (by simp) _ _).trans (by decide +kernel)
  | x :: xs, [], _, _, _ => by
    simp only [D.pys, D.lts]
    simp only [keyToksAll]
    exact (lex_atom (by simp) _ _).trans (by decide +kernel)
  | x :: xs, y :: ys, ha, hb, h => by
    simp only [D.alks, Bool.and_eq_true] at h
    simp only [D.deps] at ha hb
    simp only [D.pys, D.lts]
    have ha1 := alk_py x y h.1
    have e := py_eqv x y (by omega) (by omega)
    cases q : D.eqv x y with
    | true =>
      rw [dataLt_all_yes ha1 (e.trans q)]
      simp only [if_true]
      exact lts_py xs ys (by omega) (by omega) h.2
    | false =>
      rw [dataLt_all_no ha1 (e.trans q)]
      simp only [Bool.false_eq_true, if_false]
      exact lt_py x y (by omega) (by omega) h.1
end
def neTup : D → Bool
  | .tup (_ :: _) => true
  | _ => false
def noTup : D → Bool
  | .tup _ => false
  | .non => false
  | _ => true
/-- what can be sorted here -/
def srtOk (xs : List D) : Bool := xs.all (fun a => xs.all fun b => D.alk a b) && (xs.all neTup || xs.all noTup) && xs.all fun a => decide (a.dep ≤ 64)
def leD (a b : D) : Bool := !D.lt b a
def gSorted (as : List D) (S : Sto) : R (List D) := match as with
  | [d] => match seqOf S d with
    | some xs => if srtOk xs = true then .ok (xs.mergeSort leD) S else .bad
    | none => .bad
  | _ => .bad
theorem RepVs.mem {K : PySem.W.Frag} {H : Hp} {ρ : Rg} : ∀ {ds : List D} {vs : List V}, RepVs K H ρ ds vs → ∀ p ∈ vs.zip ds, RepV K H ρ p.2 p.1
  | [], _, r, p, hp => by unfold RepVs at r; subst r; simp at hp
  | d :: ds, vs, r, p, hp => by
    unfold RepVs at r
    obtain ⟨v, rr, rfl, q, t⟩ := r
    rw [List.zip_cons_cons] at hp
    rcases List.mem_cons.mp hp with rfl | hp
    · exact q
    · exact RepVs.mem t p hp
theorem RepVs.of_mem {K : PySem.W.Frag} {H : Hp} {ρ : Rg} : ∀ {zs : List (V × D)}, (∀ p ∈ zs, RepV K H ρ p.2 p.1) → RepVs K H ρ (zs.map (·.2)) (zs.map (·.1))
  | [], _ => RepVs.nil
  | z :: zs, h => RepVs.cons (h z (List.mem_cons_self ..)) (RepVs.of_mem fun p hp => h p (List.mem_cons_of_mem _ hp))
open PySem.W in
theorem n_sorted {K : PySem.W.Frag} {mg : Str → Option Value} : NpN K mg (rSortD K) gSorted := fun H ρ S as xs w Q s r c => by
  unfold gSorted at c
  split at c
  · rename_i d
    obtain ⟨v, rfl, rd⟩ := RepVs.one r
    cases e : seqOf S d with
    | none => rw [e] at c; exact c.elim
    | some ds =>
      rw [e] at c
      simp only at c
      by_cases ok : srtOk ds = true
      · rw [if_pos ok] at c
        obtain ⟨p, vs, rfl, h1, r1⟩ := seq_rep s rd e
        simp only [srtOk, Bool.and_eq_true, List.all_eq_true, Bool.or_eq_true, decide_eq_true_eq] at ok
        obtain ⟨⟨oa, ok⟩, od⟩ := ok
        have hlen := RepVs.length r1
        have hz1 : (vs.zip ds).map (·.1) = vs := List.map_fst_zip (by omega)
        have hz2 : (vs.zip ds).map (·.2) = ds := List.map_snd_zip (by omega)
        have hm2 : ∀ z ∈ vs.zip ds, z.2 ∈ ds := fun z hz => (List.of_mem_zip hz).2
        have ord : ∀ z ∈ vs.zip ds, ∀ z' ∈ vs.zip ds, dataLe false (fun b : V × PyData => b.2) (z.1, z.2.py) (z'.1, z'.2.py) = leD z.2 z'.2 := fun z hz z' hz' => by
          rw [dataLe_eq]
          simp only [cond_false]
          unfold leD
          rw [lt_py _ _ (by have := od _ (hm2 z' hz'); omega) (by have := od _ (hm2 z hz); omega) (oa _ (hm2 z' hz') _ (hm2 z hz))]
        refine ⟨p, (vs.zip ds).map fun z => (z.1, z.2.py), rfl, ?_, ?_, ?_, ?_, ?_, fun n hn => ?_⟩
        · rw [List.map_map]
          show SqL K H p ((vs.zip ds).map (·.1)) ∨ SqT K H p ((vs.zip ds).map (·.1))
          rw [hz1]; exact h1
        · intro b hb
          obtain ⟨z, hz, rfl⟩ := List.mem_map.mp hb
          exact dp_of _ _ (by have := od _ (hm2 z hz); omega) (RepVs.mem r1 z hz)
        · intro a ha b hb
          rw [List.map_map] at ha hb
          obtain ⟨z, hz, rfl⟩ := List.mem_map.mp ha
          obtain ⟨z', hz', rfl⟩ := List.mem_map.mp hb
          exact alk_py _ _ (oa _ (hm2 z hz) _ (hm2 z' hz'))
        · rcases ok with ok | ok
          · refine .inl fun a ha => ?_
            rw [List.map_map] at ha
            obtain ⟨z, hz, rfl⟩ := List.mem_map.mp ha
            have q := ok _ (hm2 z hz)
            show ∃ x r, D.py z.2 = PyData.tuple (x :: r)
            cases hd : z.2 with
            | tup xs =>
              rw [hd] at q
              cases xs with
              | nil => simp [neTup] at q
              | cons y ys => exact ⟨D.py y, D.pys ys, by simp [D.py, D.pys]⟩
            | _ => rw [hd] at q; simp [neTup] at q
          · refine .inr fun a ha => ?_
            rw [List.map_map] at ha
            obtain ⟨z, hz, rfl⟩ := List.mem_map.mp ha
            have q := ok _ (hm2 z hz)
            have al := oa _ (hm2 z hz) _ (hm2 z hz)
            show D.py z.2 ≠ PyData.none ∧ ∀ xs, D.py z.2 ≠ PyData.tuple xs
            cases hd : z.2 <;> rw [hd] at q al <;> simp [noTup, D.alk] at q al <;> simp [D.py]
        · intro b hb
          obtain ⟨z, hz, rfl⟩ := List.mem_map.mp hb
          have h1 := od _ (hm2 z hz)
          show (D.py z.2).depth ≤ 64
          rw [(py_shape z.2 (by omega)).2]; exact h1
        · have e1 : ((vs.zip ds).map fun z : V × D => (z.1, z.2.py)).mergeSort (dataLe false (fun b : V × PyData => b.2)) = ((vs.zip ds).mergeSort fun z z' => leD z.2 z'.2).map fun z : V × D => (z.1, z.2.py) :=
            (List.map_mergeSort fun z hz z' hz' => (ord z hz z' hz').symm).symm
          rw [e1, List.map_map]
          show Q (.ref n) (upd H n (.lst (((vs.zip ds).mergeSort fun z z' => leD z.2 z'.2).map (·.1))))
          refine c _ H ρ Ext.refl s ?_ n hn
          have e2 : ds.mergeSort leD = ((vs.zip ds).mergeSort fun z z' => leD z.2 z'.2).map (·.2) := by
            rw [List.map_mergeSort (s := leD) (fun z _ z' _ => rfl), hz2]
          rw [e2]
          exact RepVs.of_mem fun z hz => RepVs.mem r1 z ((List.mergeSort_perm _ _).mem_iff.mp hz)
      · rw [if_neg ok] at c; exact c.elim
  · exact c.elim
end J

namespace J
open PySem PySem.Spec PyProof.Rows L2

/-! ## methods of lists of the store -/
def onRef (S : Sto) (d : D) (f : Nat → List D → R D) : R D := match d with
  | .ref n => match S[n]? with
    | some (.lst xs) => f n xs
    | _ => .bad
  | _ => .bad
theorem onRef_ref {S : Sto} {n : Nat} {xs : List D} {f : Nat → List D → R D} (h : S[n]? = some (.lst xs)) : onRef S (.ref n) f = f n xs := by simp [onRef, h]
section
variable {K : PySem.W.Frag} {mg : Str → Option Value} {H : Hp} {ρ : Rg} {S : Sto} {d : D} {v : V} {w : XW} {Q : VK}
theorem onRef_rep (s : Sim K ρ S H) (r : RepV K H ρ d v) {f : Nat → List D → R D} (c : Post K mg (RepV K) w ρ H (onRef S d f) Q) :
    ∃ n a xs vs, d = .ref n ∧ v = .ref a ∧ ρ.st[n]? = some a ∧ S[n]? = some (.lst xs) ∧ H a = some (.lst vs) ∧ RepVs K H ρ xs vs ∧ Post K mg (RepV K) w ρ H (f n xs) Q := by
  unfold onRef at c
  cases d with
  | ref n =>
    unfold RepV at r
    obtain ⟨a, rfl, q, _⟩ := r
    cases e : S[n]? with
    | none => simp only [e] at c; exact c.elim
    | some o =>
      cases o with
      | dic _ _ => simp only [e] at c; exact c.elim
      | fdic _ _ => simp only [e] at c; exact c.elim
      | obj _ _ => simp only [e] at c; exact c.elim
      | lst xs =>
        simp only [e] at c
        obtain ⟨vs, h1, h2⟩ := s.lst q e
        exact ⟨n, a, xs, vs, rfl, rfl, q, e, h1, h2, c⟩
  | _ => exact c.elim
/-- behind a change of the store's list -/
theorem Post.retS {n : Nat} {a : Addr} {ds : List D} {vs : List V} {x : D} {u : V} (c : Post K mg (RepV K) w ρ H (.ok x (S.set n (.lst ds))) Q) (s : Sim K ρ S H) (q : ρ.st[n]? = some a) {us : List V} (h : H a = some (.lst us)) (r : RepVs K H ρ ds vs) (rx : RepV K H ρ x u) : Q u (upd H a (.lst vs)) :=
  c u _ ρ (Ext.set s q h) (s.set q h r) (RepV.ext (Ext.set s q h) _ _ rx)
end
def gAppend (d : D) (as : List D) (S : Sto) : R D := match as with
  | [y] => onRef S d fun n xs => if xs.length < sLim then .ok .non (S.set n (.lst (xs ++ [y]))) else .bad
  | _ => .bad
def gPop (d : D) (as : List D) (S : Sto) : R D := match as with
  | [] => onRef S d fun n xs => match xs[xs.length - 1]? with
    | some y => .ok y (S.set n (.lst xs.dropLast))
    | none => .bad
  | _ => .bad
theorem RepVs.dropLast {K : PySem.W.Frag} {H : Hp} {ρ : Rg} {ds : List D} {vs : List V} (r : RepVs K H ρ ds vs) : RepVs K H ρ ds.dropLast vs.dropLast := by
  rw [List.dropLast_eq_take, List.dropLast_eq_take, RepVs.length r]
  exact RepVs.take _ r
section
variable {K : PySem.W.Frag} {mg : Str → Option Value}
theorem m_append : OpM K mg rAppend gAppend := fun H ρ S a as x xs w Q s ra ras c => by
  unfold gAppend at c
  split at c
  · rename_i y
    obtain ⟨u, rfl, ry⟩ := RepVs.one ras
    obtain ⟨n, p, ds, vs, rfl, rfl, q, e, h1, r1, c⟩ := onRef_rep s ra c
    by_cases hl : ds.length < sLim
    · rw [if_pos hl] at c
      exact ⟨p, vs, u, rfl, rfl, h1, by rw [RepVs.length r1]; exact hl, c.retS s q h1 (RepVs.append r1 (RepVs.cons ry RepVs.nil)) (by unfold RepV; rfl)⟩
    · rw [if_neg hl] at c; exact c.elim
  · exact c.elim
theorem m_pop : OpM K mg rPop gPop := fun H ρ S a as x xs w Q s ra ras c => by
  unfold gPop at c
  split at c
  · obtain rfl := RepVs.nil_of ras
    obtain ⟨n, p, ds, vs, rfl, rfl, q, e, h1, r1, c⟩ := onRef_rep s ra c
    cases e2 : ds[ds.length - 1]? with
    | none => rw [e2] at c; exact c.elim
    | some y =>
      rw [e2] at c
      obtain ⟨u, h2, r2⟩ := RepVs.get r1 e2
      exact ⟨p, vs, u, rfl, rfl, h1, by rw [RepVs.length r1]; exact h2, c.retS s q h1 r1.dropLast r2⟩
  · exact c.elim
end
def isRef : D → Bool
  | .ref _ => true
  | .new _ => true
  | _ => false
def lstTy (d : D) (S : Sto) : R D := if isRef d then .ok d S else .bad
def eMethL (g : D → List D → Sto → R D) (o : CE) (a : CA) : CE := fun env S => (o env S).bind fun d S => (lstTy d S).bind fun d S => (a env S).bind fun xs S => g d xs S
theorem lst_ty {K : PySem.W.Frag} {H : Hp} {ρ : Rg} {S : Sto} {d : D} {v : V} (s : Sim K ρ S H) (r : RepV K H ρ d v) (h : isRef d = true) : tyV K "list" v H := by
  cases d with
  | ref n =>
    unfold RepV at r
    obtain ⟨a, rfl, q, us, hv⟩ := r
    exact .inl ⟨rfl, us, .inl (.inl hv)⟩
  | new xs =>
    unfold RepV at r
    obtain ⟨a, vs, rfl, q, _⟩ := r
    exact .inl ⟨rfl, vs, q.sq⟩
  | _ => cases h
section
variable {X : Cx} {W : WX} {o e : Expr} {es : List Expr} {fo : CE} {fa : CA} {name : Str} {apos cpos : Pos} {id : String} {r : V → List V → Hp → VK → Prop} {g : D → List D → Sto → R D}
theorem de_lm (pa : PlainAttrs "list") (slot : Slot "list" name id) (hty : typeOf (.builtin id) = pure (.type "method_descriptor")) (hm : MtR X id r) (om : OpM X.K X.mg r g) (ho : DE X W o fo) (ha : DA X W (e :: es) fa)
    (hbase : attributeBase o name X.env (eval o X.env) = eval o X.env := by rfl)
    (hfew : ((backTo cpos (starEach (e :: es) X.env)).all (fun x => !x.1) && (backToKw cpos (keywordEach [] X.env)).all (fun x => x.1.isSome)
      && decide ((e :: es).length + ([] : List Keyword).length + (if ([] : List Keyword).isEmpty then 0 else 1) < 30)) = true := by rfl)
    (hline : (apos.endLine == cpos.line) = true := by rfl) (hs : starEach (e :: es) X.env = (false, eval e X.env) :: starEach es X.env := by rfl) (hplain : (backTo cpos (starEach es X.env)).any (·.1) = false := by rfl) :
    DE X W (.Call (.Attribute o name apos) (e :: es) [] cpos) (eMethL g fo fa) :=
  DE.of (pe_bm pa slot hty hm ho ha hbase hfew hline hs hplain) fun σ H Q env ρ S a b c => by
    refine tG.of a b ((Post.bind (rep := RepV X.K) c).mono fun x H1 ⟨ρ1, S1, d1, x1, s1, r1, c1⟩ => ?_)
    unfold lstTy at c1
    by_cases hr : isRef d1 = true
    · rw [if_pos hr] at c1
      refine ⟨lst_ty s1 r1 hr, tG.of (a.ext x1) s1 ((Post.bind (rep := RepVs X.K) c1).mono fun y H2 ⟨ρ2, S2, d2, x2, s2, r2, c2⟩ => ?_)⟩
      exact om H2 ρ2 S2 d1 d2 x y _ Q s2 (RepV.ext x2 _ _ r1) r2 c2
    · rw [if_neg hr] at c1; exact c1.elim
theorem de_lm0 (pa : PlainAttrs "list") (slot : Slot "list" name id) (hty : typeOf (.builtin id) = pure (.type "method_descriptor")) (hm : MtR X id r) (om : OpM X.K X.mg r g) (ho : DE X W o fo)
    (hbase : attributeBase o name X.env (eval o X.env) = eval o X.env := by rfl) (hline : (apos.endLine == cpos.line) = true := by rfl) : DE X W (.Call (.Attribute o name apos) [] [] cpos) (eMethL g fo aNil) :=
  DE.of (pe_bm0 pa slot hty hm ho hbase hline) fun σ H Q env ρ S a b c => by
    refine tG.of a b ((Post.bind (rep := RepV X.K) c).mono fun x H1 ⟨ρ1, S1, d1, x1, s1, r1, c1⟩ => ?_)
    unfold lstTy at c1
    by_cases hr : isRef d1 = true
    · rw [if_pos hr] at c1
      exact ⟨lst_ty s1 r1 hr, om H1 ρ1 S1 d1 [] x [] _ Q s1 r1 RepVs.nil c1⟩
    · rw [if_neg hr] at c1; exact c1.elim
theorem de_append (ho : DE X W o fo) (ha : DA X W [e] fa) (hbase : attributeBase o "append" X.env (eval o X.env) = eval o X.env := by rfl)
    (hfew : ((backTo cpos (starEach [e] X.env)).all (fun x => !x.1) && (backToKw cpos (keywordEach [] X.env)).all (fun x => x.1.isSome)
      && decide (([e] : List Expr).length + ([] : List Keyword).length + (if ([] : List Keyword).isEmpty then 0 else 1) < 30)) = true := by rfl)
    (hline : (apos.endLine == cpos.line) = true := by rfl) (hs : starEach [e] X.env = (false, eval e X.env) :: starEach [] X.env := by rfl) (hplain : (backTo cpos (starEach [] X.env)).any (·.1) = false := by rfl) :
    DE X W (.Call (.Attribute o "append" apos) [e] [] cpos) (eMethL gAppend fo fa) := de_lm PySem.F.plainAttrs_list PySem.F.slot_list_append PySem.F.type_list_append mt_append m_append ho ha hbase hfew hline hs hplain
theorem de_pop0 (ho : DE X W o fo) (hbase : attributeBase o "pop" X.env (eval o X.env) = eval o X.env := by rfl) (hline : (apos.endLine == cpos.line) = true := by rfl) :
    DE X W (.Call (.Attribute o "pop" apos) [] [] cpos) (eMethL gPop fo aNil) := de_lm0 PySem.F.plainAttrs_list PySem.F.slot_list_pop PySem.F.type_list_pop mt_pop m_pop ho hbase hline
end

/-! ## xs[i] = v, xs[i] += v -/
def stItemD (n : Nat) (i v : D) (S : Sto) : R D := match S[n]? with
  | some (.dic ks vs) => if kOk ks i = true ∧ ks.length < sLim then .ok .non (S.set n (.dic (dKs ks i) (dVs ks vs i v))) else .bad
  | _ => .bad
def stItemL (o i v : D) (S : Sto) : R D := match i with
  | .int k => onRef S o fun n xs => match ixN xs.length k with
    | some j => .ok .non (S.set n (.lst (xs.set j v)))
    | none => .bad
  | _ => .bad
def stItem (o i v : D) (S : Sto) : R D := match o with
  | .rdc n => stItemD n i v S
  | o => stItemL o i v S
def sSetItem (fo fi fv : CE) : CS := fun env S => (fv env S).st env fun v S => (fo env S).st env fun o S => (fi env S).st env fun i S => (stItem o i v S).nox.st env fun _ S => .nx env S
def ldItemL (o i : D) (S : Sto) : R D := match i with
  | .int k => onRef S o fun _ xs => match atI xs k with
    | some d => .ok d S
    | none => .bad
  | _ => .bad
def ldItem (o i : D) (S : Sto) : R D := match o with
  | .rdc n => gIxD (.rdc n) i S
  | o => ldItemL o i S
def sAugItem (g : D → D → Sto → R D) (fo fi fv : CE) : CS := fun env S => (fo env S).st env fun o S => (fi env S).st env fun i S => (ldItem o i S).nox.st env fun x S => (fv env S).st env fun y S => (g x y S).nox.st env fun z S => (stItem o i z S).nox.st env fun _ S => .nx env S
section
variable {X : Cx} {W : WX}
theorem nox_cases {K : PySem.W.Frag} {mg : Str → Option Value} {ρ : Rg} {H : Hp} {α : Type} {r : R α} {env : Env} {f : α → Sto → RS} {Dn : Ends} (c : PostS K mg W ρ H (r.nox.st env f) Dn) : ∃ a S, r = .ok a S ∧ PostS K mg W ρ H (f a S) Dn := by
  cases r with
  | ok a S => exact ⟨a, S, rfl, c⟩
  | exc _ _ => exact c.elim
  | bad => exact c.elim
theorem stItemL_rep {K : PySem.W.Frag} {H : Hp} {ρ : Rg} {S S' : Sto} {o i v x : D} {ov iv vv : V} {Q : Hp → Prop} (s : Sim K ρ S H) (ro : RepV K H ρ o ov) (ri : RepV K H ρ i iv) (rv : RepV K H ρ v vv) (e : stItemL o i v S = .ok x S')
    (q : ∀ H', Ext K ρ H ρ H' → Sim K ρ S' H' → Q H') : rSetL ov iv vv H Q := by
  unfold stItemL at e
  cases i with
  | int k =>
    unfold RepV at ri
    subst ri
    simp only at e
    unfold onRef at e
    cases o with
    | ref n =>
      unfold RepV at ro
      obtain ⟨a, rfl, qa, _⟩ := ro
      simp only at e
      cases e1 : S[n]? with
      | none => rw [e1] at e; cases e
      | some ob =>
        cases ob with
        | dic _ _ => rw [e1] at e; cases e
        | fdic _ _ => rw [e1] at e; cases e
        | obj _ _ => rw [e1] at e; cases e
        | lst xs =>
          rw [e1] at e
          simp only at e
          obtain ⟨vs, h1, r1⟩ := s.lst qa e1
          cases e2 : ixN xs.length k with
          | none => rw [e2] at e; cases e
          | some j =>
            rw [e2] at e
            simp only [R.ok.injEq] at e
            obtain ⟨rfl, rfl⟩ := e
            exact ⟨a, vs, k, j, rfl, rfl, h1, by rw [RepVs.length r1]; exact e2, q _ (Ext.set s qa h1) (s.set qa h1 (RepVs.set j rv r1))⟩
    | _ => cases e
  | _ => cases e
def rSetA (K : PySem.W.Frag) : V → V → V → Hp → (Hp → Prop) → Prop := fun o i v H Q => rSetL o i v H Q ∨ rSetD K o i v H Q
theorem stItemD_rep {K : PySem.W.Frag} {H : Hp} {ρ : Rg} {S S' : Sto} {n : Nat} {i v x : D} {ov iv vv : V} {Q : Hp → Prop} (s : Sim K ρ S H) (ro : RepV K H ρ (.rdc n) ov) (ri : RepV K H ρ i iv) (rv : RepV K H ρ v vv) (e : stItemD n i v S = .ok x S')
    (q : ∀ H', Ext K ρ H ρ H' → Sim K ρ S' H' → Q H') : rSetD K ov iv vv H Q := by
  unfold stItemD at e
  unfold RepV at ro
  obtain ⟨a, rfl, qa, _⟩ := ro
  cases e1 : S[n]? with
  | none => rw [e1] at e; cases e
  | some ob =>
    cases ob with
    | lst _ => rw [e1] at e; cases e
    | fdic _ _ => rw [e1] at e; cases e
    | obj _ _ => rw [e1] at e; cases e
    | dic ks vs =>
      rw [e1] at e
      simp only at e
      by_cases hk : kOk ks i = true ∧ ks.length < sLim
      · rw [if_pos hk] at e
        simp only [R.ok.injEq] at e
        obtain ⟨rfl, rfl⟩ := e
        obtain ⟨es, ep, h1, rd, hz⟩ := s.at_ n a _ qa e1
        obtain ⟨nk, ek, ok⟩ := eok_of rd ri hk.1
        refine ⟨a, es, ep, nk, rfl, h1, ok, by rw [← rd.len.1]; exact hk.2, fun hN ep' => ?_⟩
        exact q _ (Ext.setD s qa hz h1) (s.setD qa hz h1 (put_rep hN rd ek ri rv))
      · rw [if_neg hk] at e; cases e
theorem stItem_rep {K : PySem.W.Frag} {H : Hp} {ρ : Rg} {S S' : Sto} {o i v x : D} {ov iv vv : V} {Q : Hp → Prop} (s : Sim K ρ S H) (ro : RepV K H ρ o ov) (ri : RepV K H ρ i iv) (rv : RepV K H ρ v vv) (e : stItem o i v S = .ok x S')
    (q : ∀ H', Ext K ρ H ρ H' → Sim K ρ S' H' → Q H') : rSetA K ov iv vv H Q := by
  unfold stItem at e
  cases o with
  | rdc n => exact .inr (stItemD_rep s ro ri rv e q)
  | _ => exact .inl (stItemL_rep s ro ri rv e q)
theorem set_any (hu : X.A.units + 9 < cLine) : PSet X (rSetA X.K) := by
  intro pins s σ H o i v ov iv u Q I ro ri rv h
  rcases h with h | h
  · exact set_list pins s σ H o i v ov iv u Q I ro ri rv h
  · exact set_dic hu pins s σ H o i v ov iv u Q I ro ri rv h
theorem u9 {k : Nat} (hr : Room k X.A) : X.A.units + 9 < cLine := by have := hr.units; omega
theorem ds_setItem {k : Nat} {o i e : Expr} {fo fi fe : CE} {pos p2 : Pos} (hr : Room k X.A) (ho : DE X W o fo) (hi : DE X W i fi) (he : DE X W e fe) (hs : swapsWithSole [.Subscript o i p2] e pos.line X.env = pure false := by rfl) (hw : swappedStores [.Subscript o i p2] e X.env = pure none := by rfl)
    (h1 : (assignEach [.Subscript o i p2] X.env).map (·.2) = [assign (.Subscript o i p2) X.env] := by rfl)
    (ha : ∀ v, assign (.Subscript o i p2) X.env v = (do
      let ov ← holding [v] (eval o X.env)
      let iv ← holding [v, ov] (eval i X.env)
      standAt p2
      holding [v, ov, iv] (setItem ov iv v)
      release [v, ov, iv] []) := by intro _; rfl) : DS X W (.Assign [.Subscript o i p2] e pos) (sSetItem fo fi fe) :=
  DS.of (ps_asg he (pg_sub ho hi (set_any (u9 hr)) ha) hs hw h1) fun Dn σ H env ρ S a b c => by
    refine tG.of a b ((PostS.st (rep := RepV X.K) a c).mono fun v H1 ⟨ρ1, S1, dv, x1, s1, r1, c1⟩ => ?_)
    refine tG.of (a.ext x1) s1 ((PostS.st (rep := RepV X.K) (a.ext x1) c1).mono fun ov H2 ⟨ρ2, S2, dO, x2, s2, r2, c2⟩ => ?_)
    refine tG.of ((a.ext x1).ext x2) s2 ((PostS.st (rep := RepV X.K) ((a.ext x1).ext x2) c2).mono fun iv H3 ⟨ρ3, S3, dI, x3, s3, r3, c3⟩ => ?_)
    obtain ⟨z, S4, e4, c4⟩ := nox_cases c3
    refine stItem_rep s3 (RepV.ext x3 _ _ r2) r3 (RepV.ext (x2.trans x3) _ _ r1) e4 fun H4 x4 s4 => ?_
    exact c4 σ H4 ρ3 x4 s4 ((((a.ext x1).ext x2).ext x3).ext x4)
theorem pget_list : PGet X (rIxL X.K) := by
  intro pins s σ H o i ov iv Q I ro ri h
  obtain ⟨p, xs, k, z, rfl, rfl, hq, he, q⟩ := h
  cases ro
  obtain ⟨t, rfl⟩ := ri
  obtain ⟨its, r, pl, hz⟩ := I.list hq
  obtain ⟨j, h1, h2, h3, h4, h5⟩ := atI_get he
  obtain ⟨w, ew, rw'⟩ := r.get h2
  have hl := r.length
  have hn := line63
  have fin : EP X pins σ Q w s := ⟨z, H, I, rw', q⟩
  by_cases h0 : 0 ≤ k
  · have hj : k.toNat = j := by
      rw [seqIndex_of h0 h5] at h1
      exact Option.some.inj h1
    exact wpAny_getItem_list pl.isList h0 (by omega) (by rw [hj]; simpa using ew) fin
  · have hj : (k + (its.toArray.size : Int)).toNat = j := by
      rw [seqIndex_neg (by omega) h4] at h1
      rw [List.size_toArray, ← hl]
      exact Option.some.inj h1
    exact wpAny_getItem_list_neg pl.isList (by omega) (by rw [List.size_toArray] <;> omega) (by omega) (by rw [hj]; simpa using ew) fin
theorem ldItemL_rep {K : PySem.W.Frag} {H : Hp} {ρ : Rg} {S S' : Sto} {o i x : D} {ov iv : V} {Q : VK} (s : Sim K ρ S H) (ro : RepV K H ρ o ov) (ri : RepV K H ρ i iv) (e : ldItemL o i S = .ok x S')
    (q : ∀ v, S' = S → RepV K H ρ x v → Q v H) : rIxL K ov iv H Q := by
  unfold ldItemL at e
  cases i with
  | int k =>
    unfold RepV at ri
    subst ri
    simp only at e
    unfold onRef at e
    cases o with
    | ref n =>
      unfold RepV at ro
      obtain ⟨a, rfl, qa, _⟩ := ro
      simp only at e
      cases e1 : S[n]? with
      | none => rw [e1] at e; cases e
      | some ob =>
        cases ob with
        | dic _ _ => rw [e1] at e; cases e
        | fdic _ _ => rw [e1] at e; cases e
        | obj _ _ => rw [e1] at e; cases e
        | lst xs =>
          rw [e1] at e
          simp only at e
          obtain ⟨vs, h1, r1⟩ := s.lst qa e1
          cases e2 : atI xs k with
          | none => rw [e2] at e; cases e
          | some d =>
            rw [e2] at e
            simp only [R.ok.injEq] at e
            obtain ⟨rfl, rfl⟩ := e
            obtain ⟨v, h2, r2⟩ := atI_rep r1 e2
            exact ⟨a, vs, k, v, rfl, rfl, .inl (.inl h1), h2, q v rfl r2⟩
    | _ => cases e
  | _ => cases e
def rLdA (K : PySem.W.Frag) : R2 := fun x y H Q => rIxL K x y H Q ∨ rIxD K x y H Q
theorem pget_any (hu : X.A.units + 9 < cLine) : PGet X (rLdA X.K) := by
  intro pins s σ H o i ov iv Q I ro ri h
  rcases h with h | h
  · exact pget_list pins s σ H o i ov iv Q I ro ri h
  · exact pget_dic hu pins s σ H o i ov iv Q I ro ri h
theorem gIxD_cases {a b d : D} {S S' : Sto} (h : gIxD a b S = .ok d S') : ∃ ks vs, dicOf S a = some (ks, vs) ∧ kOk ks b = true ∧ dGet ks vs b = some d ∧ S' = S := by
  unfold gIxD onKey at h
  cases e : dicOf S a with
  | none => rw [e] at h; cases h
  | some p =>
    obtain ⟨ks, vs⟩ := p
    rw [e] at h
    simp only at h
    by_cases hk : kOk ks b = true
    · rw [if_pos hk] at h
      cases g : dGet ks vs b with
      | none => rw [g] at h; cases h
      | some d' =>
        rw [g] at h
        simp only [R.ok.injEq] at h
        obtain ⟨rfl, rfl⟩ := h
        exact ⟨ks, vs, rfl, hk, g, rfl⟩
    · rw [if_neg hk] at h; cases h
theorem ldItem_rep {K : PySem.W.Frag} {H : Hp} {ρ : Rg} {S S' : Sto} {o i x : D} {ov iv : V} {Q : VK} (s : Sim K ρ S H) (ro : RepV K H ρ o ov) (ri : RepV K H ρ i iv) (e : ldItem o i S = .ok x S')
    (q : ∀ v, S' = S → RepV K H ρ x v → Q v H) : rLdA K ov iv H Q := by
  unfold ldItem at e
  cases o with
  | rdc n =>
    obtain ⟨ks, vs, e1, hk, e2, hS⟩ := gIxD_cases e
    obtain ⟨a, es, ep, rfl, h1, rd⟩ := dic_rep s ro e1
    obtain ⟨nk, ek, ok⟩ := eok_of rd ri hk
    obtain ⟨v, h3, h4⟩ := dGet_some rd ek e2
    exact .inr ⟨a, es, ep, nk, v, rfl, h1, ok, h3, q v hS h4⟩
  | _ => exact .inl (ldItemL_rep s ro ri e q)
/-- in-place operators by values -/
theorem ds_augItem {k : Nat} {o i e : Expr} {fo fi fe : CE} {pos tpos : Pos} {op : Operator} {r : TIp} {g : D → D → Sto → R D} (hr : Room k X.A) (hop : PIp X op r) (og : Op2 X.K X.mg r g) (ho : DE X W o fo) (hi : DE X W i fi) (he : DE X W e fe)
    (ha : ∀ ov iv new, augStore i ov iv new = (do holding [new, ov, iv] (setItem ov iv new); release [new, ov, iv] []; pure .next) := by intros; rfl) :
    DS X W (.AugAssign (.Subscript o i tpos) op e pos) (sAugItem g fo fi fe) :=
  DS.of (ps_augS ho hi (pget_any (u9 hr)) he hop (set_any (u9 hr)) ha) fun Dn σ H env ρ S a b c => by
    refine tG.of a b ((PostS.st (rep := RepV X.K) a c).mono fun ov H1 ⟨ρ1, S1, dO, x1, s1, r1, c1⟩ => ?_)
    refine tG.of (a.ext x1) s1 ((PostS.st (rep := RepV X.K) (a.ext x1) c1).mono fun iv H2 ⟨ρ2, S2, dI, x2, s2, r2, c2⟩ => ?_)
    obtain ⟨x, S3, e3, c3⟩ := nox_cases c2
    have ro := RepV.ext x2 _ _ r1
    refine ldItem_rep s2 ro r2 e3 fun xv hS rx => ?_
    subst hS
    refine tG.of ((a.ext x1).ext x2) s2 ((PostS.st (rep := RepV X.K) ((a.ext x1).ext x2) c3).mono fun yv H4 ⟨ρ4, S4, dY, x4, s4, r4, c4⟩ => ?_)
    obtain ⟨z, S5, e5, c5⟩ := nox_cases c4
    refine og H4 ρ4 S4 x dY xv yv (fun _ _ _ => False) _ s4 (RepV.ext x4 _ _ rx) r4 ?_
    rw [e5]
    intro zv H5 ρ5 x5 s5 r5
    obtain ⟨u, S6, e6, c6⟩ := nox_cases (PostS.ext x5 c5)
    refine stItem_rep s5 (RepV.ext (x4.trans x5) _ _ ro) (RepV.ext (x4.trans x5) _ _ r2) r5 e6 fun H6 x6 s6 => ?_
    exact c6 σ H6 ρ5 x6 s6 (((((a.ext x1).ext x2).ext x4).ext x5).ext x6)
/-! ### x op= e -/
def sAug (g : D → D → Sto → R D) (i : Nat) (fe : CE) : CS := fun env S => match env[i]? with
  | some (some x) => (fe env S).st env fun y S => (g x y S).nox.st env fun z S => .nx (env.set i (some z)) S
  | _ => .bad
theorem ds_aug {i : Nat} {x : Str} {e : Expr} {fe : CE} {op : Operator} {r : TIp} {g : D → D → Sto → R D} {pos pos' : Pos} (hN : X.N.Nodup) (hi : X.N[i]? = some x) (hx : Loc X.env.scope x) (hop : PIp X op r) (og : Op2 X.K X.mg r g) (he : DE X W e fe)
    (hf : X.fn x = true ∨ X.env.scope.names.lookup x = some .local := by first | exact .inl rfl | exact .inr rfl | assumption) : DS X W (.AugAssign (.Name x pos') op e pos) (sAug g i fe) :=
  DS.of (ps_aug hN hi hx he hop hf) fun Dn σ H env ρ S a b c => by
    unfold sAug at c
    cases q : env[i]? with
    | none => rw [q] at c; exact c.elim
    | some od =>
      cases od with
      | none => rw [q] at c; exact c.elim
      | some d =>
        rw [q] at c
        simp only at c
        obtain ⟨v, h1, h2⟩ := a.2 i d q
        refine ⟨v, h1, tG.of a b ((PostS.st (rep := RepV X.K) a c).mono fun y H1 ⟨ρ1, S1, dy, x1, s1, r1, c1⟩ => ?_)⟩
        obtain ⟨z, S2, e2, c2⟩ := nox_cases c1
        refine og H1 ρ1 S1 d dy v y (fun _ _ _ => False) _ s1 (RepV.ext x1 _ _ h2) r1 ?_
        rw [e2]
        intro zv H5 ρ5 x5 s5 r5
        exact c2 _ H5 ρ5 x5 s5 (((a.ext x1).ext x5).set r5)
theorem PIp.or {op : Operator} {r r' : TIp} (h : PIp X op r) (h' : PIp X op r') : PIp X op (fun x y H Q => r x y H Q ∨ r' x y H Q) := fun pins s σ H x y v u Q I rx ry q => by
  rcases q with q | q
  · exact h pins s σ H x y v u Q I rx ry q
  · exact h' pins s σ H x y v u Q I rx ry q
def rIAdd : TIp := fun x y H Q => rI0 (fun i j => .int (i + j)) x y H Q ∨ rExt2 x y H Q
theorem pip_add : PIp X .Add rIAdd := PIp.or iop_add iop_ext
theorem pip_sub : PIp X .Sub (rI0 fun i j => .int (i - j)) := iop_sub
def gIAdd (a b : D) (S : Sto) : R D := match a, b with
  | .int i, .int j => .ok (.int (i + j)) S
  | a, b => match lstOf S b with
    | some ys => onRef S a fun n xs => if xs.length + ys.length ≤ sLim then .ok (.ref n) (S.set n (.lst (xs ++ ys))) else .bad
    | none => .bad
theorem o_iadd {K : PySem.W.Frag} {mg : Str → Option Value} : Op2 K mg rIAdd gIAdd := fun H ρ S a b x y w Q s ra rb c => by
  unfold gIAdd at c
  split at c
  · unfold RepV at ra rb
    exact .inl ⟨_, _, ra, rb, c.ret s (by unfold RepV; rfl)⟩
  · cases e : lstOf S b with
    | none => rw [e] at c; exact c.elim
    | some ys =>
      rw [e] at c
      simp only at c
      have ra0 := ra
      obtain ⟨n, p, ds, vs, rfl, rfl, q, e1, h1, r1, c⟩ := onRef_rep s ra c
      obtain ⟨p2, us, rfl, h2, r2⟩ := lst_rep s rb e
      by_cases hl : ds.length + ys.length ≤ sLim
      · rw [if_pos hl] at c
        exact .inr ⟨p, p2, vs, us, rfl, rfl, h1, h2, by rw [RepVs.length r1, RepVs.length r2]; exact hl, c.retS s q h1 (RepVs.append r1 r2) ra0⟩
      · rw [if_neg hl] at c; exact c.elim
end
end J

namespace J
open PySem PySem.Spec PyProof.Rows L2

/-! ## what a def leaves behind: its own lists, out of the store -/
mutual
def D.und (m : Nat) : D → Bool
  | .tup xs => D.unds m xs
  | .new xs => D.unds m xs
  | .scr xs => D.unds m xs
  | .ktp xs => D.unds m xs
  | .ref n => decide (n < m)
  | .rdc n => decide (n < m)
  | .obj n => decide (n < m)
  | .dic ks vs => D.unds m ks && D.unds m vs
  | _ => true
def D.unds (m : Nat) : List D → Bool
  | [] => true
  | x :: xs => D.und m x && D.unds m xs
end
mutual
inductive Frz (S : Sto) (m : Nat) : D → D → Prop
  | non : Frz S m .non .non
  | bl (b : Bool) : Frz S m (.bl b) (.bl b)
  | int (i : Int) : Frz S m (.int i) (.int i)
  | str (x : Str) : Frz S m (.str x) (.str x)
  | tup {xs ys : List D} (h : Frzs S m xs ys) : Frz S m (.tup xs) (.tup ys)
  | new {xs ys : List D} (h : Frzs S m xs ys) : Frz S m (.new xs) (.new ys)
  | scr {xs ys : List D} (h : Frzs S m xs ys) : Frz S m (.scr xs) (.scr ys)
  | ktp {xs ys : List D} (h : Frzs S m xs ys) : Frz S m (.ktp xs) (.ktp ys)
  | exn (c : Str) : Frz S m (.exn c) (.exn c)
  | old {n : Nat} (h : n < m) : Frz S m (.ref n) (.ref n)
  | own {n : Nat} {xs ys : List D} (h : m ≤ n) (e : S[n]? = some (.lst xs)) (t : Frzs S m xs ys) : Frz S m (.ref n) (.new ys)
  | dic {ks ks' vs vs' : List D} (h : Frzs S m ks ks') (t : Frzs S m vs vs') : Frz S m (.dic ks vs) (.dic ks' vs')
  | oldD {n : Nat} (h : n < m) : Frz S m (.rdc n) (.rdc n)
  | ownD {n : Nat} {ks ks' vs vs' : List D} (h : m ≤ n) (e : S[n]? = some (.dic ks vs) ∨ S[n]? = some (.fdic ks vs)) (h1 : Frzs S m ks ks') (t : Frzs S m vs vs') : Frz S m (.rdc n) (.dic ks' vs')
  | oldO {n : Nat} (h : n < m) : Frz S m (.obj n) (.obj n)
inductive Frzs (S : Sto) (m : Nat) : List D → List D → Prop
  | nil : Frzs S m [] []
  | cons {x y : D} {xs ys : List D} (h : Frz S m x y) (t : Frzs S m xs ys) : Frzs S m (x :: xs) (y :: ys)
end
mutual
theorem Frz.det {S : Sto} {m : Nat} : ∀ {d a b : D}, Frz S m d a → Frz S m d b → a = b
  | _, _, _, .non, .non => rfl
  | _, _, _, .bl _, .bl _ => rfl
  | _, _, _, .int _, .int _ => rfl
  | _, _, _, .str _, .str _ => rfl
  | _, _, _, .exn _, .exn _ => rfl
  | _, _, _, .tup h, .tup k => by rw [Frzs.det h k]
  | _, _, _, .new h, .new k => by rw [Frzs.det h k]
  | _, _, _, .scr h, .scr k => by rw [Frzs.det h k]
  | _, _, _, .ktp h, .ktp k => by rw [Frzs.det h k]
  | _, _, _, .old h, .old k => rfl
  | _, _, _, .old h, .own k _ _ => absurd h (by omega)
  | _, _, _, .own h _ _, .old k => absurd h (by omega)
  | _, _, _, .own h e t, .own k e' t' => by
    rw [e] at e'
    cases e'
    rw [Frzs.det t t']
  | _, _, _, .dic h t, .dic h' t' => by rw [Frzs.det h h', Frzs.det t t']
  | _, _, _, .oldD h, .oldD k => rfl
  | _, _, _, .oldO h, .oldO k => rfl
  | _, _, _, .oldD h, .ownD k _ _ _ => absurd h (by omega)
  | _, _, _, .ownD h _ _ _, .oldD k => absurd h (by omega)
  | _, _, _, .ownD h e u t, .ownD k e' u' t' => by
    rcases e with e | e <;> rcases e' with e' | e' <;> (rw [e] at e'; cases e')
    · rw [Frzs.det u u', Frzs.det t t']
    · rw [Frzs.det u u', Frzs.det t t']
theorem Frzs.det {S : Sto} {m : Nat} : ∀ {d a b : List D}, Frzs S m d a → Frzs S m d b → a = b
  | _, _, _, .nil, .nil => rfl
  | _, _, _, .cons h t, .cons h' t' => by rw [Frz.det h h', Frzs.det t t']
end
mutual
theorem Frz.of_below {S : Sto} {m : Nat} : ∀ {d : D}, d.und m = true → Frz S m d d
  | .non, _ => .non
  | .bl b, _ => .bl b
  | .int i, _ => .int i
  | .str x, _ => .str x
  | .tup xs, h => .tup (Frzs.of_below (by simpa [D.und] using h))
  | .new xs, h => .new (Frzs.of_below (by simpa [D.und] using h))
  | .scr xs, h => .scr (Frzs.of_below (by simpa [D.und] using h))
  | .ktp xs, h => .ktp (Frzs.of_below (by simpa [D.und] using h))
  | .ref n, h => .old (by simpa [D.und] using h)
  | .exn c, _ => .exn c
  | .dic ks vs, h => by
    simp only [D.und, Bool.and_eq_true] at h
    exact .dic (Frzs.of_below h.1) (Frzs.of_below h.2)
  | .rdc n, h => .oldD (by simpa [D.und] using h)
  | .obj n, h => .oldO (by simpa [D.und] using h)
theorem Frzs.of_below {S : Sto} {m : Nat} : ∀ {d : List D}, D.unds m d = true → Frzs S m d d
  | [], _ => .nil
  | x :: xs, h => by
    simp [D.unds] at h
    exact .cons (Frz.of_below h.1) (Frzs.of_below h.2)
end
section
variable {K : PySem.W.Frag} {H : Hp} {ρ : Rg} {S : Sto} {m : Nat}
def Rg.cut (ρ : Rg) (m : Nat) : Rg := ⟨ρ.st.take m, ρ.hid, ρ.fz⟩
mutual
theorem Frz.nk : ∀ {d d' : D} {k : NestedKey}, Frz S m d d' → d.nk = some k → d'.nk = some k
  | _, _, _, .non, e => e
  | _, _, _, .bl _, e => e
  | _, _, _, .int _, e => e
  | _, _, _, .str _, e => e
  | _, _, _, .tup h, e => by
    simp only [D.nk, Option.map_eq_some_iff] at e ⊢
    obtain ⟨ks, e1, e2⟩ := e
    exact ⟨ks, Frzs.nks h e1, e2⟩
  | _, _, _, .new _, e => by simp [D.nk] at e
  | _, _, _, .scr _, e => by simp [D.nk] at e
  | _, _, _, .ktp _, e => by simp [D.nk] at e
  | _, _, _, .exn _, e => e
  | _, _, _, .old _, e => e
  | _, _, _, .own _ _ _, e => by simp [D.nk] at e
  | _, _, _, .dic _ _, e => by simp [D.nk] at e
  | _, _, _, .oldD _, e => e
  | _, _, _, .oldO _, e => e
  | _, _, _, .ownD _ _ _ _, e => by simp [D.nk] at e
theorem Frzs.nks : ∀ {d d' : List D} {k : List NestedKey}, Frzs S m d d' → D.nks d = some k → D.nks d' = some k
  | _, _, _, .nil, e => e
  | _, _, _, .cons h t, e => by
    obtain ⟨a, b, h1, h2, rfl⟩ := nks_cons e
    simp only [D.nks, Frz.nk h h1, Frzs.nks t h2]
end
theorem Rg.notin_cut {a : Addr} (h : ¬ ρ.In a) : ¬ (ρ.cut m).In a := fun z => h (z.elim (fun z => .inl (List.mem_of_mem_take z)) .inr)
theorem notin_cut_own (s : Sim K ρ S H) {n : Nat} {a : Addr} (h : m ≤ n) (e : ρ.st[n]? = some a) : ¬ (ρ.cut m).In a := by
  rintro (z | z)
  · obtain ⟨i, hi, ei⟩ := List.getElem_of_mem z
    have hi' : i < m := by
      simp [Rg.cut] at hi
      omega
    have hi2 : i < ρ.st.length := by
      simp [Rg.cut] at hi
      omega
    have e2 : ρ.st[i]? = some a := by
      rw [List.getElem?_eq_getElem hi2]
      simp [Rg.cut] at ei
      rw [ei]
    obtain ⟨hn, en⟩ := List.getElem?_eq_some_iff.mp e
    obtain ⟨hj, ej⟩ := List.getElem?_eq_some_iff.mp e2
    have := (List.getElem_inj s.nd).mp (ej.trans en.symm)
    omega
  · exact (s.hid a z).2 (List.mem_of_getElem? e)
mutual
theorem RepV.frz (s : Sim K ρ S H) : ∀ {d d' : D} {v : V}, Frz S m d d' → RepV K H ρ d v → RepV K H (ρ.cut m) d' v
  | _, _, v, .non, r => by unfold RepV at r ⊢; exact r
  | _, _, v, .bl _, r => by unfold RepV at r ⊢; exact r
  | _, _, v, .int _, r => by unfold RepV at r ⊢; exact r
  | _, _, v, .str _, r => by unfold RepV at r ⊢; exact r
  | _, _, v, .tup h, r => by
    unfold RepV at r ⊢
    obtain ⟨a, vs, e, q, t⟩ := r
    exact ⟨a, vs, e, q, RepVs.frz s h t⟩
  | _, _, v, .new h, r => by
    unfold RepV at r ⊢
    obtain ⟨a, vs, e, q, t⟩ := r
    exact ⟨a, vs, e, ⟨Rg.notin_cut q.1, q.2⟩, RepVs.frz s h t⟩
  | _, _, v, .scr h, r => by
    unfold RepV at r ⊢
    obtain ⟨a, vs, e, q, t⟩ := r
    exact ⟨a, vs, e, q.imp (fun q => ⟨Rg.notin_cut q.1, q.2⟩) id, RepVs.frz s h t⟩
  | _, _, v, .ktp h, r => by
    unfold RepV at r ⊢
    obtain ⟨a, vs, e, q, t⟩ := r
    exact ⟨a, vs, e, ⟨Rg.notin_cut q.1, q.2⟩, RepVs.frz s h t⟩
  | _, _, v, .exn c, r => by
    unfold RepV at r ⊢
    obtain ⟨a, d, e, n, q, t⟩ := r
    exact ⟨a, d, e, Rg.notin_cut n, q, fun dd ed => let ⟨n2, f⟩ := t dd ed; ⟨Rg.notin_cut n2, f⟩⟩
  | _, _, v, .old h, r => by
    unfold RepV at r ⊢
    obtain ⟨a, e, q, us, hu⟩ := r
    exact ⟨a, e, by simp [Rg.cut, List.getElem?_take, h, q], us, hu⟩
  | _, _, v, .own h e t, r => by
    unfold RepV at r ⊢
    obtain ⟨a, e1, q, _⟩ := r
    obtain ⟨vs, e2, r2⟩ := s.lst q e
    exact ⟨a, vs, e1, ⟨notin_cut_own s h q, e2⟩, RepVs.frz s t r2⟩
  | _, _, v, .dic h t, r => by
    unfold RepV at r ⊢
    obtain ⟨a, es, ep, e, ⟨n, q⟩, hk, r1, r2⟩ := r
    exact ⟨a, es, ep, e, ⟨Rg.notin_cut n, q⟩, Frzs.nks h hk, RepVs.frz s h r1, RepVs.frz s t r2⟩
  | _, _, v, .oldO h, r => by
    unfold RepV at r ⊢
    obtain ⟨a, e, q⟩ := r
    exact ⟨a, e, by simp [Rg.cut, List.getElem?_take, h, q]⟩
  | _, _, v, .oldD h, r => by
    unfold RepV at r ⊢
    obtain ⟨a, e, q, us, hu⟩ := r
    exact ⟨a, e, by simp [Rg.cut, List.getElem?_take, h, q], us, hu⟩
  | _, _, v, .ownD (n := n) (ks := ks) (vs := vs) h e h1 t, r => by
    unfold RepV at r ⊢
    obtain ⟨a, e1, q, _⟩ := r
    have : ∃ es ep, H a = some (DicT a es ep) ∧ RepD K H ρ ks vs es := by
      rcases e with e | e
      · obtain ⟨es, ep, hd, rd, _⟩ := s.at_ _ a _ q e
        exact ⟨es, ep, hd, rd⟩
      · obtain ⟨es, ep, hd, rd, _⟩ := s.at_ _ a _ q e
        exact ⟨es, ep, hd, rd⟩
    obtain ⟨es, ep, hd, hk, r1, r2⟩ := this
    exact ⟨a, es, ep, e1, ⟨notin_cut_own s h q, hd⟩, Frzs.nks h1 hk, RepVs.frz s h1 r1, RepVs.frz s t r2⟩
theorem RepVs.frz (s : Sim K ρ S H) : ∀ {d d' : List D} {v : List V}, Frzs S m d d' → RepVs K H ρ d v → RepVs K H (ρ.cut m) d' v
  | _, _, v, .nil, r => by unfold RepVs at r ⊢; exact r
  | _, _, v, .cons h t, r => by
    unfold RepVs at r ⊢
    obtain ⟨x, xs, e, q, z⟩ := r
    exact ⟨x, xs, e, RepV.frz s h q, RepVs.frz s t z⟩
end
mutual
theorem RepV.below : ∀ {d : D} {v : V}, RepV K H ρ d v → d.und ρ.st.length = true
  | .non, _, _ => rfl
  | .bl _, _, _ => rfl
  | .int _, _, _ => rfl
  | .str _, _, _ => rfl
  | .tup xs, v, r => by unfold RepV at r; obtain ⟨a, vs, _, _, t⟩ := r; simpa [D.und] using RepVs.below t
  | .new xs, v, r => by unfold RepV at r; obtain ⟨a, vs, _, _, t⟩ := r; simpa [D.und] using RepVs.below t
  | .scr xs, v, r => by unfold RepV at r; obtain ⟨a, vs, _, _, t⟩ := r; simpa [D.und] using RepVs.below t
  | .ktp xs, v, r => by unfold RepV at r; obtain ⟨a, vs, _, _, t⟩ := r; simpa [D.und] using RepVs.below t
  | .exn _, _, _ => rfl
  | .ref n, v, r => by
    unfold RepV at r
    obtain ⟨a, _, q, _⟩ := r
    have := (List.getElem?_eq_some_iff.mp q).1
    simpa [D.und] using this
  | .rdc n, v, r => by
    unfold RepV at r
    obtain ⟨a, _, q, _⟩ := r
    have := (List.getElem?_eq_some_iff.mp q).1
    simpa [D.und] using this
  | .obj n, v, r => by
    unfold RepV at r
    obtain ⟨a, _, q⟩ := r
    have := (List.getElem?_eq_some_iff.mp q).1
    simpa [D.und] using this
  | .dic ks vs, v, r => by
    unfold RepV at r
    obtain ⟨a, es, ep, _, _, _, r1, r2⟩ := r
    simp only [D.und, Bool.and_eq_true]
    exact ⟨RepVs.below r1, RepVs.below r2⟩
theorem RepVs.below : ∀ {d : List D} {v : List V}, RepVs K H ρ d v → D.unds ρ.st.length d = true
  | [], _, _ => rfl
  | x :: xs, v, r => by
    unfold RepVs at r
    obtain ⟨u, us, _, q, t⟩ := r
    simp [D.unds, RepV.below q, RepVs.below t]
end
end
def O.und (m : Nat) : O → Bool
  | .lst xs => D.unds m xs
  | .dic ks vs => D.unds m ks && D.unds m vs
  | .fdic ks vs => D.unds m ks && D.unds m vs
  | .obj _ fs => D.unds m (fs.map fun f => f.2)
/-- the store's things but those that a def made: they stay in what it gives back as lists that nobody changes -/
def GcOk (S : Sto) (d : D) (S' : Sto) (d' : D) : Prop := S.length ≤ S'.length ∧ Frz S' S.length d d' ∧ ∀ (i : Nat) (o : O), i < S.length → S'[i]? = some o → S[i]? = some o ∨ o.und S.length = true
open Classical in
noncomputable def gc (S : Sto) (r : R D) : R D := match r with
  | .ok d S' => if h : ∃ d', GcOk S d S' d' then .ok h.choose (S'.take S.length) else .ok d S'
  | r => r
theorem gc_ok {S S0 G : Sto} {d d' : D} (hl : S0.length = S.length) (hf : Frz (S0 ++ G) S.length d d') (ho : ∀ (i : Nat) (o : O), S0[i]? = some o → S[i]? = some o ∨ o.und S.length = true) : gc S (.ok d (S0 ++ G)) = .ok d' S0 := by
  have h : ∃ d', GcOk S d (S0 ++ G) d' := ⟨d', by simp [hl], hf, fun i o hi e => ho i o (by rwa [List.getElem?_append_left (by omega)] at e)⟩
  unfold gc
  simp only [h, dite_true]
  rw [Frz.det h.choose_spec.2.1 hf, ← hl, List.take_left]
theorem gc_pure {S G : Sto} {d d' : D} (hf : Frz (S ++ G) S.length d d') : gc S (.ok d (S ++ G)) = .ok d' S := gc_ok rfl hf fun i o e => .inl e
theorem gc_same {S : Sto} {d : D} (h : d.und S.length = true) : gc S (.ok d S) = .ok d S := by
  have := gc_pure (S := S) (G := []) (d := d) (Frz.of_below h)
  simpa using this
@[simp] theorem gc_bad {S : Sto} : gc S .bad = .bad := Eq.trans rfl rfl
@[simp] theorem gc_exc {S S' : Sto} {x : Exn} : gc S (.exc x S') = .exc x S' := Eq.trans rfl rfl
theorem ref_gc {np : Nat} {F : List D → Sto → R D} : Ref np F (fun ds S => gc S (F ds S)) := fun ds S hn K mg E ρ H Q sm _ c => by
  have c : Post K mg (RepV K) E ρ H (gc S (F ds S)) Q := c
  cases q : F ds S with
  | bad => rw [q] at c; exact c
  | exc x S' => rw [q] at c; exact c
  | ok d S' =>
    rw [q] at c
    unfold gc at c
    by_cases h : ∃ d', GcOk S d S' d'
    · simp only [h, dite_true] at c
      obtain ⟨hl, hf, ho⟩ := h.choose_spec
      intro v H' ρ' x s r
      obtain ⟨e, f, he, hn, hff⟩ := x.pre
      have hcut : ρ'.cut S.length = ⟨ρ.st, ρ.hid, ρ.fz ++ f⟩ := by
        rw [he, ← sm.len]
        simp [Rg.cut]
      have r' := RepV.frz (m := S.length) s hf r
      rw [hcut] at r'
      have hfz : ρ'.fz = ρ.fz ++ f := by rw [he]
      refine c v H' ⟨ρ.st, ρ.hid, ρ.fz ++ f⟩ ⟨⟨[], f, by simp, by simp, hff⟩, x.tup, x.old, x.trk, x.lst, x.dic⟩ ⟨?_, sm.nd, fun i a o ei eo => ?_, ?_, fun a ha => s.fz a (by rw [hfz]; exact ha)⟩ r'
      · rw [List.length_take, sm.len]; omega
      · have ei : ρ.st[i]? = some a := ei
        have hi : i < S.length := by rw [← sm.len]; exact (List.getElem?_eq_some_iff.mp ei).1
        rw [List.getElem?_take, if_pos hi] at eo
        have rO := s.at_ i a o (x.get ei) eo
        have ob : o.und S.length = true := by
          rcases ho i o hi eo with z | z
          · have r0 := sm.at_ i a o ei z
            cases o with
            | lst xs =>
              obtain ⟨vs, _, t⟩ := r0
              have := RepVs.below t
              rw [sm.len] at this
              exact this
            | dic ks vs =>
              obtain ⟨es, ep, _, rd, _⟩ := r0
              have h1 := RepVs.below rd.2.1
              have h2 := RepVs.below rd.2.2
              rw [sm.len] at h1 h2
              simp only [O.und, h1, h2, Bool.and_self]
            | fdic ks vs =>
              obtain ⟨es, ep, _, rd, _⟩ := r0
              have h1 := RepVs.below rd.2.1
              have h2 := RepVs.below rd.2.2
              rw [sm.len] at h1 h2
              simp only [O.und, h1, h2, Bool.and_self]
            | obj c fs =>
              obtain ⟨dx, us, _, _, t⟩ := r0
              have := RepVs.below t
              rw [sm.len] at this
              exact this
          · exact z
        have fr : ∀ {ks vs : List D} {es : List Ent}, (D.unds S.length ks && D.unds S.length vs) = true → RepD K H' ρ' ks vs es → RepD K H' ⟨ρ.st, ρ.hid, ρ.fz ++ f⟩ ks vs es := fun {ks vs es} hb rd => by
          rw [Bool.and_eq_true] at hb
          have t1 := RepVs.frz (m := S.length) s (Frzs.of_below hb.1) rd.2.1
          have t2 := RepVs.frz (m := S.length) s (Frzs.of_below hb.2) rd.2.2
          rw [hcut] at t1 t2
          exact ⟨rd.1, t1, t2⟩
        cases o with
        | lst xs =>
          obtain ⟨vs, e1, t⟩ := rO
          have t' := RepVs.frz (m := S.length) s (Frzs.of_below ob) t
          rw [hcut] at t'
          exact ⟨vs, e1, t'⟩
        | dic ks vs =>
          obtain ⟨es, ep, e1, rd, hz⟩ := rO
          exact ⟨es, ep, e1, fr ob rd, by rw [hfz] at hz; exact hz⟩
        | fdic ks vs =>
          obtain ⟨es, ep, e1, rd, hz⟩ := rO
          exact ⟨es, ep, e1, fr ob rd, by rw [hfz] at hz; exact hz⟩
        | obj c fs =>
          obtain ⟨dx, us, e1, e2, t⟩ := rO
          have t' := RepVs.frz (m := S.length) s (Frzs.of_below ob) t
          rw [hcut] at t'
          exact ⟨dx, us, e1, e2, t'⟩
      · intro a ha
        have hh := s.hid a (by rw [x.hid]; exact ha)
        refine ⟨hh.1, fun z => hh.2 ?_⟩
        rw [he]
        exact List.mem_append_left _ z
    · simp only [h, dite_false] at c
      exact c

def fnR (r : RS) : R D := match r with
  | .rt d S' => .ok d S'
  | .nx _ S' => .ok .non S'
  | .exc x _ S' => .exc x S'
  | _ => .bad
/-- a def's function: what it gives back, its own lists out of the store -/
noncomputable def fnC (np nn : Nat) (body : CS) : List D → Sto → R D := fun ds S => gc S (fnD np nn body ds S)

theorem fnD_at {np nn : Nat} {body : CS} {ds : List D} {S : Sto} {env : Env} (h : ds.length = np) (e : ds.map some ++ List.replicate (nn - np) none = env) : fnD np nn body ds S = fnR (body env S) := by
  unfold fnD
  rw [if_pos h, e]
  rfl
theorem fnC_at {np nn : Nat} {body : CS} {ds : List D} {S : Sto} {env : Env} (h : ds.length = np) (e : ds.map some ++ List.replicate (nn - np) none = env) : fnC np nn body ds S = gc S (fnR (body env S)) := by
  unfold fnC
  rw [fnD_at h e]

/-! ## a def that can be called by its name -/
def Cal (P : Program) (w : World) (K : PySem.W.Frag) (mg : Str → Option Value) (base : Heap) (k : Nat) (x : Str) (np : Nat) (F : List D → Sto → R D) : Prop :=
  ∃ f fd ps, FnOk P w K mg base (CX P w) k f fd ps (spD K mg np F) ∧ mg x = some (.ref f) ∧ PySem.W.keepIn K (.ref f) = true ∧ Binds K fd ps []
section
variable {X : Cx} {W : WX} {k kk : Nat} {np : Nat} {F : List D → Sto → R D} {x : Str} {p pos : Pos} {e : Expr} {es : List Expr} {fa : CA}
theorem de_cal (G : Cal X.prog X.w X.K X.mg X.base k x np F) (hr : Room kk X.A) (hk : k ≤ kk) (hg : Gl X x) (tk : Takes X W)
    (ha : DA X W (e :: es) fa) (hdb : (x == ("__debug__" : Str)) = false := by decide) (he : starEach (e :: es) X.env = (false, eval e X.env) :: starEach es X.env := by rfl) (hpl : (backTo pos (starEach es X.env)).any (·.1) = false := by rfl) :
    DE X W (.Call (.Name x p) (e :: es) [] pos) (eCall (fnG np F) fa) := by
  obtain ⟨f, fd, ps, G, hm, kp, hb⟩ := G
  exact de_call G (hr.mono hk) hg hm kp hb tk ha hdb he hpl
end
/-! ## rules with their operations -/
section
variable {X : Cx} {W : WX} {k : Nat} {a b c e : Expr} {fa fb fc : CE} {fs : CA} {p pos : Pos}
theorem c_eq (hr : Room k X.A) (ha : DE X W a fa) (hb : DE X W b fb) : DE X W (.Compare a [.Eq] [b] pos) (eOp gEq fa fb) := de_cmp (op_eqD hr.units) o_eq ha hb (nomark _)
theorem c_gt (ha : DE X W a fa) (hb : DE X W b fb) : DE X W (.Compare a [.Gt] [b] pos) (eOp gGt fa fb) := de_cmp op_gt o_gt ha hb (nomark _)
theorem t_eq (hr : Room k X.A) (ha : DE X W a fa) (hb : DE X W b fb) : DT X W (.Compare a [.Eq] [b] pos) (tBool (eOp gEq fa fb)) := dt_cmp (op_eqD hr.units) o_eq ha hb (nomark _)
theorem t_ne (hr : Room k X.A) (ha : DE X W a fa) (hb : DE X W b fb) : DT X W (.Compare a [.NotEq] [b] pos) (tBool (eOp gNe fa fb)) := dt_cmp (op_neD hr.units) o_ne ha hb (nomark _)
theorem t_lt (ha : DE X W a fa) (hb : DE X W b fb) : DT X W (.Compare a [.Lt] [b] pos) (tBool (eOp gLt fa fb)) := dt_cmp op_lt o_lt ha hb (nomark _)
theorem t_gt (ha : DE X W a fa) (hb : DE X W b fb) : DT X W (.Compare a [.Gt] [b] pos) (tBool (eOp gGt fa fb)) := dt_cmp op_gt o_gt ha hb (nomark _)
theorem t_ge (ha : DE X W a fa) (hb : DE X W b fb) : DT X W (.Compare a [.GtE] [b] pos) (tBool (eOp gGe fa fb)) := dt_cmp op_ge o_ge ha hb (nomark _)
theorem b_add (ha : DE X W a fa) (hb : DE X W b fb) : DE X W (.BinOp a .Add b pos) (eOp gAdd fa fb) := de_op op_addA o_add ha hb
theorem b_sub (ha : DE X W a fa) (hb : DE X W b fb) : DE X W (.BinOp a .Sub b pos) (eOp gSub fa fb) := de_op op_sub o_sub ha hb
theorem b_mul (ha : DE X W a fa) (hb : DE X W b fb) : DE X W (.BinOp a .Mult b pos) (eOp gMul fa fb) := de_op op_mulA o_mul ha hb
theorem b_mod (ha : DE X W a fa) (hb : DE X W b fb) : DE X W (.BinOp a .Mod b pos) (eOp gMod fa fb) := de_op op_mod o_mod ha hb
theorem b_pow (ha : DE X W a fa) (hb : DE X W b fb) : DE X W (.BinOp a .Pow b pos) (eOp gPow fa fb) := de_op op_pow o_pow ha hb
theorem u_neg (ha : DE X W a fa) : DE X W (.UnaryOp .USub a pos) (eUn gNeg fa) := de_un un_neg o_neg ha
theorem x_ix (hr : Room k X.A) (ha : DE X W a fa) (hb : DE X W b fb) (hs : PlainIx b) : DE X W (.Subscript a b pos) (eOp gIx fa fb) := de_ix (IxR.or ix_seq (ix_dic (u9 hr))) o_ix ha hb hs
theorem f_len (hg : Gl X "len") (hm : X.mg "len" = none) (ha : DA X W [e] fs) (he : starEach [e] X.env = (false, eval e X.env) :: starEach [] X.env := by rfl) (hpl : (backTo pos (starEach [] X.env)).any (·.1) = false := by rfl) : DE X W (.Call (.Name "len" p) [e] [] pos) (eCall gLen fs) :=
  de_tCB (pe_callB call_lenA hg hm boot_len ha (by decide) (by decide) he hpl) o_len
theorem f_sum (hc : X.calm = true) (hg : Gl X "sum") (hm : X.mg "sum" = none) (ha : DA X W [e] fs) (he : starEach [e] X.env = (false, eval e X.env) :: starEach [] X.env := by rfl) (hpl : (backTo pos (starEach [] X.env)).any (·.1) = false := by rfl) : DE X W (.Call (.Name "sum" p) [e] [] pos) (eCall gSum fs) :=
  de_tCB (pe_callB (CallR.or (cr_sum hc) (cr_sumT hc)) hg hm (by decide +kernel) ha (by decide) (by decide) he hpl) o_sum
theorem f_max (hc : X.calm = true) (hg : Gl X "max") (hm : X.mg "max" = none) (ha : DA X W [e] fs) (he : starEach [e] X.env = (false, eval e X.env) :: starEach [] X.env := by rfl) (hpl : (backTo pos (starEach [] X.env)).any (·.1) = false := by rfl) : DE X W (.Call (.Name "max" p) [e] [] pos) (eCall gMax fs) :=
  de_tCB (pe_callB (CallR.or (cr_max hc) (cr_maxT hc)) hg hm (by decide +kernel) ha (by decide) (by decide) he hpl) o_max
theorem f_any (hc : X.calm = true) (hg : Gl X "any") (hm : X.mg "any" = none) (ha : DA X W [e] fs) (he : starEach [e] X.env = (false, eval e X.env) :: starEach [] X.env := by rfl) (hpl : (backTo pos (starEach [] X.env)).any (·.1) = false := by rfl) : DE X W (.Call (.Name "any" p) [e] [] pos) (eCall gAny fs) :=
  de_tCB (pe_callB (CallR.or (cr_any hc) (cr_anyT hc)) hg hm (by decide +kernel) ha (by decide) (by decide) he hpl) o_any
theorem f_all (hc : X.calm = true) (hg : Gl X "all") (hm : X.mg "all" = none) (ha : DA X W [e] fs) (he : starEach [e] X.env = (false, eval e X.env) :: starEach [] X.env := by rfl) (hpl : (backTo pos (starEach [] X.env)).any (·.1) = false := by rfl) : DE X W (.Call (.Name "all" p) [e] [] pos) (eCall gAll fs) :=
  de_tCB (pe_callB (cr_all hc) hg hm (by decide +kernel) ha (by decide) (by decide) he hpl) o_all
theorem f_tuple (hg : Gl X "tuple") (hm : X.mg "tuple" = none) (ha : DA X W [e] fs) (he : starEach [e] X.env = (false, eval e X.env) :: starEach [] X.env := by rfl) (hpl : (backTo pos (starEach [] X.env)).any (·.1) = false := by rfl) : DE X W (.Call (.Name "tuple" p) [e] [] pos) (eCall gTuple fs) :=
  de_tCB (pe_callTy call_tuple_of hg hm (by decide +kernel) ha (by decide) (by decide) he hpl) o_tuple
theorem n_listD (hg : Gl X "list") (hm : X.mg "list" = none) (ha : DA X W [e] fs) (he : starEach [e] X.env = (false, eval e X.env) :: starEach [] X.env := by rfl) (hpl : (backTo pos (starEach [] X.env)).any (·.1) = false := by rfl) : DN X W (.Call (.Name "list" p) [e] [] pos) (aCall gList fs) :=
  dn_tCB (pe_callTy call_list_of hg hm (by decide +kernel) ha (by decide) (by decide) he hpl) n_list
theorem n_sortedD (hr : Room k X.A) (hg : Gl X "sorted") (hm : X.mg "sorted" = none) (ha : DA X W [e] fs) (he : starEach [e] X.env = (false, eval e X.env) :: starEach [] X.env := by rfl) (hpl : (backTo pos (starEach [] X.env)).any (·.1) = false := by rfl) : DN X W (.Call (.Name "sorted" p) [e] [] pos) (aCall gSorted fs) :=
  dn_tCB (pe_callB (cr_sortD (by have := hr.un; omega)) hg hm (by decide +kernel) ha (by decide) (by decide) he hpl) n_sorted
/-- a name of the top that is a whole number -/
theorem g_int {x : Str} {i : Int} (hg : Gl X x) (hm : ∃ t, X.mg x = some (.int i t)) (hd : (x == ("__debug__" : Str)) = false := by decide) : DE X W (.Name x pos) (eC (.int i)) := by
  obtain ⟨t, hm⟩ := hm
  exact de_c (pe_glob (v := .int i) hg hm ⟨t, rfl⟩ hd) fun _ _ => by unfold RepV; rfl
/-- [..] * n as a new list -/
def gMulN (xs : List D) (k : D) (S : Sto) : R (List D) := match k with
  | .int k => if -(2 ^ 63) ≤ k ∧ k < 2 ^ 63 ∧ xs.length * k.toNat ≤ sLim then .ok (List.replicate k.toNat xs).flatten S else .bad
  | _ => .bad
def aMul (f : CA) (g : CE) : CA := fun env S => (f env S).bind fun xs S => (g env S).bind fun k S => gMulN xs k S
end
end J

namespace J
open PySem PySem.Spec PyProof.Rows L2
/-! ## a, b = x, y -/
def sPar (i j : Nat) (f : CA) : CS := fun env S => (f env S).st env fun xs S => match xs with
  | [x, y] => .nx ((env.set i (some x)).set j (some y)) S
  | _ => .bad
def sPar3 (i j l : Nat) (f : CA) : CS := fun env S => (f env S).st env fun xs S => match xs with
  | [x, y, z] => .nx (((env.set i (some x)).set j (some y)).set l (some z)) S
  | _ => .bad
section
variable {X : Cx} {W : WX}
theorem ds_par {i j : Nat} {x y : Str} {a b : Expr} {fa : CA} {px py pt pos : Pos} {kt k2 pt2} (hc : X.calm = true) (hN : X.N.Nodup) (hi : X.N[i]? = some x) (hj : X.N[j]? = some y) (hij : i ≠ j)
    (hx : X.env.scope.names.lookup x = some .local) (hy : X.env.scope.names.lookup y = some .local) (ha : DA X W [a, b] fa)
    (hw : swappedStores [.Tuple [.Name x px, .Name y py] kt pt] (.Tuple [a, b] k2 pt2) X.env = pure (some [x, y]))
    (hs : swapsWithSole [.Tuple [.Name x px, .Name y py] kt pt] (.Tuple [a, b] k2 pt2) pos.line X.env = pure false := by rfl) :
    DS X W (.Assign [.Tuple [.Name x px, .Name y py] kt pt] (.Tuple [a, b] k2 pt2) pos) (sPar i j fa) :=
  DS.of (ps_par hc hN hi hj hij hx hy ha hw hs) fun Dn σ H env ρ S a b c => tG.of a b ((PostS.st (rep := RepVs X.K) a c).mono fun v H1 ⟨ρ1, S1, xs, x1, s1, r1, c1⟩ => by
    split at c1
    · obtain ⟨v1, v2, rfl, r2, r3⟩ := RepVs.two r1
      exact ⟨v1, v2, rfl, PostS.nxt c1 s1 (((a.ext x1).set r2).set r3)⟩
    · exact c1.elim)
theorem b_div {a b : Expr} {fa fb : CE} {pos : Pos} (ha : DE X W a fa) (hb : DE X W b fb) : DE X W (.BinOp a .FloorDiv b pos) (eOp gDiv fa fb) := de_op op_fdiv o_div ha hb
/-! ### comprehensions, their slots named -/
theorem dn_compW {ws : List Nat} {elt tg iter : Expr} {ifs : List Expr} {rest : List Comprehension} {scope : Scope} {own : List (Str × Nat)} {pos : Pos} {fi : CI} {g : CG} {ts : CT} {vs us : List Nat} {inner : CC} (hw : vs ++ us = ws)
    (hc : X.calm = true) (hN : X.N.Nodup) (ok : BlkOk X.N X.env.scope scope own) (hown : own.map (·.2) = vs ++ us) (hi : DI X W tg iter fi)
    (hg : ∀ (s : Shared) (H : Hp) (C : Addr) (cl : List (Str × Addr)) (fp : List Addr), DG (X.blk s H scope (compEnvC scope cl C X.env) fp) tg g vs) (ht : ∀ (s : Shared) (H : Hp) (C : Addr) (cl : List (Str × Addr)) (fp : List Addr), DTs (X.blk s H scope (compEnvC scope cl C X.env) fp) WF ifs ts)
    (hin : ∀ (s : Shared) (H : Hp) (C : Addr) (cl : List (Str × Addr)) (fp : List Addr) (Dd : Addr), InnerOk (X.blk s H scope (compEnvC scope cl C X.env) fp) Dd elt (⟨tg, iter, ifs, 0⟩ :: rest) scope pos 0 us inner) (hs : ∀ x, foldedSetIterable iter X.env x = pure x)
    (hs1 : ∀ g', rest[0]? = some g' → g'.is_async = 0 ∧ ∀ env x, foldedSetIterable g'.iter env x = pure x) :
    DN X W (.ListComp elt (⟨tg, iter, ifs, 0⟩ :: rest) scope pos) (aComp (cFor fi g ts ws inner)) := by
  subst hw
  exact dn_comp hc hN ok hown hi hg ht hin hs hs1
theorem inner_forW {B : Cx} {Dd : Addr} {elt : Expr} {gens : List Comprehension} {scope : Scope} {pos : Pos} {d : Nat} {ws : List Nat} {tg iter : Expr} {ifs : List Expr} {fi : CI} {g : CG} {ts : CT} {vs us : List Nat} {inner : CC} (hw : vs ++ us = ws) (hxe : ∀ e s, B.xe e s → False) (hc : B.calm = true)
    (hg : gens[d + 1]? = some ⟨tg, iter, ifs, 0⟩) (hs : ∀ g', gens[d + 1 + 1]? = some g' → g'.is_async = 0 ∧ ∀ x, foldedSetIterable g'.iter B.env x = pure x)
    (hi : DI B WF tg iter fi) (pg : DG B tg g vs) (pt : DTs B WF ifs ts) (hin : InnerOk B Dd elt gens scope pos (d + 1) us inner) : InnerOk B Dd elt gens scope pos d (vs ++ us) (cForI fi g ts ws inner) := by
  subst hw
  exact inner_for hxe hc hg hs hi pg pt hin
theorem ps_setCompW {ws : List Nat} {i : Nat} {y : Str} {py : Pos} {elt tg iter : Expr} {ifs : List Expr} {rest : List Comprehension} {scope : Scope} {own : List (Str × Nat)} {pos spos : Pos} {fi : CI} {g : CG} {ts : CT} {vs us : List Nat} {inner : CC} (hw : vs ++ us = ws)
    (hc : X.calm = true) (hN : X.N.Nodup) (hy : X.N[i]? = some y) (hyl : X.env.scope.names.lookup y = some .local)
    (hsw : swapsWith (.ListComp elt (⟨tg, iter, ifs, 0⟩ :: rest) scope pos) (some (.Name y py)) spos.line X.env = pure true) (ok : BlkOk X.N X.env.scope scope own) (hown : own.map (·.2) = vs ++ us) (hi : DI X W tg iter fi)
    (hg : ∀ (s : Shared) (H : Hp) (C : Addr) (cl : List (Str × Addr)) (fp : List Addr), DG (X.blk s H scope (compEnvC scope cl C X.env) fp) tg g vs) (ht : ∀ (s : Shared) (H : Hp) (C : Addr) (cl : List (Str × Addr)) (fp : List Addr), DTs (X.blk s H scope (compEnvC scope cl C X.env) fp) WF ifs ts)
    (hin : ∀ (s : Shared) (H : Hp) (C : Addr) (cl : List (Str × Addr)) (fp : List Addr) (Dd : Addr), InnerOk (X.blk s H scope (compEnvC scope cl C X.env) fp) Dd elt (⟨tg, iter, ifs, 0⟩ :: rest) scope pos 0 us inner) (hs : ∀ x, foldedSetIterable iter X.env x = pure x)
    (hs1 : ∀ g', rest[0]? = some g' → g'.is_async = 0 ∧ ∀ env x, foldedSetIterable g'.iter env x = pure x) :
    PS X (.Assign [.Name y py] (.ListComp elt (⟨tg, iter, ifs, 0⟩ :: rest) scope pos) spos) (tAsg (tN X.K X.mg W (aComp (cFor fi g ts ws inner))) (L2.gName i)) := by
  subst hw
  exact ps_setComp hc hN hy hyl hsw ok hown hi hg ht hin hs hs1
end
end J

namespace J
open PySem PySem.Spec PyProof.Rows L2
/-! ## the end of a law -/
theorem cx_end {P : Program} {w : World} {H : Hp} {s : Shared} {e : Value} {s' : Shared} (h : CX P w [] H s (fun _ _ _ => False) e s') : False := by
  obtain ⟨_, _, _, _, _, _, _, _, _, _, _, _, z⟩ := h
  exact z
theorem walk_J {l : PySem.W.OpenLaw} {n k : Nat} {q : Program} {loose : List Str} {XP : (Str → Option Value) → Heap → Prop} {YP : World → Heap → Prop} {d : DefRec} {x : Str}
    (hn : l.most = some n) (hn2 : n ≤ sizeLine) (hdf : d.params.defaults = []) (hr : Room k callerA)
    (F : ∀ (w : World) (mg : Str → Option Value) (fa : Addr) (h : Heap), YP w h → h.Ns mainGlobals mg → mg d.name = some (.ref fa) →
      ∃ (K : PySem.W.Frag) (fd : FuncData) (sp : Sp), K.In h ∧ (∀ (s : Shared) (u : Value), BindsTo s fd ⟨[u], []⟩ [(x, u)]) ∧
        (∀ (H : Hp) (a : Addr) (ns : List Int), ns.length ≤ n → L2.Only H → SqL K H a (ns.map V.int) → sp [.ref a] H (fun v _ => v = .bl true) fun _ _ _ => False) ∧
        ∀ base : Heap, K.In base → base.Ns mainGlobals mg → FnOk l.prog w K mg base (CX l.prog w) k fa fd [x] sp) :
    PySem.W.WalkO q loose XP YP l.row.toRowW d [] (fun f vs => PySem.call f vs) := by
  refine Att.attach_call hn hdf fun w s₀ s₁ mg mb fa o pm cd doc a vs ns G Y ho hd hcd hmg hobj hints hlen hg => ?_
  obtain ⟨K, fd, sp, KX, hb, hsp, hF⟩ := F w mg fa _ Y G.T.g hmg
  exact law_call KX G.T.g G.T.b G.T.builtins G.T.nolimit hg hobj hints (Nat.le_trans hlen hn2) hr hF hb (fun H hO hS => hsp H a ns hlen hO hS) fun H e s' => cx_end
theorem law_end {K : PySem.W.Frag} {mg : Str → Option Value} {G : List D → Sto → R D} (h : ∀ ns : List Int, ns.length ≤ 63 → ∃ S, G [.scr (ns.map .int)] [] = .ok (.bl true) S)
    (H : Hp) (a : Addr) (ns : List Int) (hl : ns.length ≤ 63) (ho : L2.Only H) (hs : SqL K H a (ns.map V.int)) : spD K mg 1 G [.ref a] H (fun v _ => v = .bl true) fun _ _ _ => False := by
  obtain ⟨S, e⟩ := h ns hl
  refine ⟨[.scr (ns.map .int)], ⟨[], [], []⟩, [], ?_, { len := rfl, nd := List.nodup_nil, at_ := fun i a o e _ => (nomatch e), hid := fun a ha => (nomatch ha), fz := fun a ha => (nomatch ha) }, ?_⟩
  · refine RepVs.cons ?_ RepVs.nil
    unfold RepV
    refine ⟨a, ns.map V.int, rfl, ?_, RepVs.all_ints ns⟩
    rcases hs with z | z
    · rcases z with z | ⟨o, z⟩
      · rcases ho a with y | ⟨o, xs, y⟩
        · rw [z] at y; cases y
        · rw [z] at y; cases y
      · exact .inl ⟨fun y => y.elim (fun y => (nomatch y)) (fun y => (nomatch y)), o, z⟩
    · exact .inr z
  · have e' : fnG 1 G [.scr (ns.map .int)] [] = .ok (.bl true) S := by
      unfold fnG
      simpa using e
    rw [e']
    intro v H' ρ' _ _ r
    unfold RepV at r
    exact r
end J

namespace J
open PySem PySem.Spec PyProof.Rows L2
/-! ## calls with keywords -/
def pickL {α : Type} (ix : List Nat) (xs : List α) : List α := ix.filterMap fun i => xs[i]?
theorem vals_pick {xs : List V} {us : List Value} (r : Vals xs us) : ∀ ix : List Nat, Vals (pickL ix xs) (pickL ix us)
  | [] => .nil
  | i :: ix => by
    unfold pickL
    cases q : xs[i]? with
    | none =>
      have q2 := Vals.none_of r q
      rw [List.filterMap_cons_none q, List.filterMap_cons_none q2]
      exact vals_pick r ix
    | some x =>
      obtain ⟨u, q2, ru⟩ := Vals.get r q
      rw [List.filterMap_cons_some q, List.filterMap_cons_some q2]
      exact .cons ru (vals_pick r ix)
theorem RepVs.pick {K : PySem.W.Frag} {H : Hp} {ρ : Rg} {ds : List D} {vs : List V} (r : RepVs K H ρ ds vs) : ∀ ix : List Nat, RepVs K H ρ (pickL ix ds) (pickL ix vs)
  | [] => RepVs.nil
  | i :: ix => by
    unfold pickL
    cases q : ds[i]? with
    | none =>
      have q2 : vs[i]? = none := by
        rw [List.getElem?_eq_none_iff, RepVs.length r]
        exact List.getElem?_eq_none_iff.mp q
      rw [List.filterMap_cons_none q, List.filterMap_cons_none q2]
      exact RepVs.pick r ix
    | some d =>
      obtain ⟨v, q2, rv⟩ := RepVs.get r q
      rw [List.filterMap_cons_some q, List.filterMap_cons_some q2]
      exact RepVs.cons rv (RepVs.pick r ix)
section
variable {K : PySem.W.Frag} {x qual : Str} {params : Arguments} {body : List Stmt} {scope : Scope} {kws : List (Str × V)} {f : Addr} {fd : FuncData} {ps : List Str}
/-- every parameter is written -/
theorem kbn_all (F : FunD K x qual params body scope [] kws f fd) (n : Nat) (ks : List Str) (ix : List Nat)
    (h : ∀ (kV doc pm : Value) (an : Option Addr) (cdv ct : Value) (us ws : List Value), us.length = n → ws.length = ks.length → bindArgs (PySem.W.fnOf x qual params body scope .none kV doc pm an cdv ct) ⟨us, ks.zip ws⟩ = pure (ps.zip (pickL ix (us ++ ws)))) :
    KBn K fd ps n ks (fun us ws => pickL ix (us ++ ws)) (fun vs zs => pickL ix (vs ++ zs)) := by
  obtain ⟨oc, od, dV, kV, doc, pm, an, cdv, ct, osl, rfl, lk, hcd, hD, hK⟩ := F.ex
  rcases hD with ⟨_, rfl⟩ | ⟨e, _⟩
  · exact ⟨fun s us ws X l1 l2 => .of_eq (h kV doc pm an cdv ct us ws l1 l2), fun r1 r2 => vals_pick (r1.append r2) ix⟩
  · exact absurd rfl e
/-- some keyword-only defaults fill up -/
theorem kbn_dfl (F : FunD K x qual params body scope [] kws f fd) (n : Nat) (ks : List Str) (ix : List Nat) (ms : List (Str × V)) (hk : kws ≠ []) (hms : ∀ q ∈ ms, q ∈ kws)
    (h : ∀ (D : Addr) (doc pm : Value) (an : Option Addr) (cdv ct : Value) (us ws mv : List Value), us.length = n → ws.length = ks.length → mv.length = ms.length →
      KwChain D ((ms.map (·.1)).zip mv) (bindArgs (PySem.W.fnOf x qual params body scope .none (.ref D) doc pm an cdv ct) ⟨us, ks.zip ws⟩) (ps.zip (pickL ix ((us ++ ws) ++ mv)))) :
    ∃ mv : List Value, KBn K fd ps n ks (fun us ws => pickL ix ((us ++ ws) ++ mv)) (fun vs zs => pickL ix ((vs ++ zs) ++ ms.map (·.2))) := by
  obtain ⟨oc, od, dV, kV, doc, pm, an, cdv, ct, osl, rfl, lk, hcd, hD, hK⟩ := F.ex
  rcases hD with ⟨_, rfl⟩ | ⟨e, _⟩
  · rcases hK with e | ⟨Da, rfl, hq⟩
    · exact absurd e hk
    · obtain ⟨mv, hl, rk, hks⟩ := kwd_vals (ms := ms) fun q hm => hq q (hms q hm)
      refine ⟨mv, ⟨fun s us ws X l1 l2 => ?_, fun r1 r2 => vals_pick ((r1.append r2).append rk) ix⟩⟩
      exact BindsTo.of_looks fun M => KwChain.looks X hks (h Da doc pm an cdv ct us ws mv l1 l2 hl)
  · exact absurd rfl e
end
/-- a def that can be called so: n values, keywords ks; gD puts them in the parameters' order -/
def CalK (P : Program) (w : World) (K : PySem.W.Frag) (mg : Str → Option Value) (base : Heap) (k : Nat) (x : Str) (np : Nat) (F : List D → Sto → R D) (n : Nat) (ks : List Str) (gD : List D → List D → List D) : Prop :=
  ∃ f fd ps g gV, FnOk P w K mg base (CX P w) k f fd ps (spD K mg np F) ∧ mg x = some (.ref f) ∧ PySem.W.keepIn K (.ref f) = true ∧ KBn K fd ps n ks g gV ∧
    ∀ (H : Hp) (ρ : Rg) (ds es : List D) (vs zs : List V), RepVs K H ρ ds vs → RepVs K H ρ es zs → RepVs K H ρ (gD ds es) (gV vs zs)
def DK (X : Cx) (W : WX) (kws : List Keyword) (f : CA) : Prop := PK X kws (tG X.K X.mg (RepVs X.K) W f)
theorem PK.mono {X : Cx} {es : List Keyword} {t t' : TA} (h : PK X es t) (q : ∀ σ H Q, t' σ H Q → t σ H Q) : PK X es t' := ⟨fun pos pins s σ H Q I h' => h.run pos pins s σ H Q I (q σ H Q h')⟩
def eCallK (n m : Nat) (F : List D → Sto → R D) (gD : List D → List D → List D) (fa fk : CA) : CE := fun env S => (fa env S).bind fun ds S => (fk env S).bind fun es S => if ds.length = n ∧ es.length = m then F (gD ds es) S else .bad
def tCallNS (n m : Nat) (sp : Sp) (gV : List V → List V → List V) (E : L2.St → XK) (t tk : TA) : TE := fun σ H Q => t σ H fun vs H1 => tk σ H1 fun zs H2 => vs.length = n ∧ zs.length = m ∧ sp (gV vs zs) H2 Q (E σ)
section
variable {X : Cx} {W : WX} {k kk n np : Nat} {f : Addr} {fd : FuncData} {ps ks : List Str} {x : Str} {p pos kpos : Pos} {e : Expr} {es : List Expr} {kws : List Keyword} {nm : Option Str} {fe : CE} {fa fk : CA}
theorem dk_nil : DK X W [] aNil := PK.mono pk_nil fun σ H Q ⟨env, ρ, S, a, b, c⟩ => c.ret b RepVs.nil
theorem dk_cons (ha : DE X W e fe) (hr : DK X W kws fk) : DK X W (⟨nm, e, kpos⟩ :: kws) (aCons fe fk) :=
  PK.mono (pk_cons ha hr) fun σ H Q ⟨env, ρ, S, a, b, c⟩ => by
    refine tG.of a b ((Post.bind (rep := RepV X.K) c).mono fun x H1 ⟨ρ1, S1, d1, x1, s1, r1, c1⟩ => ?_)
    refine tG.of (a.ext x1) s1 ((Post.bind (rep := RepVs X.K) c1).mono fun y H2 ⟨ρ2, S2, d2, x2, s2, r2, c2⟩ => ?_)
    exact c2.ret s2 (RepVs.cons (RepV.ext x2 _ _ r1) r2)
theorem run_fnNS {sp : Sp} {E : L2.St → XK} {g : List Value → List Value → List Value} {gV : List V → List V → List V} {pins : List (Addr × Obj)} {σ : L2.St} {H : Hp} {s : Shared} {Q : VK} {us ws : List Value} {vs zs : List V} (F : FnOk X.prog X.w X.K X.mg X.base (CX X.prog X.w) k f fd ps sp) (hr : Room k X.A) (hb : KBn X.K fd ps n ks g gV) (hx : PassesAt (CX X.prog X.w) X σ (E σ))
    (I : Inv X pins σ H s) (r : Vals vs us) (rz : Vals zs ws) (l1 : vs.length = n) (l2 : zs.length = ks.length) (h : sp (gV vs zs) H Q (E σ)) : wpAny (model X.prog X.w) X.A (call (.ref f) us (ks.zip ws)) (EP X pins σ Q) X.xe s := by
  refine wpAny_call (codeAny_mono (F.run X.A X.stack s H ⟨us, ks.zip ws⟩ (g us ws) (gV vs zs) Q (E σ) hr I.env0 (hb.to s us ws I.kIn (r.length.symm.trans l1) (rz.length.symm.trans l2)) (hb.rel r rz) h) fun r s' hq => ?_)
  cases r with
  | error e => exact hx pins H s e s' I hq
  | ok fl =>
    cases fl with
    | ret u => exact I.after hq
    | next => exact False.elim hq
    | brk => exact False.elim hq
    | cont => exact False.elim hq
theorem pe_callNS {sp : Sp} {E : L2.St → XK} {g : List Value → List Value → List Value} {gV : List V → List V → List V} {t tk : TA} (F : FnOk X.prog X.w X.K X.mg X.base (CX X.prog X.w) k f fd ps sp) (hr : Room k X.A) (hg : Gl X x) (hm : X.mg x = some (.ref f)) (hk : PySem.W.keepIn X.K (.ref f) = true) (hb : KBn X.K fd ps n ks g gV) (hx : ∀ σ, PassesAt (CX X.prog X.w) X σ (E σ))
    (ha : PA X (e :: es) t) (hkw : PK X kws tk) (hall : (backToKw pos (keywordEach kws X.env)).all (·.1.isSome) = true) (hks : (backToKw pos (keywordEach kws X.env)).filterMap (·.1) = ks)
    (hdb : (x == ("__debug__" : Str)) = false) (he : starEach (e :: es) X.env = (false, eval e X.env) :: starEach es X.env)
    (hpl : ((backTo pos (starEach (e :: es) X.env)).any (·.1) || (backToKw pos (keywordEach kws X.env)).any (·.1.isNone)) = false) :
    PE X (.Call (.Name x p) (e :: es) kws pos) (tCallNS n ks.length sp gV E t tk) := by
  refine ⟨fun pins s σ H Q I h => ?_⟩
  refine wpAny_Call_Name_kw (ld_glob I hg hm ?_ hdb)
  refine PySem.W.callWith_KW (h₀ := X.base) I.ok.mod.kin hk hall (thn (ha.run pos pins s σ H _ I h) fun us s1 ⟨vs, H1, I1, r, q⟩ => ?_) hpl he
  refine thn (hkw.run pos pins s1 σ H1 _ I1 q) fun ws s2 ⟨zs, H2, I2, rz, l1, l2, q2⟩ => ⟨I2.kIn, ?_⟩
  rw [hks]
  exact run_fnNS F hr hb (hx σ) I2 r rz l1 l2 q2
theorem de_calK {F : List D → Sto → R D} {gD : List D → List D → List D} {m : Nat} (G : CalK X.prog X.w X.K X.mg X.base k x np F n ks gD) (hr : Room kk X.A) (hkk : k ≤ kk) (hg : Gl X x) (tk : Takes X W) (hm : ks.length = m)
    (ha : DA X W (e :: es) fa) (hkw : DK X W kws fk) (hall : (backToKw pos (keywordEach kws X.env)).all (·.1.isSome) = true := by rfl) (hks : (backToKw pos (keywordEach kws X.env)).filterMap (·.1) = ks := by rfl)
    (hdb : (x == ("__debug__" : Str)) = false := by decide) (he : starEach (e :: es) X.env = (false, eval e X.env) :: starEach es X.env := by rfl)
    (hpl : ((backTo pos (starEach (e :: es) X.env)).any (·.1) || (backToKw pos (keywordEach kws X.env)).any (·.1.isNone)) = false := by rfl) :
    DE X W (.Call (.Name x p) (e :: es) kws pos) (eCallK n m (fnG np F) gD fa fk) := by
  obtain ⟨f, fd, ps, g, gV, Fo, hmg, kp, hb, hrep⟩ := G
  subst hm
  refine DE.of (pe_callNS (E := WE W) Fo (hr.mono hkk) hg hmg kp hb (passAt tk) ha hkw hall hks hdb he hpl) fun σ H Q env ρ S a b c => ?_
  refine tG.of a b ((Post.bind (rep := RepVs X.K) c).mono fun vs H1 ⟨ρ1, S1, ds, x1, s1, r1, c1⟩ => ?_)
  refine tG.of (a.ext x1) s1 ((Post.bind (rep := RepVs X.K) c1).mono fun zs H2 ⟨ρ2, S2, es', x2, s2, r2, c2⟩ => ?_)
  have r1' := RepVs.ext x2 _ _ r1
  split at c2
  · rename_i hl
    refine ⟨by rw [RepVs.length r1']; exact hl.1, by rw [RepVs.length r2]; exact hl.2, gD ds es', ρ2, S2, hrep _ _ _ _ _ _ r1' r2, s2, ?_⟩
    exact c2
  · exact c2.elim
end
/-! ## max, min of two -/
def two (ds : List D) (f : Int → Int → R D) : R D := match ds with | [.int i, .int j] => f i j | _ => .bad
section
variable {X : Cx} {W : WX} {k : Nat} {a b e e2 : Expr} {fa fb : CE} {fs : CA} {p pos : Pos}
end
end J

namespace J
open PySem PySem.Spec PyProof.Rows L2
/-! ## tuple * int -/
section
variable {X : Cx} {W : WX} {k : Nat} {a b e e2 : Expr} {fa fb : CE} {fs : CA} {p pos : Pos}
end
/-! ## min of a list of data -/
section
variable {X : Cx} {W : WX} {k : Nat} {a b e e2 : Expr} {fa fb : CE} {fs : CA} {p pos : Pos}
end
/-! ## in, not in: lists of data -/
section
variable {X : Cx} {W : WX} {k : Nat} {a b : Expr} {fa fb : CE} {pos : Pos}
end
end J

namespace J
open PySem PySem.Spec PyProof.Rows L2
/-! ## exceptions: raise, try .. except .. as e, a caught one held as a value -/
section
variable {X : Cx} {pins : List (Addr × Obj)} {σ : L2.St} {H : Hp} {s : Shared}
end

/-- the ends of a suite that only stores: behind it the exception is held -/
def endsX (i : Nat) (a : Addr) (cls : Value) (d : Option Addr) (Dn : Ends) : Ends :=
  { nx := fun σ' H' => H' a = none → Dn.nx (σ'.set i none) (upd H' a (ExT cls d a)), rt := fun _ _ => False, bk := fun _ _ => False, ct := fun _ _ => False }
inductive HdsX (X : Cx) (n : Str) : List ExceptHandler → List (Value × (Addr → Value → Option Addr → TS)) → Prop
  | nil : HdsX X n [] []
  | cons {x : Str} {c : Value} {ts : Addr → Value → Option Addr → TS} {b₀ : Stmt} {suite : List Stmt} {np pos' : Pos} {hds : List ExceptHandler} {l : List (Value × (Addr → Value → Option Addr → TS))} (hc : Names X x c)
      (hsu : ∀ (a : Addr) (oe : Obj) (cls : Value) (d : Option Addr) (pn : List (Addr × Obj)), Zc cls d oe → (∃ vs, oe.data = .fields vs) → PSs (X.suite a ((a, oe) :: pn)) (b₀ :: suite) (ts a cls d)) (r : HdsX X n hds l) :
      HdsX X n (.ExceptHandler (some (.Name x np)) (some n) (b₀ :: suite) pos' :: hds) ((c, ts) :: l)
section
variable {X : Cx} {n : Str} {i : Nat} {body : List Stmt} {h₀ : ExceptHandler} {hds : List ExceptHandler} {l : List (Value × (Addr → Value → Option Addr → TS))} {pos : Pos} {tb : WX → TS} {Wout : WX}
end
end J

namespace J
open PySem PySem.Spec PyProof.Rows L2
/-! ## what is known of the classes of errors -/
/-- is the class a one of b (both of the program) -/
def isSub (a b : Str) : Bool := a == b || b == "ArcError"
def xOne (K : PySem.W.Frag) (a : Str) : Bool :=
  (PySem.W.clsIn K (He.ga K a)).isSome && (decide (PySem.W.findIn K (.ref (He.ga K a)) "__getattribute__" = some (some (.builtin "BaseException.__getattribute__"))) && (decide (PySem.W.findIn K (.ref (He.ga K a)) "__getattr__" = some none)
  && (decide (PySem.W.subIn K (.ref (He.ga K a)) (.type "BaseException") = some true) && (decide (PySem.W.findIn K (.ref (He.ga K a)) "__class__" = some (some (.builtin "object.__class__")))
  && (decide (PySem.W.mroIn K (He.ga K a) (.type "object") = some true) && (decide (PySem.W.kitOne K (.ref (He.ga K a)) (.type "ValueError") = some true) && PySem.W.hasDictIn K (He.ga K a)))))))
structure XOk (es : List Str) (K : PySem.W.Frag) : Prop where
  one : ∀ a ∈ es, xOne K a = true
  exm : ∀ a ∈ es, ∀ b ∈ ("ArcError" : Str) :: es, PySem.W.exmOne K (.ref (He.ga K a)) (.ref (He.ga K b)) = some (isSub a b)
  kit : ∀ a ∈ es, ∀ b ∈ ("ArcError" : Str) :: es, PySem.W.kitOne K (.ref (He.ga K a)) (.ref (He.ga K b)) = some (isSub a b)
  sp : PySem.W.specialIn K (.builtin "object.__class__") "__get__" = some (some (.builtin "getset_descriptor.__get__"))
  tk : PySem.W.takesIn K (.builtin "object.__class__") = some true
structure X1 (K : PySem.W.Frag) (C : Addr) : Prop where
  hcl : (PySem.W.clsIn K C).isSome = true
  hga : PySem.W.findIn K (.ref C) "__getattribute__" = some (some (.builtin "BaseException.__getattribute__"))
  hgt : PySem.W.findIn K (.ref C) "__getattr__" = some none
  hs : PySem.W.subIn K (.ref C) (.type "BaseException") = some true
  ha : PySem.W.findIn K (.ref C) "__class__" = some (some (.builtin "object.__class__"))
  hm : PySem.W.mroIn K C (.type "object") = some true
  hv : PySem.W.kitOne K (.ref C) (.type "ValueError") = some true
  hd : PySem.W.hasDictIn K C = true
theorem xOne_ok {K : PySem.W.Frag} {a : Str} (h : xOne K a = true) : X1 K (He.ga K a) := by
  unfold xOne at h
  obtain ⟨h1, h⟩ := He.ba h
  obtain ⟨h2, h⟩ := He.ba h
  obtain ⟨h3, h⟩ := He.ba h
  obtain ⟨h4, h⟩ := He.ba h
  obtain ⟨h5, h⟩ := He.ba h
  obtain ⟨h6, h⟩ := He.ba h
  obtain ⟨h7, h8⟩ := He.ba h
  exact ⟨h1, of_decide_eq_true h2, of_decide_eq_true h3, of_decide_eq_true h4, of_decide_eq_true h5, of_decide_eq_true h6, of_decide_eq_true h7, h8⟩

/-! ## raise C("..") -/
def sRaise (x : Str) : CS := fun env S => .exc ⟨x, []⟩ env S
section
variable {X : Cx} {W : WX}
theorem ds_raise {x m : Str} {j : Nat} {p p2 pos pos' : Pos} (hc : X.calm = true) (tk : Takes X W) (hm : X.mg x = some (.ref (He.ga X.K x))) (h : (He.Fa.exc x).ok X.K = true) (hg : Gl X x) (hdb : (x == ("__debug__" : Str)) = false := by decide) :
    DS X W (.Raise (some (.Call (.Name x p) [.Constant (.str m) j p2] [] pos')) none pos) (sRaise x) := by
  obtain ⟨h1, h2, h3, h4⟩ := He.exc_ok h
  refine DS.of (ps_raise hc tk (pmk_own PySem.F.excBase_ValueError h1 hm h2 (raises_own h3 h4) hg hdb)) fun Dn σ H env ρ S a b c => ?_
  exact c σ _ none H ρ Ext.refl b a ⟨hm, rfl⟩
end

/-! ## isinstance of a caught error -/
def rIsX (K : PySem.W.Frag) (es : List Str) : List V → Hp → VK → Prop := fun xs H Q => ∃ (a : Addr) (c : V) (d : Option Addr) (nm : Str) (cv : Value) (b : Bool), xs = [.ref a, c] ∧ H a = some (ExT (.ref (He.ga K nm)) d a) ∧
  (∀ dd, d = some dd → ∃ fs, H dd = some (.xd fs)) ∧ nm ∈ es ∧ (∀ u, RelV c u → u = cv) ∧ PySem.W.kitOne K (.ref (He.ga K nm)) cv = some b ∧ Q (.bl b) H
theorem call_isX {X : Cx} {es : List Str} (O : XOk es X.K) : CallR X (.builtin "isinstance") (rIsX X.K es) := by
  intro pins s σ H xs us Q I r h
  obtain ⟨a, c, d, nm, cv, b, rfl, hH, hdd, hnm, hcv, e, q⟩ := h
  cases r with
  | cons rx rr =>
    cases rr with
    | cons rt rr =>
      cases rr
      cases rx
      have ec := hcv _ rt
      subst ec
      obtain ⟨⟨oe, vs, hget, hz, hv⟩, _, _⟩ := I.hok a _ hH
      have C := xOne_ok (O.one nm hnm)
      have J : ∃ od, PySem.W.InstAt s.heap a oe (He.ga X.K nm) od := by
        obtain ⟨oc, od, oda, osl⟩ := oe
        obtain ⟨h1, h2⟩ := hz
        dsimp only at h1 h2 hv
        subst h1 h2 hv
        cases od with
        | none => exact ⟨none, hget, rfl, rfl, trivial⟩
        | some dd =>
          obtain ⟨fs, hf⟩ := hdd dd rfl
          obtain ⟨o, ho⟩ := objOk_get (I.hok dd _ hf)
          exact ⟨some o, hget, rfl, rfl, ho⟩
      obtain ⟨od, J⟩ := J
      exact PySem.W.kia_one (PySem.W.kitx_exc C.hcl C.hga C.hgt C.hs C.ha O.sp O.tk C.hm) I.kIn J e (fun z => nomatch z) fun tk => ⟨.bl b, H, I.kept (t' := tk) fun _ _ z => z, rfl, q⟩
def gIsX (es : List Str) (c : Str) (d : D) (S : Sto) : R D := match d with
  | .exn a => if a ∈ es then .ok (.bl (isSub a c)) S else .bad
  | _ => .bad
def gIsXV (es : List Str) (d : D) (S : Sto) : R D := match d with
  | .exn a => if a ∈ es then .ok (.bl true) S else .bad
  | _ => .bad
section
variable {X : Cx} {W : WX} {e : Expr} {fe : CE} {p p2 pos : Pos} {es : List Str}
theorem de_isX {x : Str} (O : XOk es X.K) (hx : x ∈ ("ArcError" : Str) :: es) (hg : Gl X "isinstance") (hm : X.mg "isinstance" = none) (hg2 : Gl X x) (hm2 : X.mg x = some (.ref (He.ga X.K x))) (he : DE X W e fe)
    (hd : (x == ("__debug__" : Str)) = false := by decide)
    (hs : starEach [e, .Name x p2] X.env = (false, eval e X.env) :: starEach [.Name x p2] X.env := by rfl) (hpl : (backTo pos (starEach [.Name x p2] X.env)).any (·.1) = false := by rfl) (hs2 : starEach [.Name x p2] X.env = (false, eval (.Name x p2) X.env) :: starEach [] X.env := by rfl) :
    DE X W (.Call (.Name "isinstance" p) [e, .Name x p2] [] pos) (eUn (gIsX es x) fe) :=
  DE.of (pe_callB (call_isX O) hg hm (by decide +kernel) (pa_cons he (pa_cons (pe_glob (v := .ref (He.ga X.K x)) hg2 hm2 rfl hd) pa_nil hs2) hs) (by decide) (by decide) hs hpl) fun σ H Q env ρ S a b c => by
    refine tG.of a b ((Post.bind (rep := RepV X.K) c).mono fun v H1 ⟨ρ1, S1, d1, x1, s1, r1, c1⟩ => ?_)
    unfold gIsX at c1
    split at c1
    · rename_i nm
      split at c1
      · rename_i hn
        unfold RepV at r1
        obtain ⟨a', d', rfl, _, q1, q2⟩ := r1
        exact ⟨a', .ref (He.ga X.K x), d', nm, .ref (He.ga X.K x), isSub nm x, rfl, q1, fun dd ed => (q2 dd ed).2, hn, fun u hu => hu, O.kit nm hn x hx, c1.ret s1 (by unfold RepV; rfl)⟩
      · exact c1.elim
    · exact c1.elim
theorem de_isXV (O : XOk es X.K) (hg : Gl X "isinstance") (hm : X.mg "isinstance" = none) (hg2 : Gl X "ValueError") (hm2 : X.mg "ValueError" = none) (he : DE X W e fe)
    (hs : starEach [e, .Name "ValueError" p2] X.env = (false, eval e X.env) :: starEach [.Name "ValueError" p2] X.env := by rfl) (hpl : (backTo pos (starEach [.Name "ValueError" p2] X.env)).any (·.1) = false := by rfl)
    (hs2 : starEach [.Name "ValueError" p2] X.env = (false, eval (.Name "ValueError" p2) X.env) :: starEach [] X.env := by rfl) :
    DE X W (.Call (.Name "isinstance" p) [e, .Name "ValueError" p2] [] pos) (eUn (gIsXV es) fe) :=
  DE.of (pe_callB (call_isX O) hg hm (by decide +kernel) (pa_cons he (pa_cons (pe_bltn (v := .ty "ValueError") hg2 hm2 (by decide +kernel) rfl (by decide) (by decide)) pa_nil hs2) hs) (by decide) (by decide) hs hpl) fun σ H Q env ρ S a b c => by
    refine tG.of a b ((Post.bind (rep := RepV X.K) c).mono fun v H1 ⟨ρ1, S1, d1, x1, s1, r1, c1⟩ => ?_)
    unfold gIsXV at c1
    split at c1
    · rename_i nm
      split at c1
      · rename_i hn
        unfold RepV at r1
        obtain ⟨a', d', rfl, _, q1, q2⟩ := r1
        exact ⟨a', .ty "ValueError", d', nm, .type "ValueError", true, rfl, q1, fun dd ed => (q2 dd ed).2, hn, fun u hu => hu, (xOne_ok (O.one nm hn)).hv, c1.ret s1 (by unfold RepV; rfl)⟩
      · exact c1.elim
    · exact c1.elim
end

/-! ## try -/
inductive Sx where
  | cau (ic : Nat)
  | spot (is : Nat) (f g : Str) (ic : Nat)
  | spotN (is ic : Nat)
def Sx.run (x : Exn) (ie : Nat) (env : Env) (S : Sto) : Sx → RS
  | .cau ic => .nx ((env.set ic (some (.exn x.cls))).set ie none) S
  | .spot is f g ic => match x.fs.lookup f, x.fs.lookup g with
    | some u, some v => .nx (((env.set is (some (.tup [u, v]))).set ic (some (.exn x.cls))).set ie none) S
    | _, _ => .bad
  | .spotN is ic => .nx (((env.set is (some .non)).set ic (some (.exn x.cls))).set ie none) S
def hnd (es : List Str) (ie : Nat) (x : Exn) (env : Env) (S : Sto) : List (Str × Sx) → RS
  | [] => .exc x env S
  | (c, h) :: r => if x.cls ∈ es then (if isSub x.cls c = true then h.run x ie env S else hnd es ie x env S r) else .bad
/-- a suite's reading serves what is stored -/
def SxOk (K : PySem.W.Frag) (mg : Str → Option Value) (es : List Str) (c : Str) (ie : Nat) (ts : Addr → Value → Option Addr → TS) (sx : Sx) : Prop :=
  ∀ (W : WX) (Dn : Ends) (a : Addr) (x : Exn) (cls : Value) (d : Option Addr) (env : Env) (σ : L2.St) (H : Hp) (ρ : Rg) (S : Sto), RepX K mg H ρ x cls d → x.cls ∈ es → isSub x.cls c = true → mg x.cls = some (.ref (He.ga K x.cls)) →
    RepSt K H ρ σ env → Sim K ρ S H → H a = none → ie < σ.length → PostS K mg W ρ H (sx.run x ie env S) Dn → ts a cls d (endsX ie a cls d Dn) (σ.set ie (some (.ref a))) H
inductive HdsJ (X : Cx) (es : List Str) (n : Str) (ie : Nat) : List ExceptHandler → List (Str × Sx) → Prop
  | nil : HdsJ X es n ie [] []
  | cons {c : Str} {sx : Sx} {ts : Addr → Value → Option Addr → TS} {b₀ : Stmt} {suite : List Stmt} {np pos' : Pos} {hds : List ExceptHandler} {l : List (Str × Sx)} (hg : Gl X c) (hdb : (c == ("__debug__" : Str)) = false) (hm : X.mg c = some (.ref (He.ga X.K c))) (hc : c ∈ ("ArcError" : Str) :: es)
      (ok : SxOk X.K X.mg es c ie ts sx)
      (hsu : ∀ (a : Addr) (oe : Obj) (cls : Value) (d : Option Addr) (pn : List (Addr × Obj)), Zc cls d oe → (∃ vs, oe.data = .fields vs) → PSs (X.suite a ((a, oe) :: pn)) (b₀ :: suite) (ts a cls d)) (r : HdsJ X es n ie hds l) :
      HdsJ X es n ie (.ExceptHandler (some (.Name c np)) (some n) (b₀ :: suite) pos' :: hds) ((c, sx) :: l)
theorem RepX.ext {K : PySem.W.Frag} {mg : Str → Option Value} {H H' : Hp} {ρ ρ' : Rg} {x : Exn} {cls : Value} {d : Option Addr} (y : Ext K ρ H ρ' H') (r : RepX K mg H ρ x cls d) : RepX K mg H' ρ' x cls d := by
  obtain ⟨h1, h2⟩ := r
  refine ⟨h1, ?_⟩
  cases d with
  | none => exact h2
  | some a =>
    obtain ⟨n, fs, hf, e, r⟩ := h2
    exact ⟨y.notin hf n, fs, y.old _ _ hf (.inl fun z => n (.inl z)), e, RepVs.ext y _ _ r⟩
section
variable {X : Cx} {W : WX} {es : List Str} {n : Str} {ie : Nat} {body : List Stmt} {h₀ : ExceptHandler} {hds : List ExceptHandler} {l : List (Str × Sx)} {pos : Pos} {fb : CS}
end
/-! ## count, index -/
theorem count_py {xs : List D} {a : D} (h : D.deps xs ≤ 60) (ha : a.dep ≤ 60) : (D.pys xs).countP (fun z => PyData.eqv z a.py) = xs.countP fun z => D.eqv z a := by
  induction xs with
  | nil => rfl
  | cons x xs ih =>
    simp [D.deps] at h
    simp only [D.pys, List.countP_cons]
    rw [ih (by omega), py_eqv x a (by omega) (by omega)]
section
variable {X : Cx} {W : WX} {k : Nat} {o e : Expr} {fo : CE} {fa : CA} {apos cpos : Pos}
end
end J
namespace J
open PySem PySem.Spec PyProof.Rows L2
/-! ## the head's facts, with a test of one's own -/
def obsJ (n : Nat) (fa : List He.Fa) (fn : List He.DefD) (ex : PySem.W.Frag → Bool) (g : Addr → Option Obj) : He.AlD × Bool := (He.obsD fa fn (He.frG g (He.asD g n)), ex (He.frG g (He.asD g n)))
def hookJ (n : Nat) (fa : List He.Fa) (fn : List He.DefD) (ex : PySem.W.Frag → Bool) : PySem.W.Hook where
  α := He.AlD × Bool
  obs := fun s => obsJ n fa fn ex s.heap.get?
  val := fun _ => (He.valD fn, true)
  says := fun _ h => ∃ K : PySem.W.Frag, K.In h ∧ He.SaysD fa fn K ∧ ex K = true
  of := fun _ _ e => ⟨_, He.frG_in, congrArg (fun z : He.AlD × Bool => z.1) e, congrArg (fun z : He.AlD × Bool => z.2) e⟩
  keeps := fun _ _ _ ⟨K, hK, c⟩ k => ⟨K, PySem.W.Frag.In.keeps hK k, c⟩
theorem obsJ_eq {n : Nat} {fa : List He.Fa} {fn : List He.DefD} {ex : PySem.W.Frag → Bool} {g : Addr → Option Obj} {s : Shared} (h : ∀ a, g a = s.heap.get? a) : obsJ n fa fn ex g = (hookJ n fa fn ex).obs s := by
  have e : g = s.heap.get? := funext h
  rw [e] <;> rfl
end J

namespace J
open PySem PySem.Spec PyProof.Rows L2
/-! ## raise Clash(beat, line) -/
/-- what is looked at of a class of errors with an __init__ of its own -/
def oexB (K : PySem.W.Frag) (C : Addr) : Bool := match K.lookup C with
  | some o => (match o.cls, o.data, o.slots.toList with
    | .type "type", .cls c, [_, _, _, _, some (.builtin n), _] => (match c.mro with
      | .ref C2 :: bm => decide (C2 = C) && (decide (n = "ValueError.__new__") && (decide (c.hasDel = false) && (c.hasDict && PySem.HandSPX.refsVE bm)))
      | _ => false)
    | _, _, _ => false)
  | none => false
theorem oexB_ok {K : PySem.W.Frag} {C : Addr} (h : oexB K C = true) : ∃ nm q N bs bm sn sub ab col dd k0 k1 k2 k3 k5, K.lookup C = some (excClassObj nm q C N bs bm true sn sub ab col dd k0 k1 k2 k3 k5 "ValueError.__new__") ∧ PySem.HandSPX.refsVE bm = true := by
  unfold oexB at h
  split at h
  · rename_i o ho
    obtain ⟨oc, od, dt, sl⟩ := o
    dsimp only at h
    split at h
    · rename_i c k0 k1 k2 k3 n k5 hsl
      split at h
      · rename_i C2 bm hm
        obtain ⟨a1, h⟩ := He.ba h
        obtain ⟨a2, h⟩ := He.ba h
        obtain ⟨a3, h⟩ := He.ba h
        obtain ⟨a4, a5⟩ := He.ba h
        have a1 := of_decide_eq_true a1
        have a2 := of_decide_eq_true a2
        have a3 := of_decide_eq_true a3
        obtain ⟨c1, c2, c3, c4, c5, c6, c7, c8, c9, c10, c11⟩ := c
        dsimp only at hm a3 a4
        subst a1 a2 a3 a4 hm
        have e : sl = #[k0, k1, k2, k3, some (.builtin "ValueError.__new__"), k5] := by
          obtain ⟨l⟩ := sl
          exact congrArg Array.mk hsl
        subst e
        exact ⟨_, _, _, _, bm, _, _, _, _, _, _, _, _, _, _, ho, a5⟩
      · cases h
    · cases h
  · cases h
abbrev clI (K : PySem.W.Frag) : Addr := He.ma K (He.ga K "Clash") "__init__"
def clB (K : PySem.W.Frag) : Bool :=
  oexB K (He.ga K "Clash") && (decide (PySem.W.findIn K (.ref (He.ga K "Clash")) "__setattr__" = some (some (.builtin "object.__setattr__"))) && (decide (PySem.W.subIn K (.ref (He.ga K "Clash")) (.type "BaseException") = some true)
  && (decide (PySem.W.typeIn K (.ref (He.ga K "Clash")) = some (.type "type")) && (PySem.W.keepIn K (.ref (He.ga K "Clash")) && (decide (PySem.W.findIn K (.ref (He.ga K "Clash")) "__init__" = some (some (.ref (clI K))))
  && (decide (PySem.W.typeIn K (.ref (clI K)) = some (.type "function")) && (decide (PySem.W.findIn K (.ref (He.ga K "Clash")) "beat" = some none) && decide (PySem.W.findIn K (.ref (He.ga K "Clash")) "line" = some none))))))))
structure ClOk (K : PySem.W.Frag) : Prop where
  oex : OexC K (He.ga K "Clash")
  ini : PySem.W.findIn K (.ref (He.ga K "Clash")) "__init__" = some (some (.ref (clI K)))
  ty : PySem.W.typeIn K (.ref (clI K)) = some (.type "function")
  beat : PySem.W.findIn K (.ref (He.ga K "Clash")) "beat" = some none
  line : PySem.W.findIn K (.ref (He.ga K "Clash")) "line" = some none
theorem clB_ok {K : PySem.W.Frag} (h : clB K = true) : ClOk K := by
  unfold clB at h
  obtain ⟨h1, h⟩ := He.ba h
  obtain ⟨h2, h⟩ := He.ba h
  obtain ⟨h3, h⟩ := He.ba h
  obtain ⟨h4, h⟩ := He.ba h
  obtain ⟨h5, h⟩ := He.ba h
  obtain ⟨h6, h⟩ := He.ba h
  obtain ⟨h7, h⟩ := He.ba h
  obtain ⟨h8, h9⟩ := He.ba h
  exact ⟨⟨oexB_ok h1, of_decide_eq_true h2, of_decide_eq_true h3, of_decide_eq_true h4, h5⟩, of_decide_eq_true h6, of_decide_eq_true h7, of_decide_eq_true h8, of_decide_eq_true h9⟩
/-- what __init__ does: two fields -/
def spCl (K : PySem.W.Frag) : Sp := fun vs H Q _ => ∃ (a : Addr) (x y : V), vs = [.ref a, x, y] ∧ H a = some (exo a (He.ga K "Clash") none) ∧
  ∀ dx, H dx = none → dx ≠ a → Q .non (upd (upd (upd H dx (exd dx [("beat", x)])) a (exo a (He.ga K "Clash") (some dx))) dx (exd dx [("line", y), ("beat", x)]))
theorem clash_fn {P : Program} {w : World} {K : PySem.W.Frag} {mg : Str → Option Value} {base : Heap} {f : Addr} {fd : FuncData} {nm qual : Str} {params : Arguments} {scope : Scope} {kws : List (Str × V)} {dvs : List V} {p1 p2 p3 p4 q1 q2 q3 q4 : Pos} (O : ClOk K)
    (F : FunD K nm qual params [.Assign [.Attribute (.Name "self" p1) "beat" p2] (.Name "beat" p3) p4, .Assign [.Attribute (.Name "self" q1) "line" q2] (.Name "line" q3) q4] scope dvs kws f fd) (Sc : FnScope ["self", "beat", "line"] ["self", "beat", "line"] scope)
    (v0 : Vis scope "self") (v1 : Vis scope "beat") (v2 : Vis scope "line")
    (s1 : ∀ cdv A outer s H E, swapsWith (.Name "beat" p3) (some (.Attribute (.Name "self" p1) "beat" p2)) p4.line (cxOf (CX P w) P w K mg base ["self", "beat", "line"] qual scope f cdv A outer s H E).env = pure false)
    (s2 : ∀ cdv A outer s H E, swapsWith (.Name "line" q3) (some (.Attribute (.Name "self" q1) "line" q2)) q4.line (cxOf (CX P w) P w K mg base ["self", "beat", "line"] qual scope f cdv A outer s H E).env = pure false) :
    FnOk P w K mg base (CX P w) 1 f fd ["self", "beat", "line"] (spCl K) := by
  refine F.ok Sc (fun vs H Q E h => by obtain ⟨a, x, y, rfl, _⟩ := h; rfl) (fun cdv A outer s H vs Q E hr h => ⟨_, pss_cons (ps_ost (pe_var (i := 0) rfl v0) (pe_var (i := 1) rfl v1) (s1 cdv A outer s H E)) (pss_one (ps_ost (pe_var (i := 0) rfl v0) (pe_var (i := 2) rfl v2) (s2 cdv A outer s H E))), ?_⟩)
  obtain ⟨a, x, y, rfl, ha, h⟩ := h
  refine ⟨x, rfl, .ref a, rfl, a, He.ga K "Clash", rfl, O.oex, O.beat, .inl ⟨ha, fun dx hd hne => ?_⟩⟩
  refine ⟨y, rfl, .ref a, rfl, a, He.ga K "Clash", rfl, O.oex, O.line, .inr ⟨dx, [("beat", x)], upd_same, ?_, by simp, h dx hd hne⟩⟩
  rw [upd_ne hne, upd_same]
def sRaiseC (f : CA) : CS := fun env S => (f env S).st env fun ds S => match ds with
  | [x, y] => .exc ⟨"Clash", [("line", y), ("beat", x)]⟩ env S
  | _ => .bad
def CalI (P : Program) (w : World) (K : PySem.W.Frag) (mg : Str → Option Value) (base : Heap) : Prop := ∃ fd, FnOk P w K mg base (CX P w) 1 (clI K) fd ["self", "beat", "line"] (spCl K) ∧ Binds K fd ["self", "beat", "line"] []
section
variable {X : Cx} {W : WX} {k : Nat} {e1 e2 : Expr} {fa : CA} {p pos pos' : Pos}
theorem passes_none : Passes (CX X.prog X.w) X (fun _ _ _ => False) := fun _ _ _ _ _ _ _ ⟨_, _, _, _, _, _, _, _, _, _, _, _, z⟩ => z.elim
theorem ds_raiseC (O : ClOk X.K) (G : CalI X.prog X.w X.K X.mg X.base) (hr : Room k X.A) (hk : 2 ≤ k) (hc : X.calm = true) (tk : Takes X W) (hm : X.mg "Clash" = some (.ref (He.ga X.K "Clash"))) (hg : Gl X "Clash") (ha : DA X W [e1, e2] fa)
    (he : starEach [e1, e2] X.env = (false, eval e1 X.env) :: starEach [e2] X.env := by rfl) (hpl : (backTo pos' (starEach [e2] X.env)).any (·.1) = false := by rfl) :
    DS X W (.Raise (some (.Call (.Name "Clash" p) [e1, e2] [] pos')) none pos) (sRaiseC fa) := by
  obtain ⟨fd, Fo, hb⟩ := G
  refine DS.of (ps_raise hc tk (pmk_oex (ds := []) (dvs := []) O.oex O.ini O.ty Fo (hr.mono hk) hb .nil passes_none hg hm ha (by decide) he hpl)) fun Dn σ H env ρ S a b c => ?_
  refine tG.of a b ((PostS.st (rep := RepVs X.K) a c).mono fun vs H1 ⟨ρ1, S1, ds, x1, s1, r1, c1⟩ => ?_)
  split at c1
  · rename_i dx dy
    unfold RepVs at r1
    obtain ⟨x, r2, rfl, rx, r2'⟩ := r1
    unfold RepVs at r2'
    obtain ⟨y, r3, rfl, ry, r3'⟩ := r2'
    unfold RepVs at r3'
    subst r3'
    refine ⟨by simp, fun q hq => ⟨q, x, y, rfl, upd_same, fun d hd hne => ⟨rfl, d, [("line", y), ("beat", x)], ?_, upd_same, ?_, ?_⟩⟩⟩
    · rw [upd_ne (Ne.symm hne), upd_same]
    · rw [upd_ne hne] at hd
      exact hd
    · have hd1 : H1 d = none := by rw [upd_ne hne] at hd; exact hd
      have e : upd (L2.del (upd (upd (upd (upd H1 q (exo q (He.ga X.K "Clash") none)) d (exd d [("beat", x)])) q (exo q (He.ga X.K "Clash") (some d))) d (exd d [("line", y), ("beat", x)])) q) d (.xd [("line", y), ("beat", x)]) = upd H1 d (.xd [("line", y), ("beat", x)]) := by
        funext b
        by_cases hb : b = d
        · subst hb; rw [upd_same, upd_same]
        · rw [upd_ne hb, upd_ne hb]
          by_cases hq2 : b = q
          · subst hq2; rw [L2.del_same, hq]
          · rw [L2.del_ne hq2, upd_ne hb, upd_ne hq2, upd_ne hb, upd_ne hq2]
      rw [e]
      have xn : Ext X.K ρ1 H1 ρ1 (upd H1 d (.xd [("line", y), ("beat", x)])) := Ext.new hd1
      refine c1 σ _ (some d) _ ρ1 xn (s1.new hd1) (((a.ext x1)).ext xn) ⟨hm, s1.notin hd1, _, upd_same, rfl, ?_⟩
      exact RepVs.cons (RepV.ext xn _ _ ry) (RepVs.cons (RepV.ext xn _ _ rx) RepVs.nil)
  · exact c1.elim
end
/-- the methods of a class -/
def clsBody (s : Stmt) : List Stmt := match s with
  | .ClassDef _ _ _ b _ _ _ _ _ _ _ => b
  | _ => []
/-! ## list(range(n)) -/
section
variable {X : Cx} {W : WX} {e : Expr} {fe : CE} {p p2 pos pos2 : Pos}
end
end J

namespace J
open PySem PySem.Spec PyProof.Rows L2
/-! ## spot = (e.beat, e.line); caught = e -/
section
variable {X : Cx} {es : List Str} {n : Str} {ie : Nat}
end
end J

namespace J
open PySem PySem.Spec PyProof.Rows L2
/-! ## {} -/
def eDic0 : CE := fun _ S => .ok (.rdc S.length) (S ++ [.dic [] []])
section
variable {X : Cx} {W : WX} {pos : Pos}
theorem repD_nil {K : PySem.W.Frag} {H : Hp} {ρ : Rg} : RepD K H ρ [] [] [] := ⟨rfl, RepVs.nil, RepVs.nil⟩
end
/-! ## methods of dicts -/
def dicTy (d : D) (S : Sto) : R D := match dicOf S d with
  | some _ => .ok d S
  | none => .bad
def eMethD (g : D → List D → Sto → R D) (o : CE) (a : CA) : CE := fun env S => (o env S).bind fun d S => (dicTy d S).bind fun d S => (a env S).bind fun xs S => g d xs S
def isDicV (x : V) (H : Hp) : Prop := ∃ a es ep, x = .ref a ∧ H a = some (DicT a es ep)
def tDM (r : V → List V → Hp → VK → Prop) (to : TE) (t : TA) : TE := fun σ H Q => to σ H fun x H1 => isDicV x H1 ∧ t σ H1 fun xs H2 => r x xs H2 Q
section
variable {X : Cx} {W : WX} {o e : Expr} {es : List Expr} {to : TE} {t : TA} {fo : CE} {fa : CA} {name : Str} {apos cpos : Pos} {id : String} {r : V → List V → Hp → VK → Prop} {g : D → List D → Sto → R D}
theorem isDic_is {pins : List (Addr × Obj)} {σ : L2.St} {H : Hp} {s : Shared} {x : V} {v : Value} (I : Inv X pins σ H s) (r : RelV x v) (ty : isDicV x H) :
    s.TypeIs v "dict" ∧ ∀ a, v = .ref a → ∃ ob, s.heap.get? a = some ob ∧ ob.dict = none := by
  obtain ⟨a, es, ep, rfl, h⟩ := ty
  cases r
  obtain ⟨_, _, _, o, xs, hg, hx, _⟩ := Inv.dic I h
  exact ⟨⟨o, hg, hx.1⟩, fun b e => by cases e; exact ⟨o, hg, hx.2.1⟩⟩
theorem pe_dm (slot : Slot "dict" name id) (hty : typeOf (.builtin id) = pure (.type "method_descriptor")) (hm : MtR X id r) (ho : PE X o to) (ha : PA X (e :: es) t)
    (hbase : attributeBase o name X.env (eval o X.env) = eval o X.env := by rfl)
    (hfew : ((backTo cpos (starEach (e :: es) X.env)).all (fun x => !x.1) && (backToKw cpos (keywordEach [] X.env)).all (fun x => x.1.isSome)
      && decide ((e :: es).length + ([] : List Keyword).length + (if ([] : List Keyword).isEmpty then 0 else 1) < 30)) = true := by rfl)
    (hline : (apos.endLine == cpos.line) = true := by rfl) (hs : starEach (e :: es) X.env = (false, eval e X.env) :: starEach es X.env := by rfl) (hplain : (backTo cpos (starEach es X.env)).any (·.1) = false := by rfl) :
    PE X (.Call (.Attribute o name apos) (e :: es) [] cpos) (tDM r to t) := by
  refine ⟨fun pins s σ H Q I h => ?_⟩
  refine wpAny_Call_method_late hbase hfew hline rfl (thn (ho.run pins s σ H _ I h) fun v s1 ⟨x, H1, I1, r1, ty, q1⟩ => ?_)
  obtain ⟨h1, h2⟩ := isDic_is I1 r1 ty
  refine ⟨"dict", id, PySem.F.plainAttrs_dict, slot, hty, h1, h2, ?_⟩
  have hA := ha.run cpos pins s1 σ H1 _ I1 q1
  rw [hs] at hA ⊢
  refine Calls.callWith_builtin (by show (false || (backTo cpos (starEach es X.env)).any (·.1)) = false; rw [hplain] <;> rfl) (Calls.evalArgs_plain ?_)
  exact thn hA fun us s2 ⟨vs, H2, I2, r2, q2⟩ => hm pins s2 σ H2 x vs v us Q I2 r1 r2 q2
theorem de_dm (slot : Slot "dict" name id) (hty : typeOf (.builtin id) = pure (.type "method_descriptor")) (hm : MtR X id r) (om : OpM X.K X.mg r g) (ho : DE X W o fo) (ha : DA X W (e :: es) fa)
    (hbase : attributeBase o name X.env (eval o X.env) = eval o X.env := by rfl)
    (hfew : ((backTo cpos (starEach (e :: es) X.env)).all (fun x => !x.1) && (backToKw cpos (keywordEach [] X.env)).all (fun x => x.1.isSome)
      && decide ((e :: es).length + ([] : List Keyword).length + (if ([] : List Keyword).isEmpty then 0 else 1) < 30)) = true := by rfl)
    (hline : (apos.endLine == cpos.line) = true := by rfl) (hs : starEach (e :: es) X.env = (false, eval e X.env) :: starEach es X.env := by rfl) (hplain : (backTo cpos (starEach es X.env)).any (·.1) = false := by rfl) :
    DE X W (.Call (.Attribute o name apos) (e :: es) [] cpos) (eMethD g fo fa) :=
  DE.of (pe_dm slot hty hm ho ha hbase hfew hline hs hplain) fun σ H Q env ρ S a b c => by
    refine tG.of a b ((Post.bind (rep := RepV X.K) c).mono fun x H1 ⟨ρ1, S1, d1, x1, s1, r1, c1⟩ => ?_)
    unfold dicTy at c1
    cases hr : dicOf S1 d1 with
    | none => rw [hr] at c1; exact c1.elim
    | some p =>
      rw [hr] at c1
      obtain ⟨a', es', ep', rfl, h', _⟩ := dic_rep s1 r1 hr
      refine ⟨⟨a', es', ep', rfl, h'⟩, tG.of (a.ext x1) s1 ((Post.bind (rep := RepVs X.K) c1).mono fun y H2 ⟨ρ2, S2, d2, x2, s2, r2, c2⟩ => ?_)⟩
      exact om H2 ρ2 S2 d1 d2 _ y _ Q s2 (RepV.ext x2 _ _ r1) r2 c2
end
def rGetD (K : PySem.W.Frag) : V → List V → Hp → VK → Prop := fun x ys H Q => ∃ a es ep y nk, x = .ref a ∧ H a = some (DicT a es ep) ∧ EOk K H es y nk ∧
  ((ys = [y] ∧ Q ((valE es nk).getD .non) H) ∨ ∃ z, ys = [y, z] ∧ Q ((valE es nk).getD z) H)
theorem mt_get {X : Cx} (hu : X.A.units + 9 < cLine) : MtR X "dict.get" (rGetD X.K) := by
  intro pins s σ H x xs v us Q I rx rxs ⟨a, es, ep, y, nk, e1, h, ok, q⟩
  subst e1
  cases rx
  rcases q with ⟨rfl, q⟩ | ⟨z, rfl, q⟩
  · obtain ⟨u, rfl, ru⟩ := Vals.one rxs
    exact dic_get1 hu I h ok ru fun w' s' I' r' => ⟨_, H, I', r', q⟩
  · obtain ⟨u, u2, rfl, ru, ru2⟩ := Vals.two rxs
    exact dic_get2 hu I h ok ru ru2 fun w' s' I' r' => ⟨_, H, I', r', q⟩
def gGet (d : D) (as : List D) (S : Sto) : R D := match as with
  | [k] => onKey S d k fun ks vs => .ok ((dGet ks vs k).getD .non) S
  | [k, z] => onKey S d k fun ks vs => .ok ((dGet ks vs k).getD z) S
  | _ => .bad
theorem dGet_getD {K : PySem.W.Frag} {H : Hp} {ρ : Rg} {ks vs : List D} {es : List Ent} {k z : D} {nk : NestedKey} {zv : V} (rd : RepD K H ρ ks vs es) (ek : k.nk = some nk) (rz : RepV K H ρ z zv) : RepV K H ρ ((dGet ks vs k).getD z) ((valE es nk).getD zv) := by
  cases e : dGet ks vs k with
  | none => rw [dGet_none rd ek e]; exact rz
  | some d =>
    obtain ⟨v, e1, r1⟩ := dGet_some rd ek e
    rw [e1]; exact r1
theorem m_get {K : PySem.W.Frag} {mg : Str → Option Value} : OpM K mg (rGetD K) gGet := fun H ρ S a as x xs w Q s ra ras c => by
  unfold gGet at c
  split at c
  · obtain ⟨u, rfl, ry⟩ := RepVs.one ras
    obtain ⟨a', es, ep, ks, vs, nk, rfl, h1, _, rd, ek, ok, _, c⟩ := onKey_rep s ra ry c
    exact ⟨a', es, ep, u, nk, rfl, h1, ok, .inl ⟨rfl, c.ret s (dGet_getD rd ek (by unfold RepV; rfl))⟩⟩
  · rename_i k z
    obtain ⟨u, u2, rfl, ry, rz⟩ := RepVs.two ras
    obtain ⟨a', es, ep, ks, vs, nk, rfl, h1, _, rd, ek, ok, _, c⟩ := onKey_rep s ra ry c
    exact ⟨a', es, ep, u, nk, rfl, h1, ok, .inr ⟨u2, rfl, c.ret s (dGet_getD rd ek rz)⟩⟩
  · exact c.elim
def gSetd (d : D) (as : List D) (S : Sto) : R D := match d, as with
  | .rdc n, [k, z] => match S[n]? with
    | some (.dic ks vs) => if kOk ks k = true ∧ k.isT = true ∧ ks.length < sLim then match dGet ks vs k with
        | some v => .ok v S
        | none => .ok z (S.set n (.dic (dKs ks k) (dVs ks vs k z)))
      else .bad
    | _ => .bad
  | _, _ => .bad
section
variable {X : Cx} {W : WX} {o e e2 : Expr} {fo : CE} {fa : CA} {apos cpos : Pos} {k : Nat}
theorem de_get2 (hr : Room k X.A) (ho : DE X W o fo) (ha : DA X W [e, e2] fa) (hbase : attributeBase o "get" X.env (eval o X.env) = eval o X.env := by rfl)
    (hfew : ((backTo cpos (starEach [e, e2] X.env)).all (fun x => !x.1) && (backToKw cpos (keywordEach [] X.env)).all (fun x => x.1.isSome)
      && decide (([e, e2] : List Expr).length + ([] : List Keyword).length + (if ([] : List Keyword).isEmpty then 0 else 1) < 30)) = true := by rfl)
    (hline : (apos.endLine == cpos.line) = true := by rfl) (hs : starEach [e, e2] X.env = (false, eval e X.env) :: starEach [e2] X.env := by rfl) (hplain : (backTo cpos (starEach [e2] X.env)).any (·.1) = false := by rfl) :
    DE X W (.Call (.Attribute o "get" apos) [e, e2] [] cpos) (eMethD gGet fo fa) := de_dm PySem.F.slot_dict_get PySem.F.type_dict_get (mt_get (u9 hr)) m_get ho ha hbase hfew hline hs hplain
end
end J

namespace J
open PySem PySem.Spec PyProof.Rows L2
/-! ## sorted(d), d a dict -/
section
variable {X : Cx} {W : WX} {e : Expr} {fs : CA} {p pos : Pos} {k : Nat}
end
end J

namespace J
open PySem PySem.Spec PyProof.Rows L2
/-! ## == of two dicts of numbers -/
section
variable {X : Cx}
end
section
variable {X : Cx} {W : WX} {a b : Expr} {fa fb : CE} {pos : Pos} {k : Nat}
end
end J

namespace J
open PySem PySem.Spec PyProof.Rows L2
/-! ## xs.insert(i, y) -/
section
variable {X : Cx} {W : WX} {o e e2 : Expr} {fo : CE} {fa : CA} {apos cpos : Pos}
end
end J

namespace J
open PySem PySem.Spec PyProof.Rows L2
/-! ## texts: str(i), sep.join(xs) -/
def isS : D → Bool
  | .str _ => true
  | _ => false
def strTy (d : D) (S : Sto) : R D := if isS d = true then .ok d S else .bad
def eMethS (g : D → List D → Sto → R D) (o : CE) (a : CA) : CE := fun env S => (o env S).bind fun d S => (strTy d S).bind fun d S => (a env S).bind fun xs S => g d xs S
section
variable {X : Cx} {W : WX} {o e : Expr} {es : List Expr} {fo : CE} {fa : CA} {name : Str} {apos cpos p pos : Pos} {id : String} {r : V → List V → Hp → VK → Prop} {g : D → List D → Sto → R D}
end
end J

namespace J
open PySem PySem.Spec PyProof.Rows L2
/-! ## == of lists that hold lists of the store -/
section
variable {K : PySem.W.Frag} {H : Hp} {ρ : Rg} {S : Sto}
end
section
variable {X : Cx} {W : WX} {a b : Expr} {fa fb : CE} {pos : Pos} {k : Nat}
end
end J

namespace J
open PySem PySem.Spec PyProof.Rows L2
/-! ## x.split(y), int(x) -/
section
variable {X : Cx} {W : WX} {o e : Expr} {fo : CE} {fa : CA} {apos cpos p pos : Pos}
end
end J

namespace J
open PySem PySem.Spec PyProof.Rows L2
/-! ## dict comprehensions -/
def dGo (src : Src) (g : CG) (fk fv : CE) : Nat → Nat → Env → List D → List D → Sto → R (List D × List D)
  | 0, i, env, ks, vs, S => match src.at i S with
    | some none => .ok (ks, vs) S
    | _ => .bad
  | n + 1, i, env, ks, vs, S => match src.at i S with
    | none => .bad
    | some none => .ok (ks, vs) S
    | some (some d) => (g d env S).nox.bind fun env1 S1 => (fk env1 S1).nox.bind fun k S2 => (fv env1 S2).nox.bind fun v S3 =>
      if kOk ks k = true ∧ ks.length < sLim then dGo src g fk fv n (i + 1) env (dKs ks k) (dVs ks vs k v) S3 else .bad
def eDcN (fi : CI) (g : CG) (us : List Nat) (fk fv : CE) : CE := fun env S => (fi env S).bind fun src S => ((dGo src g fk fv (src.len S) 0 (wipeE env us) [] [] S).nox).bind fun p S => .ok (.dic p.1 p.2) S
section
variable {X : Cx} {A : Around} {pins : List (Addr × Obj)} {σ : L2.St} {H : Hp} {s : Shared} {a : Addr} {es : List Ent} {ep : Nat} {k : NestedKey} {y v : V} {u r : Value} {E : Value → Shared → Prop}
theorem dic_dictSet {Q : Unit → Shared → Prop} (hu : A.units + 9 < cLine) (I : Inv X pins σ H s) (hd : H a = some (DicT a es ep)) (ok : EOk X.K H es y k) (hl : es.length < sizeLine) (ry : RelV y u) (rv : RelV v r)
    (h : ∀ ep' s', Inv X pins σ (upd H a (DicT a (putE es k y v) ep')) s' → Q () s') : wpAny (model X.prog X.w) A (dictSet a u r) Q E s := by
  obtain ⟨hs, hz, _⟩ := Inv.dic I hd
  have hz2 : (putE es k y v).length ≤ sizeLine := Nat.le_trans (putE_len es k y v) hl
  have hr : (nestedKind X.prog X.w).room A := by show A.units + 8 < cLine; omega
  rcases ok with ⟨ok, kv, dp, b, rfl⟩ | ⟨ok, i, rfl, rfl⟩
  · cases (show u = Value.ref b from ry)
    obtain ⟨ys, dd, rel⟩ := toH I hd ok
    have hz1 : ys.length ≤ sizeLine := by rw [← Paired.length rel]; exact hz
    refine wpAny_dictSet_heap (hsz := hz1) hr ⟨KeyV.is I kv rfl, dp⟩ dd fun h' dd' hsb => ?_
    obtain ⟨ep', ok'⟩ := fromH (H' := upd H a (DicT a (putE es k (.ref b) v) 0)) hs hz2 (hash_put (fun e he => (ok e he).1.hash) kv.hash) dd' (EH.put rel k b rv)
    obtain ⟨q, _, _, hq, _⟩ := dd'
    exact h ep' _ (d_write I (by rw [hd]; exact mutD) hsb ⟨q, hq⟩ ok')
  · obtain ⟨ys, dd, rel⟩ := toI' I hd ok
    have hz1 : ys.length ≤ sizeLine := by rw [← Paired.length rel]; exact hz
    refine wpAny_dictSet_pairs (hsz := hz1) (isInt_of ry) dd fun h' dd' hsb => ?_
    obtain ⟨ep', ok'⟩ := fromI (H' := upd H a (DicT a (putE es (.num i) (.int i) v) 0)) hs hz2 dd' (EI.put rel i rv)
    obtain ⟨q, _, _, hq, _⟩ := dd'
    exact h ep' _ (d_write I (by rw [hd]; exact mutD) hsb ⟨q, hq⟩ ok')
end
section
variable {B : Cx} {Dd : Addr} {o : HO}
theorem backO (hN : NTup o) {H1 H' : Hp} {ρ ρ1 : Rg} {S S' : Sto} {K : PySem.W.Frag} (s : Sim K ρ S H1) (hD : H1 Dd = none) (x1 : Ext K (ρ.hide Dd) (upd H1 Dd o) ρ1 H') (s1 : Sim K ρ1 S' H') :
    H' Dd = some o ∧ ∃ ρ2, ρ1 = ρ2.hide Dd ∧ Ext K ρ H1 ρ2 (del H' Dd) ∧ Sim K ρ2 S' (del H' Dd) := by
  have hD' : H' Dd = some o := x1.old Dd _ upd_same (.inl (s.notst hD))
  obtain ⟨ρ2, rfl, x2⟩ := Ext.unhide hD x1 hD' hN
  refine ⟨hD', ρ2, rfl, x2, s1.unhide hD' hN ?_ ?_⟩
  · rw [x2.hid]
    exact notin_hid s hD
  · exact x1.nolock upd_same (s.notst hD) fun z => by
      obtain ⟨es, ep, e⟩ := s.fz Dd z
      rw [hD] at e; cases e
end
section
variable {B : Cx} {Dd : Addr} {kx vx tg iter : Expr} {scope : Scope} {pos : Pos}
theorem dc_loop (hxe : ∀ e s, B.xe e s → False) (hc : B.calm = true) (hu : B.A.units + 9 < cLine) {g : CG} {vs : List Nat} {fk fv : CE} {Rr : Result → Shared → Prop}
    (pg : DG B tg g vs) (pk : DE B WF kx fk) (pv : DE B WF vx fv)
    {pins : List (Addr × Obj)} {it : Addr} {fp : List Addr} {tn : Nat → Heap → Prop} {J : It} (T : Turn B.prog B.w B.K tg J fp it tn) (fpo : ∀ H', (∀ b ∈ fp, H' b = none) → ∀ b ∈ fp, FpOk B pins H' b)
    {src : Src} {σw : L2.St} {envw : Env} {F : List D × List D} {SF : Sto} {H0 : Hp} {ρ0 : Rg}
    (hR : ∀ s' H1' ρ' es ep, Inv B pins σw (upd H1' Dd (DicT Dd es ep)) s' → H1' Dd = none → Ext B.K ρ0 H0 ρ' H1' → Sim B.K ρ' SF H1' → RepD B.K H1' ρ' F.1 F.2 es → (∀ b ∈ fp, (upd H1' Dd (DicT Dd es ep)) b = none) → Rr (.ok .next) s')
    (hw : ∀ σ', Only vs σw σ' → (σw).length = σ'.length ∧ ∀ (j : Nat) v, σw[j]? = some (some v) → σ'[j]? = some (some v)) :
    ∀ (k i : Nat) (s : Shared) (H1 : Hp) (ρ : Rg) (es : List Ent) (ep : Nat) (ks ws : List D) (S : Sto), Inv B pins σw (upd H1 Dd (DicT Dd es ep)) s → tn i s.heap → (∀ b ∈ fp, (upd H1 Dd (DicT Dd es ep)) b = none) → H1 Dd = none → Ext B.K ρ0 H0 ρ H1 → SrcRep B.K H1 ρ src J → RepSt B.K H1 ρ σw envw → Sim B.K ρ S H1 → RepD B.K H1 ρ ks ws es →
      dGo src g fk fv k i envw ks ws S = .ok F SF →
      codeAny (model B.prog B.w) B.A (.compLoop (.DictComp kx vx [⟨tg, iter, [], 0⟩] scope pos) 0 (.ref it) (.ref Dd) B.env) Rr s := by
  intro k i s H1 ρ es ep ks ws S I st n hD x0 sr a sm ra e
  refine compLoop_anyD (fun k s => ∃ i H1 ρ es ep ks ws S, Inv B pins σw (upd H1 Dd (DicT Dd es ep)) s ∧ tn i s.heap ∧ (∀ b ∈ fp, (upd H1 Dd (DicT Dd es ep)) b = none) ∧ H1 Dd = none ∧ Ext B.K ρ0 H0 ρ H1 ∧ SrcRep B.K H1 ρ src J ∧ RepSt B.K H1 ρ σw envw ∧ Sim B.K ρ S H1 ∧ RepD B.K H1 ρ ks ws es ∧ dGo src g fk fv k i envw ks ws S = .ok F SF) ?_ k ⟨i, H1, ρ, es, ep, ks, ws, S, I, st, n, hD, x0, sr, a, sm, ra, e⟩
  clear I st n hD x0 sr a sm ra e
  rintro k s ⟨i, H1, ρ, es, ep, ks, ws, S, I, st, n, hD, x0, sr, a, sm, ra, e⟩
  have stp := (sr.hide (o := DicT Dd es ep) hD).step (sm.hide hD) i
  cases q : src.at i S with
  | none => cases k <;> simp only [dGo, q] at e <;> cases e
  | some o =>
    rw [q] at stp
    cases o with
    | none =>
      have e2 : F = (ks, ws) ∧ SF = S := by
        cases k <;> simp only [dGo, q, R.ok.injEq] at e <;> exact ⟨e.1.symm, e.2.symm⟩
      obtain ⟨rfl, rfl⟩ := e2
      refine thnF (T.done B rfl rfl rfl hc i pins s σw _ (fun _ _ => False) I (fpo _ n) st stp) fun r s6 ⟨hr, I6⟩ => ?_
      subst hr
      exact hR s6 H1 ρ es ep I6 hD x0 sm ra n
    | some dd =>
      cases k with
      | zero => simp only [dGo, q] at e; cases e
      | succ k =>
        simp only [dGo, q] at e
        obtain ⟨env1, S1, eg, e⟩ := nox_bind_ok e
        obtain ⟨kd, S2, ek, e⟩ := nox_bind_ok e
        obtain ⟨vd, S3, ev, e⟩ := nox_bind_ok e
        by_cases hk : kOk ks kd = true ∧ ks.length < sLim
        · rw [if_pos hk] at e
          refine thnF (T.item B rfl rfl rfl hc i pins s σw _ (fun _ _ => False) I (fpo _ n) st stp.1) fun r s6 ⟨u, hr, h6⟩ => ?_
          subst hr
          refine thnF h6 fun _ s7 ⟨x, H7, I7, r7, y7, st7, n7⟩ => ?_
          obtain ⟨x7, sm7, rd7⟩ := stp.2 x H7 y7
          obtain ⟨hD7, ρ7, eρ, xx7, sm7'⟩ := backO NTup.dic sm hD x7 sm7
          obtain ⟨rfl, -⟩ : ρ7 = ρ ∧ True := ⟨by cases ρ; cases ρ7; simp [Rg.hide] at eρ; simp [eρ], trivial⟩
          have I7' := I7.pinned (fpo _ n7) (T.obj _ _ st7)
          have a7 : RepSt B.K H7 (ρ7.hide Dd) σw envw := (a.hide hD).ext x7
          -- the target
          have tgt : wpAny (model B.prog B.w) B.A (assign tg B.env u) (fun _ s' => ∃ σ' H', Inv B (pins ++ pinsAt fp s7.heap) σ' H' s' ∧ (∃ ρ8, Ext B.K (ρ7.hide Dd) H7 ρ8 H' ∧ Sim B.K ρ8 S1 H' ∧ RepSt B.K H' ρ8 σ' env1 ∧ Only vs σw σ')) B.xe s7 :=
            pg.run _ s7 σw H7 x u _ I7' r7 ⟨dd, envw, ρ7.hide Dd, S, rd7, a7, sm7, by rw [eg]; exact fun σ' H' ρ' x' s' a' o' => ⟨ρ', x', s', a', o'⟩⟩
          refine thnF (wpAny_mono tgt (fun _ _ h => h) fun _ _ h => hxe _ _ h) fun _ s8 ⟨σ8, H8, I8, ρ8, x8, sm8, a8, o8⟩ => ?_
          refine wpAny_pure ?_
          rw [if_pos rfl]
          -- the key
          have kk : wpAny (model B.prog B.w) B.A (eval kx B.env) (EP B (pins ++ pinsAt fp s7.heap) σ8 (fun v' H' => ∃ ρ9, Ext B.K ρ8 H8 ρ9 H' ∧ Sim B.K ρ9 S2 H' ∧ RepV B.K H' ρ9 kd v')) B.xe s8 :=
            pk.run _ s8 σ8 H8 _ I8 (tG.of a8 sm8 (by rw [ek]; exact fun v H' ρ' x' s' r' => ⟨ρ', x', s', r'⟩))
          refine thnF (wpAny_mono kk (fun _ _ h => h) fun _ _ h => hxe _ _ h) fun ku s9 ⟨kv, H9, I9, rk, ρ9, x9, sm9, rk9⟩ => ?_
          -- the value
          have vv : wpAny (model B.prog B.w) B.A (eval vx B.env) (EP B (pins ++ pinsAt fp s7.heap) σ8 (fun v' H' => ∃ ρa, Ext B.K ρ9 H9 ρa H' ∧ Sim B.K ρa S3 H' ∧ RepV B.K H' ρa vd v')) B.xe s9 :=
            pv.run _ s9 σ8 H9 _ I9 (tG.of (a8.ext x9) sm9 (by rw [ev]; exact fun v H' ρ' x' s' r' => ⟨ρ', x', s', r'⟩))
          refine thnF (wpAny_mono vv (fun _ _ h => h) fun _ _ h => hxe _ _ h) fun vu s10 ⟨w, H10, I10, rw10, ρa, xa, sma, rva⟩ => ?_
          -- the dict is out of reach
          obtain ⟨hD10, ρb, eρb, xb, smb⟩ := backO NTup.dic sm hD (x7.trans (x8.trans (x9.trans xa))) sma
          subst eρb
          have rk' : RepV B.K (del H10 Dd) ρb kd kv := RepV.unhide hD10 NTup.dic (smb.notst del_same) _ _ (RepV.ext xa _ _ rk9)
          have rv' : RepV B.K (del H10 Dd) ρb vd w := RepV.unhide hD10 NTup.dic (smb.notst del_same) _ _ rva
          have ra' : RepD B.K (del H10 Dd) ρb ks ws es := ra.ext xb
          have raF : RepD B.K H10 (ρb.hide Dd) ks ws es := (ra.hide (o := DicT Dd es ep) hD).ext (x7.trans (x8.trans (x9.trans xa)))
          obtain ⟨nk, enk, eok⟩ := eok_of raF (RepV.ext xa _ _ rk9) hk.1
          have hN : (es.map (·.1)).Nodup := (Inv.dic I10 hD10).2.2.1
          refine dic_dictSet hu I10 hD10 eok (by rw [← ra.len.1]; exact hk.2) rk rw10 fun ep' s11 I11 => ?_
          have pin' : ∀ b ∈ fp, ∀ o, s7.heap.get? b = some o → s11.heap.get? b = some o ∧ (upd H10 Dd (DicT Dd (putE es nk kv w) ep')) b = none := fun b hb o e =>
            let z := I11.pin (b, o) (List.mem_append_right _ (List.mem_append_right _ (mem_pinsAt hb e)))
            ⟨z.1, z.2.1⟩
          obtain ⟨hl, hk'⟩ := hw σ8 o8
          refine ⟨k, Nat.lt_succ_self k, i + 1, del H10 Dd, ρb, putE es nk kv w, ep', dKs ks kd, dVs ks ws kd vd, S3, by rw [upd_del']; exact (I11.unpinned).weak hl hk', T.keep _ _ _ st7 fun b hb o e => (pin' b hb o e).1, fun b hb => ?_, del_same, x0.trans xb, sr.ext xb, a.ext xb, smb, put_rep hN ra' enk rk' rv', e⟩
          rw [upd_del']
          obtain ⟨o, e, _⟩ := T.obj _ _ st7 b hb
          exact (pin' b hb o e).2
        · rw [if_neg hk] at e; cases e
end
theorem only_same {σ σ' : L2.St} {vs : List Nat} (h : Only vs (wipe σ vs) σ') : (wipe σ vs).length = σ'.length ∧ ∀ (j : Nat) v, (wipe σ vs)[j]? = some (some v) → σ'[j]? = some (some v) := by
  have e := h vs (fun i hi => hi)
  have hl : σ'.length = (wipe σ vs).length := by
    have := congrArg List.length e
    rwa [wipe_length, wipe_length] at this
  refine ⟨hl.symm, fun j v q => ?_⟩
  have n := (wipe_some q).2
  have q2 : (wipe (wipe σ vs) vs)[j]? = some (some v) := by rw [wipe_out n]; exact q
  rw [← e] at q2
  exact (wipe_some q2).1
section
variable {X : Cx} {W : WX}
theorem dcj_core {pins : List (Addr × Obj)} {s : Shared} {σ : L2.St} {H : Hp} {Q : VK} {kx vx tg iter : Expr} {scope : Scope} {own : List (Str × Nat)} {pos pos' : Pos} {fi : CI} {g : CG} {fk fv : CE} {vs : List Nat} {kr : Nat} {use : Option (Value → Sem Unit)} {Qf : Value → Shared → Prop} (hr : Room kr X.A) (hown : own.map (·.2) = vs)
    (hc : X.calm = true) (hN : X.N.Nodup) (I : Inv X pins σ H s) (ok : BlkOk X.N X.env.scope scope own) (hi : DI X W tg iter fi)
    (hg : ∀ (s : Shared) (H : Hp) (C : Addr) (cl : List (Str × Addr)) (fp : List Addr), DG (X.blk s H scope (compEnvC scope cl C X.env) fp) tg g vs)
    (hk : ∀ (s : Shared) (H : Hp) (C : Addr) (cl : List (Str × Addr)) (fp : List Addr), DE (X.blk s H scope (compEnvC scope cl C X.env) fp) WF kx fk)
    (hv : ∀ (s : Shared) (H : Hp) (C : Addr) (cl : List (Str × Addr)) (fp : List Addr), DE (X.blk s H scope (compEnvC scope cl C X.env) fp) WF vx fv)
    (hs : ∀ x, foldedSetIterable iter X.env x = pure x) (h : tG X.K X.mg (RepV X.K) W (eDcN fi g vs fk fv) σ H Q)
    (hRR : ∀ D C s' m H', Inv X pins σ H' s' → Q (.ref D) H' → s'.heap.Ns C m → FpOk X pins H' C → compPost (model X.prog X.w) X.A X.xe use Qf (.ref D) C (.ok .next) s') :
    wpAny (model X.prog X.w) X.A (comprehension (.DictComp kx vx [⟨tg, iter, [], 0⟩] scope pos) scope X.env pos' newDict false (eval iter X.env) use) Qf X.xe s := by
  have hfree : ∀ y ∈ scope.names, y.2 = .free → ∃ c, X.env.cells.lookup y.1 = some c := fun y hy e => by
    rcases ok.free y hy e with k | k
    · exact I.ok.has _ (.inl k)
    · exact I.ok.has _ (.inr k)
  obtain ⟨env, ρ, S, a, b, c⟩ := h
  refine wpAny_comprehension_free (use := use) rfl hs (closure_ok hfree) ok.kind (fun y hy e => by rw [ok.uniq y hy, e])
    (thn (hi.run pins s σ H _ I (tG.of a b (Post.bind (rep := SrcRep X.K) c))) fun xv s1 hx => thn hx fun itv s2 h2 => ?_)
  obtain ⟨it, fp, tn, J, H2, e, I2, T, st2, f2, ρ1, S1, src, x1, sm1, r1, c1⟩ := h2
  subst e
  refine wpAny_newObj_type (newEnv_comp ?_)
  generalize hD : s2.heap.objs.size = D
  have hDn : H2 D = none := I2.hok.fresh (Nat.le_of_eq hD)
  cases ego : dGo src g fk fv (src.len S1) 0 (wipeE env vs) [] [] S1 with
  | exc x Sx => rw [ego] at c1; exact c1.elim
  | bad => rw [ego] at c1; exact c1.elim
  | ok F SF =>
  rw [ego] at c1
  simp only [R.nox_ok] at c1
  -- the new dict
  generalize hs3 : ({ s2 with heap := s2.heap.push { cls := .type "dict", data := .dict #[] } } : Shared) = s3
  have I3 : Inv X pins σ (upd H2 D (DicT D [] 0)) s3 := by
    rw [← hs3]
    refine I2.laid (t' := s2.toks) (fun b o e => Heap.get?_push_of_some _ e) (Nat.le_of_eq hD) ?_
    rw [← hD]
    exact dicOk (beq_eq_false_iff_ne.mpr (Nat.ne_of_gt I2.big)) (Nat.zero_le _) List.nodup_nil (Heap.get?_push_size s2.heap rfl) ⟨rfl, rfl, rfl⟩ rfl .nil
  have h3 : s3.heap = s2.heap.push { cls := .type "dict", data := .dict #[] } := by rw [← hs3]
  have sz : ∀ b ∈ fp, b < s2.heap.objs.size := fun b hb => by
    obtain ⟨o, e, _⟩ := T.obj _ _ st2 b hb
    exact Heap.lt_size e
  have f3 : ∀ b ∈ fp, FpOk X pins (upd H2 D (DicT D [] 0)) b ∧ b < s3.heap.objs.size := fun b hb => by
    have hlt := sz b hb
    refine ⟨⟨?_, (f2 b hb).2⟩, by rw [h3, Heap.size_push]; exact Nat.lt_succ_of_lt hlt⟩
    rw [upd_ne (by rw [← hD]; exact Nat.ne_of_lt hlt)]
    exact (f2 b hb).1
  have st3 : tn 0 s3.heap := T.keep _ _ _ st2 fun b _ o e => by rw [h3]; exact Heap.get?_push_of_some _ e
  have I4 := block_start I3 ok hN f3
  have pg := hg s3 (upd H2 D (DicT D [] 0)) s3.heap.objs.size (cellsFrom (s3.heap.objs.size + 1) scope.names (cloFrom X.env.cells scope.names [])) fp
  have pk := hk s3 (upd H2 D (DicT D [] 0)) s3.heap.objs.size (cellsFrom (s3.heap.objs.size + 1) scope.names (cloFrom X.env.cells scope.names [])) fp
  have pv := hv s3 (upd H2 D (DicT D [] 0)) s3.heap.objs.size (cellsFrom (s3.heap.objs.size + 1) scope.names (cloFrom X.env.cells scope.names [])) fp
  show codeAny _ _ (.compStart (.DictComp kx vx [⟨tg, iter, [], 0⟩] scope pos) 0 (.ref it) (.ref D) (compEnvC scope (cellsFrom (s3.heap.objs.size + 1) scope.names (cloFrom X.env.cells scope.names [])) s3.heap.objs.size X.env)) (compPost (model X.prog X.w) X.A X.xe use Qf (.ref D) s3.heap.objs.size) { s3 with heap := pushCells (s3.heap.push { cls := .type "dict", data := .dict #[] }) scope.names }
  have nfp : ∀ b ∈ fp, (upd H2 D (DicT D [] 0)) b = none := fun b hb => (f3 b hb).1.1
  generalize hce : compEnvC scope (cellsFrom (s3.heap.objs.size + 1) scope.names (cloFrom X.env.cells scope.names [])) s3.heap.objs.size X.env = ce at I4 pg pk pv ⊢
  have cL : ce.locals = s3.heap.objs.size := by subst hce; rfl
  generalize hs4 : ({ s3 with heap := pushCells (s3.heap.push { cls := .type "dict", data := .dict #[] }) scope.names } : Shared) = s4 at I4 ⊢
  have st4 : tn 0 s4.heap := T.keep _ _ _ st3 fun b _ o e => by rw [← hs4]; exact pushCells_keeps _ _ _ _ (Heap.get?_push_of_some _ e)
  have stat : ∀ {H' : Hp}, (∀ b ∈ fp, H' b = none) → ∀ b ∈ fp, FpOk (X.blk s3 (upd H2 D (DicT D [] 0)) scope ce fp) [] H' b := fun {H'} hn b hb =>
    ⟨hn b hb, (I4.ok.exf b hb).1, I4.ok.exfs b hb, .inl hb, fun x c e => (I4.ok.exf b hb).2 x c e, fun p hp => absurd (show p ∈ ([] : List (Addr × Obj)) ++ [] from hp) (by simp)⟩
  rw [hown] at I4
  have loop := dc_loop (B := X.blk s3 (upd H2 D (DicT D [] 0)) scope ce fp) (Dd := D) (kx := kx) (vx := vx) (tg := tg) (iter := iter) (scope := scope) (pos := pos) (Rr := compPost (model X.prog X.w) X.A X.xe use Qf (.ref D) s3.heap.objs.size)
    (fun _ _ h => h) hc (u9 hr) pg pk pv T (pins := []) (fun H' hn b hb => stat hn b hb) (src := src) (σw := wipe σ vs) (envw := wipeE env vs) (F := F) (SF := SF) (H0 := H2) (ρ0 := ρ1)
    (fun s6 H1' ρ' es ep I6 hD' x' sm' ra' n' => by
      have I7 : Inv X pins σ (upd H1' D (DicT D es ep)) s6 := I3.call' (ch := fp) I6.os I6.base I6.hok I6.bare fun b hb => ⟨(f3 b hb).1.2.2.2.1, (f3 b hb).1.2.1, (f3 b hb).1.2.2.2.2.1, (f3 b hb).1.2.2.2.2.2⟩
      have nC : (upd H1' D (DicT D es ep)) s3.heap.objs.size = none := by
        have z : (upd H1' D (DicT D es ep)) ce.locals = none := I6.free
        rw [cL] at z
        exact z
      obtain ⟨m, hn, _⟩ := I6.loc
      have hn : s6.heap.Ns ce.locals m := hn
      rw [cL] at hn
      have q : Q (.ref D) (upd H1' D (DicT D es ep)) := by
        refine Post.retN (Post.ext x' c1) sm' hD' ?_
        unfold RepV
        exact ⟨D, es, ep, rfl, ⟨sm'.notin hD', upd_same⟩, ra'.ext (Ext.new hD')⟩
      exact hRR D s3.heap.objs.size s6 m _ I7 q hn (I3.fpOk (Nat.le_refl _) nC))
    (fun σ' o => only_same o)
    (src.len S1) 0 s4 H2 ρ1 [] 0 [] [] S1 I4 st4 nfp hDn Ext.refl r1 ((a.ext x1).wipe vs) sm1 repD_nil ego
  exact codeAny_compStart_dict loop (T.self X.A 0 _ _ _ st4 loop)
/-- y = {..} on one line -/
theorem ds_setDc {i : Nat} {y : Str} {py : Pos} {kx vx tg iter : Expr} {scope : Scope} {own : List (Str × Nat)} {pos spos : Pos} {fi : CI} {g : CG} {fk fv : CE} {vs : List Nat} {kr : Nat} (hr : Room kr X.A) (hown : own.map (·.2) = vs)
    (hc : X.calm = true) (hN : X.N.Nodup) (hy : X.N[i]? = some y) (hyl : X.env.scope.names.lookup y = some .local)
    (hsw : swapsWith (.DictComp kx vx [⟨tg, iter, [], 0⟩] scope pos) (some (.Name y py)) spos.line X.env = pure true) (ok : BlkOk X.N X.env.scope scope own) (hi : DI X W tg iter fi)
    (hg : ∀ (s : Shared) (H : Hp) (C : Addr) (cl : List (Str × Addr)) (fp : List Addr), DG (X.blk s H scope (compEnvC scope cl C X.env) fp) tg g vs)
    (hk : ∀ (s : Shared) (H : Hp) (C : Addr) (cl : List (Str × Addr)) (fp : List Addr), DE (X.blk s H scope (compEnvC scope cl C X.env) fp) WF kx fk)
    (hv : ∀ (s : Shared) (H : Hp) (C : Addr) (cl : List (Str × Addr)) (fp : List Addr), DE (X.blk s H scope (compEnvC scope cl C X.env) fp) WF vx fv)
    (hs : ∀ x, foldedSetIterable iter X.env x = pure x) :
    DS X W (.Assign [.Name y py] (.DictComp kx vx [⟨tg, iter, [], 0⟩] scope pos) spos) (sAsg (eDcN fi g vs fk fv) (gName i)) := by
  have p : PS X (.Assign [.Name y py] (.DictComp kx vx [⟨tg, iter, [], 0⟩] scope pos) spos) (tAsg (tG X.K X.mg (RepV X.K) W (eDcN fi g vs fk fv)) (L2.gName i)) := by
    refine ⟨fun pins s σ H D I h => ?_⟩
    rw [exec_Assign_Name_used _ _ _ _ hsw]
    refine wpAny_bind (wpAny_standAt (wpAny_bind ?_))
    show wpAny _ X.A (do let _ ← comprehension (.DictComp kx vx [⟨tg, iter, [], 0⟩] scope pos) scope X.env (firstIterPos [⟨tg, iter, [], 0⟩] pos) newDict false (eval iter X.env) (some (assign (.Name y py) X.env))) _ _ s
    have h : tG X.K X.mg (RepV X.K) W (eDcN fi g vs fk fv) σ H (fun x H1 => L2.gName i x σ H1 D.nx) := h
    refine wpAny_bind (thn (dcj_core (Qf := fun _ s' => SP X pins D .next s') hr hown hc hN I ok hi hg hk hv hs h fun L C s' m H' I' q hn f => ?_) fun _ s' hq => wpAny_pure (wpAny_pure hq))
    show wpAny _ _ (assign (.Name y py) X.env (.ref L)) _ _ _
    refine wpAny_assign_Name (store_ok2 (v := V.ref L) I' hN hy (.inl hyl) rfl (fun s2 I2 ⟨a, sb, ha⟩ => ?_) (.inr hyl))
    obtain ⟨f0, f1, f2, f3, f4, f5⟩ := f
    have haC : C ≠ a := by
      rcases ha with z | z
      · rw [z]; exact f1
      · exact fun e => f4 y a z e.symm
    refine ⟨m, hn.sameBut sb haC, fun h3 sb3 => ?_⟩
    exact ⟨_, H', I2.turned (t' := s2.toks) (fun b o hb e => (sb3.2 b hb).trans e) f0 f1 f3 f4 f5, q⟩
  exact DS.of p fun Dn σ H env ρ S a b c => tG.of a b ((PostS.st (rep := RepV X.K) a c).mono fun v H1 ⟨ρ1, S1, x, x1, s1, r1, c1⟩ => PostS.nxt c1 s1 ((a.ext x1).set r1))
end
end J

namespace J
open PySem PySem.Spec PyProof.Rows L2
/-! ## len(set(x)), x a list of ints -/
section
variable {X : Cx} {W : WX} {e : Expr} {fs : CA} {p p' pos pos' : Pos}
end
end J

namespace J
open PySem PySem.Spec PyProof.Rows L2
/-! ## a def that calls itself -/
theorem dss_never {X : Cx} {W : WX} {st : List Stmt} : DSs X W st sBad := ⟨fun pins s σ H Dn I h => by
  obtain ⟨env, ρ, S, a, b, c⟩ := h
  exact c.elim⟩
/-! ## dict(d), d a dict whose keys are tuples -/
section
variable {prog : Program} {w : World} {K : Type} [DecidableEq K] {knd : HeapKind prog w K} {A : Around} {E : Value → Shared → Prop} {s : Shared}
theorem call_dictH {o : Addr} {more : List (K × Addr × Value)} {Q : Value → Shared → Prop} (hu : ∀ A' : Around, A'.units ≤ A.units + 4 → knd.room A') (hoS : (o == sysModules) = false) (ho : s.heap.DictOfH knd o more) (hsz : more.length ≤ sizeLine)
    (hty : ∀ x ∈ more, s.TypeIs (.ref x.2.1) "tuple") (hap : (more.map fun x => knd.hash x.1).Nodup) (hst : ∀ x ∈ more, knd.is (s.heap.push { cls := .type "dict", data := .dict #[] }) x.1 x.2.1)
    (h : ∀ h', h'.DictOfH knd s.heap.objs.size more → Heap.SameBut s.heap.objs.size (s.heap.push { cls := .type "dict", data := .dict #[] }) h' → Q (.ref s.heap.objs.size) { s with heap := h' }) :
    wpAny (model prog w) A (call (.type "dict") [.ref o]) Q E s := by
  refine callType_codes (Q₁ := fun obj s₁ => obj = .ref s.heap.objs.size ∧ s₁ = { s with heap := s.heap.push { cls := .type "dict", data := .dict #[] } }) F.kt_called_dict (F.kt_typeCall_dict_1 _) F.entry_dict_init (kt_code_dict_new _ ⟨rfl, rfl⟩) ?_
  rintro obj s₁ ⟨rfl, rfl⟩
  obtain ⟨oo, eso, epo, hoo, hco, hdo', heo, hiso, hno⟩ := id ho
  have hnew : (s.heap.push { cls := .type "dict", data := .dict #[] }).DictOfH knd s.heap.objs.size [] := ⟨_, #[], 0, Heap.get?_push_size s.heap rfl, ⟨rfl, rfl, rfl⟩, rfl, rfl, fun _ hx => (nomatch hx), List.nodup_nil⟩
  have ho' : (s.heap.push { cls := .type "dict", data := .dict #[] }).DictOfH knd o more := ⟨oo, eso, epo, Heap.get?_push_of_some _ hoo, hco, hdo', heo, hst, hno⟩
  have hdo : s.heap.objs.size ≠ o := fun e => absurd (Heap.lt_size hoo) (by rw [e]; exact Nat.lt_irrefl _)
  refine ⟨hnew.typeIs, F.args_dict_init_2 _ _, ?_⟩
  unfold Builtin.«dict.__init__»
  refine wpAny_bind ?_
  unfold Builtin.Dict.selfAndRest
  refine wpAny_bind (wpAny_notOrdered_dict hnew.typeIs ?_)
  show wpAny _ _ (pure (s.heap.objs.size, [Value.ref o])) _ _ _
  refine wpAny_pure ?_
  show wpAny _ _ (Builtin.Dict.updateFrom "dict.__init__" s.heap.objs.size (.ref o) [] .none) _ _ _
  unfold Builtin.Dict.updateFrom
  refine wpAny_bind (wpAny_typeOf ho'.typeIs ?_)
  rw [if_neg (by decide)]
  refine wpAny_bind ?_
  unfold Builtin.Dict.merge
  refine wpAny_bind ?_
  unfold Builtin.Dict.readDirectly
  refine wpAny_bind (wpAny_isInstance ho'.typeIs isSubtype_dict_dict ?_)
  simp only [Bool.not_true, Bool.false_eq_true, if_false]
  refine wpAny_bind (wpAny_specialOf ho'.typeIs F.slot_dict_iter.lookup (wpAny_pure ?_))
  simp only [beq_self_eq_true, if_true]
  refine wpAny_bind (wpAny_pure ?_)
  refine wpAny_mergeDict_heap (hsz := by simpa using hsz) (hu _ (by simp [Around.in1])) hdo hoS hnew ho' (.inr ⟨fun x hx => ?_, hap⟩) fun h' hd' _ hs' => ?_
  · obtain ⟨ob, h1, h2⟩ := hty x hx
    exact ⟨ob, Heap.get?_push_of_some _ h1, h2⟩
  · show wpAny _ _ (Builtin.Dict.addKeywords s.heap.objs.size [] >>= _) _ _ _
    rw [storedAllH_nil_of_nodup more hno] at hd'
    exact wpAny_bind (wpAny_pure (wpAny_pure ⟨rfl, h h' hd' hs'⟩))
end
section
variable {X : Cx} {W : WX} {pins : List (Addr × Obj)} {σ : L2.St} {H : Hp} {s : Shared} {a : Addr} {es : List Ent} {ep : Nat} {A : Around} {E : Value → Shared → Prop}
theorem eh_mem {x : NestedKey × Addr × Value} : ∀ {es : List Ent} {ys : List (NestedKey × Addr × Value)}, EH es ys → x ∈ ys → ∃ e ∈ es, e.1 = x.1 ∧ e.2.1 = .ref x.2.1
  | _, _, .cons h t, hx => by
    rcases List.mem_cons.mp hx with rfl | hx
    · exact ⟨_, List.mem_cons_self, h.1.symm, h.2.1⟩
    · obtain ⟨e, he, p⟩ := eh_mem t hx
      exact ⟨e, List.mem_cons_of_mem _ he, p⟩
theorem eh_hash (w : World) : ∀ {es : List Ent} {ys : List (NestedKey × Addr × Value)}, EH es ys → ys.map (fun x => x.1.hash w) = es.map fun e => e.1.hash w
  | _, _, .nil => rfl
  | _, _, .cons h t => by rw [List.map_cons, List.map_cons, eh_hash w t, h.1]
theorem dic_copy {Q : Value → Shared → Prop} (hu : A.units + 20 < cLine) (I : Inv X pins σ H s) (hd : H a = some (DicT a es ep)) (ok : ∀ e ∈ es, KeyV X.K H e.2.1 e.1 ∧ e.1.depth ≤ 8 ∧ ∃ b, e.2.1 = .ref b) (hap : ∀ w, (es.map fun e => e.1.hash w).Nodup)
    (h : ∀ p ep' s', H p = none → Inv X pins σ (upd H p (DicT p es ep')) s' → Q (.ref p) s') : wpAny (model X.prog X.w) A (call (.type "dict") [.ref a]) Q E s := by
  obtain ⟨hs, hz, _⟩ := Inv.dic I hd
  obtain ⟨ys, dd, rel⟩ := toH I hd ok
  have hz1 : ys.length ≤ sizeLine := by rw [← Paired.length rel]; exact hz
  have I' : Inv X pins σ H { s with heap := s.heap.push { cls := .type "dict", data := .dict #[] } } := I.kept (t' := s.toks) fun b o e => Heap.get?_push_of_some _ e
  have hp : H s.heap.objs.size = none := I.hok.fresh (Nat.le_refl _)
  refine call_dictH (knd := nestedKind X.prog X.w) (fun A' hA => by show A'.units + 8 < cLine; omega) hs dd hz1 (fun x hx => ?_) ?_ (fun x hx => ?_) fun h' dd' hsb => ?_
  · obtain ⟨e, he, e1, e2⟩ := eh_mem rel hx
    have n := KeyV.is I (ok e he).1 (u := .ref x.2.1) (by rw [e2]; rfl)
    rcases hk : e.1 with _ | i | t | ks <;> rw [hk] at n
    · cases n
    · cases n
    · cases n
    · cases n with
      | tup g c d _ => exact ⟨_, g, c⟩
  · show (ys.map fun x => x.1.hash X.w).Nodup
    rw [eh_hash X.w rel]; exact hap X.w
  · obtain ⟨e, he, e1, e2⟩ := eh_mem rel hx
    have n := KeyV.is I' (ok e he).1 (u := .ref x.2.1) (by rw [e2]; rfl)
    rw [e1] at n
    exact ⟨n, by rw [← e1]; exact (ok e he).2.1⟩
  · have hs2 : (s.heap.objs.size == sysModules) = false := beq_eq_false_iff_ne.mpr (Nat.ne_of_gt I.big)
    obtain ⟨ep', ok'⟩ := fromH (H' := upd H s.heap.objs.size (DicT s.heap.objs.size es 0)) hs2 hz (fun e he => (ok e he).1.hash) dd' rel
    refine h _ ep' _ hp (I.laid (t' := s.toks) (fun b u e => ?_) (Nat.le_refl _) ok')
    exact (hsb.2 b (Nat.ne_of_lt (Heap.lt_size e))).trans (Heap.get?_push_of_some _ e)
def rDictD (K : PySem.W.Frag) : List V → Hp → VK → Prop := fun vs H Q => ∃ (a : Addr) (es : List Ent) (ep : Nat), vs = [V.ref a] ∧ H a = some (DicT a es ep) ∧ (∀ e ∈ es, KeyV K H e.2.1 e.1 ∧ e.1.depth ≤ 8 ∧ ∃ b, e.2.1 = .ref b) ∧ (∀ w, (es.map fun e => e.1.hash w).Nodup) ∧
  ∀ p ep', H p = none → Q (.ref p) (upd H p (DicT p es ep'))
theorem cr_dictD (hu : X.A.units + 20 < cLine) : CallR X (.type "dict") (rDictD X.K) := by
  intro pins s σ H vs us Q I r h
  obtain ⟨a, es, ep, rfl, hd, ok, hap, q⟩ := h
  rw [Vals.ref1 r]
  exact dic_copy hu I hd ok hap fun p ep' s' hp I' => ⟨.ref p, _, I', rfl, q p ep' hp⟩
def cpOk (ks : List D) : Prop := ks.all D.isT = true ∧ D.deps ks ≤ 8 ∧ ∃ ns, D.nks ks = some ns ∧ ∀ w : World, (ns.map fun n => n.hash w).Nodup
open Classical in
noncomputable def gDictS (as : List D) (S : Sto) : R D := one as fun d => match dicOf S d with
  | some (ks, vs) => if cpOk ks then .ok (.rdc S.length) (S ++ [.dic ks vs]) else .bad
  | none => .bad
theorem o_dictS {K : PySem.W.Frag} {mg : Str → Option Value} : OpN K mg (rDictD K) gDictS := fun H ρ S as xs w Q s r c => by
  obtain ⟨d, v, rfl, rfl, rd, c⟩ := one_rep r c
  cases el : dicOf S d with
  | none => rw [el] at c; exact c.elim
  | some kv =>
    obtain ⟨ks, vs⟩ := kv
    rw [el] at c
    simp only at c
    by_cases hk : cpOk ks
    · rw [if_pos hk] at c
      obtain ⟨a, es, ep, rfl, h1, rD⟩ := dic_rep s rd el
      obtain ⟨k1, k2, ns, k3, k4⟩ := hk
      have en : ns = es.map (·.1) := Option.some.inj (k3.symm.trans rD.1)
      refine ⟨a, es, ep, rfl, h1, fun e he => ?_, fun w' => ?_, fun p ep' hp => ?_⟩
      · obtain ⟨x, hx, e1, r1⟩ := nks_mem rD.1 rD.2.1 e he
        exact ⟨KeyV.of x _ _ r1 e1, Nat.le_trans (nk_depth x _ e1) (Nat.le_trans (dep_mem hx) k2), isT_of (List.all_eq_true.mp k1 x hx) r1⟩
      · have := k4 w'
        rw [en, List.map_map] at this
        exact this
      · refine c _ _ (ρ.push p) (Ext.take hp (Ext.new hp)) (sim_takeO s hp ⟨es, ep', upd_same, rD.ext (Ext.take hp (Ext.new hp)), fun z => ?_⟩) ?_
        · obtain ⟨es', ep'', q⟩ := s.fz p z
          rw [hp] at q; cases q
        · unfold RepV
          exact ⟨p, rfl, by rw [← s.len]; simp [Rg.push], _, _, upd_same⟩
    · rw [if_neg hk] at c; exact c.elim
theorem f_dictS {e : Expr} {fs : CA} {p pos : Pos} {k : Nat} (hr : Room k X.A) (hg : Gl X "dict") (hm : X.mg "dict" = none) (ha : DA X W [e] fs) (he : starEach [e] X.env = (false, eval e X.env) :: starEach [] X.env := by rfl) (hpl : (backTo pos (starEach [] X.env)).any (·.1) = false := by rfl) : DE X W (.Call (.Name "dict" p) [e] [] pos) (eCall gDictS fs) :=
  de_tCB (pe_callTy (cr_dictD (by have := hr.units; omega)) hg hm (by decide +kernel) ha (by decide) (by decide) he hpl) o_dictS
end
end J

namespace J
open PySem PySem.Spec PyProof.Rows L2
/-! ## <, <=, >, >= of data that are alike -/
def cmpD (f : D → D → Bool) (a b : D) (S : Sto) : R D := if D.alk a b = true ∧ D.alk b a = true ∧ a.dep ≤ 60 ∧ b.dep ≤ 60 then .ok (.bl (f a b)) S else .bad
def gLeD (a b : D) (S : Sto) : R D := cmpD (fun a b => !D.lt b a) a b S
def rCmpD (K : PySem.W.Frag) (f : PyData → PyData → Bool) : R2 := fun x y H Q => ∃ d e : PyData, Dp K H x d ∧ Dp K H y e ∧ PySem.W.alike d e = true ∧ PySem.W.alike e d = true ∧ d ≠ .none ∧ d.depth ≤ 60 ∧ Q (.bl (f d e)) H
open PySem.W in
theorem op_cmpD {X : Cx} {op : CmpOp} {f : PyData → PyData → Bool} (hu : X.A.units + 65 < cLine)
    (hk : ∀ {prog : Program} {w : World} {A : Around} {s : Shared} {a b : Value} {da db : PyData} {as bs : List Addr} {Q : Value → Shared → Prop} {E : Value → Shared → Prop}, Reads s.heap a da as → Reads s.heap b db bs → alike da db = true → da ≠ .none → A.units + min da.depth db.depth < cLine → Q (.bool (f da db)) s → wpAny (model prog w) A (compareOp op a b) Q E s) :
    OpR X (compareOp op) (rCmpD X.K f) := by
  intro pins s σ H x y v u Q I rx ry h
  obtain ⟨d, e, h1, h2, ha, _, hn, hd, q⟩ := h
  obtain ⟨as, r1⟩ := Dp.reads I d x v h1 rx
  obtain ⟨bs, r2⟩ := Dp.reads I e y u h2 ry
  exact hk r1 r2 ha hn (by have := Nat.min_le_left d.depth e.depth; omega) ⟨.bl _, H, I, rfl, q⟩
open PySem.W in
theorem o_cmpD {K : PySem.W.Frag} {mg : Str → Option Value} {f : PyData → PyData → Bool} {g : D → D → Bool} (hfg : ∀ a b : D, a.dep < 100 → b.dep < 100 → D.alk a b = true → D.alk b a = true → f a.py b.py = g a b) : Op2 K mg (rCmpD K f) (cmpD g) := fun H ρ S a b x y w Q s ra rb c => by
  unfold cmpD at c
  split at c
  · rename_i h
    obtain ⟨h1, h2, h3, h4⟩ := h
    refine ⟨a.py, b.py, dp_of a x (by omega) ra, dp_of b y (by omega) rb, alk_py _ _ h1, alk_py _ _ h2, ?_, ?_, ?_⟩
    · intro e
      cases a <;> simp [D.alk] at h1 <;> simp [D.py] at e
    · rw [(py_shape a (by omega)).2]; exact h3
    · rw [hfg a b (by omega) (by omega) h1 h2]
      exact c.ret s (by unfold RepV; rfl)
  · exact c.elim
section
variable {X : Cx} {W : WX} {k : Nat} {a b : Expr} {fa fb : CE} {pos : Pos}
theorem un65 (hr : Room k X.A) : X.A.units + 65 < cLine := by have := hr.un; omega
theorem o_leD {K : PySem.W.Frag} {mg : Str → Option Value} : Op2 K mg (rCmpD K fun a b => !PySem.W.dataLt b a) gLeD := o_cmpD fun a b h1 h2 _ h4 => by rw [lt_py b a h2 h1 h4]
theorem op_leD (hr : Room k X.A) : OpR X (compareOp .LtE) (rCmpD X.K fun a b => !PySem.W.dataLt b a) := op_cmpD (un65 hr) fun r1 r2 h1 h2 h3 q => PySem.W.le_data r1 r2 h1 h2 h3 q
theorem t_leD (hr : Room k X.A) (ha : DE X W a fa) (hb : DE X W b fb) : DT X W (.Compare a [.LtE] [b] pos) (tBool (eOp gLeD fa fb)) := dt_cmp (op_leD hr) o_leD ha hb (nomark _)
end
/-! ## {k: v} -/
section
variable {X : Cx} {W : WX} {pos : Pos} {key val : Expr} {tk tv : TE} {fk fv : CE}
end
end J

namespace J
open PySem PySem.Spec PyProof.Rows L2
/-! ## min(a, b) of data that are alike -/
section
open PySem.W
variable {prog : Program} {w : World} {A : Around} {E : Value → Shared → Prop} {s : Shared}
end
section
variable {X : Cx} {W : WX} {k : Nat} {e e2 : Expr} {fs : CA} {p pos : Pos}
end
/-! ## came |= fresh: keys that are tuples, none in both -/
section
variable {prog : Program} {w : World} {K : Type} [DecidableEq K] {knd : HeapKind prog w K} {A : Around} {E : Value → Shared → Prop} {s : Shared}
end
end J

namespace J
open PySem PySem.Spec PyProof.Rows L2
/-! ## sorted of at most one thing, of any kind -/
section
variable {X : Cx} {W : WX} {k : Nat} {e : Expr} {fs : CA} {p pos : Pos}
end
end J

/-! zip of two sequences, each a list or a tuple -/
namespace JZ
open PySem PySem.Spec PyProof.Rows L2
/-- an iterator over a tuple (true), over a list (false) -/
def ItB (f : Bool) (h : Heap) (it l : Addr) (i : Nat) : Prop := match f with
  | true => h.IsTupleIter it l i
  | false => h.IsListIter it l i
def SB (f : Bool) (h : Heap) (l : Addr) (xs : Array Value) : Prop := match f with
  | true => h.IsTuple l xs
  | false => h.IsList l xs
def nmB (f : Bool) : String := match f with
  | true => "tuple_iterator"
  | false => "list_iterator"
section
variable {f g : Bool} {h h' : Heap} {it l p : Addr} {i : Nat} {xs : Array Value}
theorem ItB.ext (q : ItB f h it l i) (e : Heap.ExtBut p h h') (n : it ≠ p) : ItB f h' it l i := by
  cases f with
  | true => exact Heap.IsTupleIter.extBut q e n
  | false => exact Heap.IsListIter.extBut q e n
theorem SB.ext (q : SB f h l xs) (e : Heap.ExtBut p h h') (n : l ≠ p) : SB f h' l xs := by
  cases f with
  | true => exact Heap.IsTuple.extBut q e n
  | false => exact Heap.IsList.extBut q e n
theorem ItB.up (q : ItB f h it l i) (k : ∀ o, h.get? it = some o → h'.get? it = some o) : ItB f h' it l i := by
  cases f with
  | true => exact Heap.IsTupleIter.at q k
  | false => exact Heap.IsListIter.at q k
theorem ItB.obj (q : ItB f h it l i) : ∃ o, h.get? it = some o ∧ ∀ v, o.data ≠ .cell v := by
  cases f with
  | true => obtain ⟨o, e, _, d⟩ := q; exact ⟨o, e, fun v z => by rw [d] at z; cases z⟩
  | false => obtain ⟨o, e, _, d⟩ := q; exact ⟨o, e, fun v z => by rw [d] at z; cases z⟩
theorem ItB.lt (q : ItB f h it l i) : it < h.objs.size := by obtain ⟨o, e, _⟩ := q.obj; exact Heap.lt_size e
end
section
variable {prog : Program} {w : World} {A : Around} {E : Value → Shared → Prop} {s : Shared} {f g : Bool}
end
/-! making it -/
theorem SB.push {f : Bool} {h : Heap} {l : Addr} {xs : Array Value} (q : SB f h l xs) (o : Obj) : SB f (h.push o) l xs := by
  cases f with
  | true => exact Heap.IsTuple.push q o
  | false => exact Heap.IsList.push q o
theorem ItB.new {f : Bool} {h' : Heap} {l it : Addr} (e : h'.get? it = some { cls := .type (nmB f), data := .fields #[.ref l, .int 0 0] }) : ItB f h' it l 0 := by
  cases f with
  | true => exact ⟨_, e, rfl, rfl⟩
  | false => exact ⟨_, e, rfl, rfl⟩
end JZ

namespace J
open PySem PySem.Spec PyProof.Rows L2
/-! ## zip -/
section
variable {X : Cx} {W : WX} {e e2 : Expr} {ta : TA} {fa : CA} {p pos tpos : Pos} {elts : List Expr} {kk : Nat}
end
/-! ## a slice of a list, as a new list -/
section
variable {X : Cx} {W : WX} {e : Expr} {fe : CE} {lo hi : Option Expr} {fl fh : CO} {pos p2 : Pos}
end
/-! ## list(range(a, b)) -/
section
variable {X : Cx} {W : WX} {e e2 : Expr} {fe fe2 : CE} {p p2 pos pos2 : Pos}
end
end J

namespace J
open PySem PySem.Spec PyProof.Rows L2
/-! ## two lists together, as a new list in the store -/
section
variable {X : Cx} {W : WX} {e e2 : Expr} {fe fe2 : CE} {pos : Pos}
end
end J

namespace J
open PySem PySem.Spec PyProof.Rows L2
/-! ## tuple * n with n at most 0: a new empty tuple -/
section
variable {X : Cx} {W : WX} {k : Nat} {a b e e2 : Expr} {fa fb : CE} {fs : CA} {p pos : Pos}
end
end J

namespace J
open PySem PySem.Spec PyProof.Rows L2
/-! ## sets of nested tuples: what the table asks of its keys -/
mutual
/-- no text in it -/
def nkI : NestedKey → Bool
  | .none => true
  | .num _ => true
  | .text _ => false
  | .tup ks => nkIs ks
def nkIs : List NestedKey → Bool
  | [] => true
  | k :: ks => nkI k && nkIs ks
end
section
variable {P : Program} {w : World}
/-- v belongs to no class statement -/
def ClsNo (P : Program) (w : World) (n : Nat) (s : Shared) (v : Value) : Prop := ∀ (A : Around) (E : Value → Shared → Prop) (Z : Bool → Shared → Prop), Z false s → wpAny (model P w) A (ofAClassStatement n v) Z E s
/-- the hash of v is that of its value -/
def HbYes (P : Program) (w : World) (n : Nat) (s : Shared) (v : Value) : Prop := ∀ (A : Around) (E : Value → Shared → Prop) (Z : Bool → Shared → Prop), Z true s → wpAny (model P w) A (hashByValue n v) Z E s
theorem ClsNo.of {n : Nat} {s : Shared} {v : Value} (h : ofAClassStatement n v = pure false) : ClsNo P w n s v := fun A E Z q => h ▸ wpAny_pure q
theorem HbYes.of {n : Nat} {s : Shared} {v : Value} (h : hashByValue n v = pure true) : HbYes P w n s v := fun A E Z q => h ▸ wpAny_pure q
theorem ClsNo.tup {n m : Nat} {s : Shared} {a : Addr} {o : Obj} {vs : Array Value} (g : s.heap.get? a = some o) (c : o.cls = .type "tuple") (d : o.data = .seq vs m) (all : ∀ v ∈ vs.toList, ClsNo P w n s v) : ClsNo P w (n + 1) s (.ref a) := fun A E Z q => by
  unfold ofAClassStatement
  refine wpAny_bind (wpAny_typeOf ⟨o, g, c⟩ ?_)
  have tt : (("tuple" : String) == "tuple") = true := by decide
  simp only [tt, if_true, Bool.not_true, Bool.false_eq_true, if_false]
  try refine wpAny_bind (wpAny_pure ?_)
  try simp only [Bool.not_true, Bool.false_eq_true, if_false]
  show wpAny _ _ (seqItems? (.ref a) >>= _) _ _ s
  refine wpAny_bind (wpAny_seqItems g d (wpAny_bind ?_))
  show wpAny _ _ (forIn vs _ _) _ _ s
  rw [← Array.forIn_toList]
  refine wpAny_forIn_list _ (fun l r s' => (r.1 = none ∧ ∀ v ∈ l, ClsNo P w n s v) ∧ s' = s) _ (fun v l r s' h => ?_) (fun r s' h => ?_) _ _ ⟨⟨rfl, all⟩, rfl⟩
  · obtain ⟨⟨r1, hl⟩, rfl⟩ := h
    refine wpAny_bind (hl v (by simp) _ _ _ ?_)
    simp only [Bool.false_eq_true, if_false]
    exact wpAny_pure ⟨⟨rfl, fun u hu => hl u (by simp [hu])⟩, rfl⟩
  · obtain ⟨r1, r2⟩ := r
    obtain ⟨⟨hr, _⟩, rfl⟩ := h
    simp only at hr
    cases hr
    exact wpAny_pure q
theorem HbYes.tup {n m : Nat} {s : Shared} {a : Addr} {o : Obj} {vs : Array Value} (g : s.heap.get? a = some o) (c : o.cls = .type "tuple") (d : o.data = .seq vs m) (all : ∀ v ∈ vs.toList, HbYes P w n s v) : HbYes P w (n + 1) s (.ref a) := fun A E Z q => by
  have tI : s.TypeIs (.ref a) "tuple" := ⟨o, g, c⟩
  unfold hashByValue
  refine wpAny_bind (wpAny_specialOf tI F.slot_tuple_hash.lookup ?_)
  show wpAny _ _ (seqItems? (.ref a) >>= _) _ _ s
  refine wpAny_bind (wpAny_seqItems g d (wpAny_bind ?_))
  show wpAny _ _ (forIn vs _ _) _ _ s
  rw [← Array.forIn_toList]
  refine wpAny_forIn_list _ (fun l r s' => (r.1 = none ∧ ∀ v ∈ l, HbYes P w n s v) ∧ s' = s) _ (fun v l r s' h => ?_) (fun r s' h => ?_) _ _ ⟨⟨rfl, all⟩, rfl⟩
  · obtain ⟨⟨r1, hl⟩, rfl⟩ := h
    refine wpAny_bind (hl v (by simp) _ _ _ ?_)
    simp only [Bool.not_true, Bool.false_eq_true, if_false]
    exact wpAny_pure ⟨⟨rfl, fun u hu => hl u (by simp [hu])⟩, rfl⟩
  · obtain ⟨r1, r2⟩ := r
    obtain ⟨⟨hr, _⟩, rfl⟩ := h
    simp only at hr
    cases hr
    exact wpAny_pure q
mutual
theorem cls_nk : ∀ (k : NestedKey) (v : Value) (n : Nat) (s : Shared), NestedIs s.heap k v → k.depth ≤ n → ClsNo P w n s v
  | .none, _, n, s, x, _ => by cases x; exact .of (by cases n <;> rfl)
  | .num i, _, n, s, x, _ => by cases x <;> exact .of (by cases n <;> rfl)
  | .text y, _, n, s, x, _ => by cases x; exact .of (by cases n <;> rfl)
  | .tup ks, _, n, s, x, hn => by
    cases x with
    | tup g c d hk =>
      simp only [NestedKey.depth] at hn
      cases n with
      | zero => omega
      | succ n => exact .tup g c d (cls_nks ks _ n s hk (by omega))
theorem cls_nks : ∀ (ks : List NestedKey) (vs : List Value) (n : Nat) (s : Shared), NestedAll s.heap ks vs → NestedKey.depthAll ks ≤ n → ∀ v ∈ vs, ClsNo P w n s v
  | [], _, n, s, x, _, v, hv => by cases x; cases hv
  | k :: ks, _, n, s, x, hn, v, hv => by
    cases x with
    | cons y z =>
      simp only [NestedKey.depthAll] at hn
      rcases List.mem_cons.mp hv with rfl | hv
      · exact cls_nk k _ n s y (by omega)
      · exact cls_nks ks _ n s z (by omega) v hv
end
mutual
theorem hb_nk : ∀ (k : NestedKey) (v : Value) (n : Nat) (s : Shared), NestedIs s.heap k v → nkI k = true → k.depth ≤ n → HbYes P w n s v
  | .none, _, n, s, x, _, _ => by cases x; exact .of (by cases n <;> rfl)
  | .num i, _, n, s, x, _, _ => by cases x <;> exact .of (by cases n <;> rfl)
  | .text y, _, n, s, x, hi, _ => by simp [nkI] at hi
  | .tup ks, _, n, s, x, hi, hn => by
    cases x with
    | tup g c d hk =>
      simp only [NestedKey.depth] at hn
      simp only [nkI] at hi
      cases n with
      | zero => omega
      | succ n => exact .tup g c d (hb_nks ks _ n s hk hi (by omega))
theorem hb_nks : ∀ (ks : List NestedKey) (vs : List Value) (n : Nat) (s : Shared), NestedAll s.heap ks vs → nkIs ks = true → NestedKey.depthAll ks ≤ n → ∀ v ∈ vs, HbYes P w n s v
  | [], _, n, s, x, _, _, v, hv => by cases x; cases hv
  | k :: ks, _, n, s, x, hi, hn, v, hv => by
    cases x with
    | cons y z =>
      simp only [NestedKey.depthAll] at hn
      simp only [nkIs, Bool.and_eq_true] at hi
      rcases List.mem_cons.mp hv with rfl | hv
      · exact hb_nk k _ n s y hi.1 (by omega)
      · exact hb_nks ks _ n s z hi.2 (by omega) v hv
end
/-- the tuple at a is the key k -/
structure KeyT (h : Heap) (k : NestedKey) (a : Addr) : Prop where
  is : NestedIs h k (.ref a)
  dp : k.depth ≤ 8
  tx : nkI k = true
theorem KeyT.mono {h h' : Heap} {k : NestedKey} {a : Addr} (x : KeyT h k a) (m : ∀ b o vs n, h.get? b = some o → o.data = .seq vs n → h'.get? b = some o) : KeyT h' k a := ⟨NestedIs.at m _ _ x.is, x.dp, x.tx⟩
/-! ## the set at a: its rows in the table's order -/
def rwN (w : World) (L : List (Addr × NestedKey)) : List (Int × Value) := L.map fun p => (p.2.hash w, Value.ref p.1)
def hsN (w : World) (L : List (Addr × NestedKey)) : List Int := L.map fun p => p.2.hash w
structure SetN (w : World) (h : Heap) (a : Addr) (L : List (Addr × NestedKey)) (es : Array (Int × Value)) (t : SetTable) : Prop where
  ob : ∃ o ep, h.get? a = some o ∧ o.ExactSet ∧ o.data = .set es ep t
  rows : es.toList = rwN w L
  tab : TabOk t (hsN w L)
  nd : (L.map fun p => p.2).Nodup
  plain : t.plain = true
  led : w.params.followText "set-order" = true ∨ t.led = true
  room : L.length * 5 < t.mask * 3
variable {A : Around} {E : Value → Shared → Prop} {s : Shared} {a : Addr} {L : List (Addr × NestedKey)} {es : Array (Int × Value)} {t : SetTable}
theorem rwN_size (h : es.toList = rwN w L) : es.size = L.length := by
  rw [← Array.length_toList, h, rwN, List.length_map]
theorem fitsN {T : SetTable} (h1 : T.place.size = es.size) (h2 : T.dummies = #[]) (h3 : es.size ≤ T.mask) : T.fits es.size = true := by
  unfold SetTable.fits SetTable.fill
  rw [h2]
  simp [h1, h3]
theorem SetN.place (R : SetN w s.heap a L es t) : t.place.toList.length = L.length := by
  rw [Array.length_toList, R.tab.sz, hsN, List.length_map]
theorem SetN.fits (R : SetN w s.heap a L es t) : t.fits es.size = true := by
  have e1 := rwN_size R.rows
  have e2 := R.place
  have e3 := R.room
  rw [Array.length_toList] at e2
  exact fitsN (by omega) R.tab.dm (by omega)
section
variable (R : SetN w s.heap a L es t) (tup : ∀ p ∈ L, KeyT s.heap p.2 p.1) {x : Addr} {k : NestedKey} (hx : KeyT s.heap k x) (hu : A.units + 8 < cLine)
include R tup hx hu
end
end
end J

namespace J
open PySem PySem.Spec PyProof.Rows L2
/-! ## sets of nested tuples: adding -/
section
variable {w : World}
end
section
variable {P : Program} {w : World} {A : Around} {E : Value → Shared → Prop} {s : Shared} {a : Addr} {L : List (Addr × NestedKey)} {es : Array (Int × Value)} {t : SetTable}
theorem KeyT.set {h h' : Heap} {k : NestedKey} {b : Addr} {o : Obj} {ep : Nat} (x : KeyT h k b) (g : h.get? a = some o) (d : o.data = .set es ep t) (sb : Heap.SameBut a h h') : KeyT h' k b := x.mono fun c u vs n e1 e2 => by
  refine (sb.2 c fun z => ?_).trans e1
  subst z
  rw [g] at e1
  cases e1
  rw [d] at e2
  cases e2
end
end J

namespace J
open PySem PySem.Spec PyProof.Rows L2
/-! ## set(x), x a list of nested tuples -/
/-- what the set holds of the first i items -/
structure HasN (ks : List (Addr × NestedKey)) (i : Nat) (L : List (Addr × NestedKey)) : Prop where
  sub : ∀ p ∈ L, p ∈ ks.take i
  all : ∀ p ∈ ks.take i, ∃ q ∈ L, q.2 = p.2
  len : L.length ≤ i
theorem HasN.next {ks L M : List (Addr × NestedKey)} {i : Nat} {x : Addr × NestedKey} (h : HasN ks i L) (e : ks[i]? = some x) (m : (∃ p ∈ L, p.2 = x.2) ∧ M = L ∨ (¬ ∃ p ∈ L, p.2 = x.2) ∧ M.Perm ((x.1, x.2) :: L)) : HasN ks (i + 1) M := by
  have tk : ks.take (i + 1) = ks.take i ++ [x] := by rw [List.take_succ, e]; rfl
  rcases m with ⟨⟨q, q1, q2⟩, rfl⟩ | ⟨_, pm⟩
  · refine ⟨fun p hp => by rw [tk]; simp [h.sub p hp], fun p hp => ?_, by have := h.len; omega⟩
    rw [tk] at hp
    rcases List.mem_append.mp hp with z | z
    · exact h.all p z
    · rw [List.mem_singleton.mp z]; exact ⟨q, q1, q2⟩
  · refine ⟨fun p hp => ?_, fun p hp => ?_, by rw [pm.length_eq]; have := h.len; simp; omega⟩
    · rw [tk]
      rcases List.mem_cons.mp (pm.mem_iff.mp hp) with z | z
      · rw [z]; simp
      · simp [h.sub p z]
    · rw [tk] at hp
      rcases List.mem_append.mp hp with z | z
      · obtain ⟨q, q1, q2⟩ := h.all p z
        exact ⟨q, pm.mem_iff.mpr (by simp [q1]), q2⟩
      · rw [List.mem_singleton.mp z]
        exact ⟨(x.1, x.2), pm.mem_iff.mpr (by simp), rfl⟩
section
variable {P : Program} {w : World} {A : Around} {E : Value → Shared → Prop} {s : Shared}
theorem KeyT.old {h h' : Heap} {k : NestedKey} {b : Addr} (x : KeyT h k b) (m : ∀ c o, h.get? c = some o → h'.get? c = some o) : KeyT h' k b := x.mono fun c o _ _ e _ => m c o e
theorem SetN.old {h h' : Heap} {a : Addr} {L : List (Addr × NestedKey)} {es : Array (Int × Value)} {t : SetTable} (R : SetN w h a L es t) (m : ∀ o, h.get? a = some o → h'.get? a = some o) : SetN w h' a L es t := by
  obtain ⟨o, ep, g, r⟩ := R.ob
  exact { R with ob := ⟨o, ep, m o g, r⟩ }
end
end J

namespace J
open PySem PySem.Spec PyProof.Rows L2
/-! ## len(set(x)), x a list of nested tuples -/
section
variable {X : Cx} {W : WX} {e : Expr} {fs : CA} {p p' pos pos' : Pos}
end
end J

namespace J
open PySem PySem.Spec PyProof.Rows L2
/-! ## sorted(set(x)), x a list of nested tuples of ints -/
mutual
def toD : NestedKey → D
  | .none => .non
  | .num i => .int i
  | .text x => .str x
  | .tup ks => .tup (toDs ks)
def toDs : List NestedKey → List D
  | [] => []
  | k :: ks => toD k :: toDs ks
end
/-- the set at a holds the keys of ps, each once -/
def SetL (w : World) (a : Addr) (ps : List (Addr × NestedKey)) : HO := .ext fun h => ∃ L es t, SetN w h a L es t ∧ HasN ps ps.length L ∧ ps.length < 64
structure SubL (ps L : List (Addr × NestedKey)) : Prop where
  nd : (L.map fun p => p.2).Nodup
  sub : ∀ p ∈ L, p ∈ ps
  all : ∀ p ∈ ps, ∃ q ∈ L, q.2 = p.2
section
variable {X : Cx} {W : WX} {e : Expr} {fs : CA} {p p' pos pos' : Pos}
def rSetL (K : PySem.W.Frag) (w : World) : List V → Hp → VK → Prop := fun vs H Q => ∃ (a : Addr) (ps : List (Addr × NestedKey)), vs = [V.ref a] ∧ SqL K H a (ps.map fun p => V.ref p.1) ∧ (∀ p ∈ ps, KeyV K H (.ref p.1) p.2 ∧ p.2.depth ≤ 8 ∧ nkI p.2 = true) ∧ ps.length < 64 ∧
  ∀ q, H q = none → Q (.ref q) (upd H q (SetL w q ps))
/-! ### as data -/
end
end J

namespace J
open PySem PySem.Spec PyProof.Rows L2
/-! ## objects: fields, methods, making -/
section
variable {K : PySem.W.Frag} {H : Hp} {ρ : Rg} {S : Sto} {n : Nat} {a : Addr}
end
/-- a class of which nothing of the kind stands in the text -/
structure CF (K : PySem.W.Frag) (c f : Str) : Prop where
  cls : Cls K (He.ga K c)
  no : NoAttr K (He.ga K c) f
section
variable {X : Cx} {W : WX} {c f : Str} {e o : Expr} {fe fo fv : CE} {pos pos' : Pos} {value : Expr}
end
/-! ### methods -/
section
variable {X : Cx} {CX : CXT} {k : Nat} {f C : Addr} {fd : FuncData} {ps : List Str} {sp : Sp} {E : L2.St → XK} {m : Str} {pos apos : Pos} {e o : Expr} {es : List Expr} {ta : TE} {t : TA}
end
section
variable {X : Cx} {W : WX} {k kk np : Nat} {c m : Str} {F : List D → Sto → R D} {pos apos : Pos} {e o : Expr} {es : List Expr} {fo : CE} {fa : CA}
end
/-! ### making -/
section
variable {X : Cx} {CX : CXT} {k n : Nat} {f C : Addr} {fd : FuncData} {ps ks : List Str} {sp : Sp} {E : L2.St → XK} {x : Str} {p pos : Pos} {e : Expr} {es : List Expr} {kws : List Keyword} {t tk : TA} {g : List Value → List Value → List Value} {gV : List V → List V → List V}
end
section
variable {X : Cx} {W : WX} {k kk n m np : Nat} {c : Str} {F : List D → Sto → R D} {gD : List D → List D → List D} {ks : List Str} {p pos : Pos} {e : Expr} {es : List Expr} {kws : List Keyword} {fa fk : CA}
end
/-! ### len(x) of an object -/
end J

namespace J
open PySem PySem.Spec PyProof.Rows L2
/-! ## dicts of two entries, the keys of which may be of two kinds -/
mutual
theorem KeyV.upd {K : PySem.W.Frag} {H : Hp} {a : Addr} {u o : HO} (h : H a = some u) (hu : NTup u) : ∀ {v : V} {k : NestedKey}, KeyV K H v k → KeyV K (L2.upd H a o) v k
  | _, _, .non => .non
  | _, _, .bl b => .bl b
  | _, _, .int i => .int i
  | _, _, .tup q r => .tup (sqt_upd_nt h hu q) (KeyVs.upd h hu r)
theorem KeyVs.upd {K : PySem.W.Frag} {H : Hp} {a : Addr} {u o : HO} (h : H a = some u) (hu : NTup u) : ∀ {v : List V} {k : List NestedKey}, KeyVs K H v k → KeyVs K (L2.upd H a o) v k
  | _, _, .nil => .nil
  | _, _, .cons h1 t => .cons (KeyV.upd h hu h1) (KeyVs.upd h hu t)
end
section
variable {X : Cx} {pins : List (Addr × Obj)} {σ : L2.St} {H : Hp} {s : Shared} {a : Addr} {ep : Nat} {A : Around} {E : Value → Shared → Prop} {y1 v1 v2 : V} {u r : Value} {n1 : NestedKey} {i : Int}
end
section
variable {X : Cx} {W : WX} {pos : Pos} {k1 w1 k2 w2 : Expr} {t1 u1 t2 u2 : TE} {f1 g1 f2 g2 : CE}
end
section
variable {X : Cx} {W : WX} {pos : Pos} {k1 w1 k2 w2 : Expr} {f1 g1 f2 g2 : CE}
end
/-! ## an item of a dict, the keys of which may be of two kinds -/
/-! ## isinstance(x, dict) -/
def gIsiD (d : D) (S : Sto) : R D := match dicOf S d with
  | some _ => .ok (.bl true) S
  | none => gIsi "dict" d S
theorem call_isiDict {X : Cx} : CallR X (.builtin "isinstance") (fun xs H Q => ∃ (a : Addr) (es : List Ent) (ep : Nat), xs = [.ref a, .ty "dict"] ∧ H a = some (DicT a es ep) ∧ Q (.bl true) H) := by
  intro pins s σ H xs us Q I r h
  obtain ⟨a, es, ep, rfl, hd, q⟩ := h
  obtain ⟨u1, u2, rfl, r1, r2⟩ := r.two
  cases (show u1 = Value.ref a from r1)
  cases (show u2 = Value.type "dict" from r2)
  obtain ⟨o, hg, hc⟩ := dic_typeIs I hd
  exact PySem.W.kia_one (b := true) PySem.W.kitx_dict I.kIn ⟨o, hg, hc⟩ (kit_ty (isi_kit "dict" (by simp) (.dic [] []))) (fun z => nomatch z) fun tk => ⟨.bl true, H, I.tok tk, rfl, q⟩
section
variable {X : Cx} {W : WX} {e : Expr} {fe : CE} {p p2 pos : Pos}
theorem de_isiD (hg : Gl X "isinstance") (hm : X.mg "isinstance" = none) (hg2 : Gl X "dict") (hm2 : X.mg "dict" = none) (he : DE X W e fe)
    (hs : starEach [e, .Name "dict" p2] X.env = (false, eval e X.env) :: starEach [.Name "dict" p2] X.env := by rfl) (hpl : (backTo pos (starEach [.Name "dict" p2] X.env)).any (·.1) = false := by rfl) (hs2 : starEach [.Name "dict" p2] X.env = (false, eval (.Name "dict" p2) X.env) :: starEach [] X.env := by rfl) :
    DE X W (.Call (.Name "isinstance" p) [e, .Name "dict" p2] [] pos) (eUn gIsiD fe) :=
  DE.of (pe_callB (CallR.or call_isi call_isiDict) hg hm (by decide +kernel) (pa_cons he (pa_cons (pe_bltn (v := .ty "dict") hg2 hm2 (by decide +kernel) rfl (by decide) (by decide)) pa_nil hs2) hs) (by decide) (by decide) hs hpl) fun σ H Q env ρ S a b c => by
    refine tG.of a b ((Post.bind (rep := RepV X.K) c).mono fun v H1 ⟨ρ1, S1, d1, x1, s1, r1, c1⟩ => ?_)
    unfold gIsiD at c1
    cases hd : dicOf S1 d1 with
    | some q =>
      rw [hd] at c1
      obtain ⟨ks, vs⟩ := q
      obtain ⟨a', es, ep, rfl, h1, _⟩ := dic_rep s1 r1 hd
      exact .inr ⟨a', es, ep, rfl, h1, c1.ret s1 (by unfold RepV; rfl)⟩
    | none =>
      rw [hd] at c1
      unfold gIsi at c1
      simp only at c1
      split at c1
      · exact c1.elim
      rename_i hx
      exact .inl ⟨v, .ty "dict", .type (tyD d1), .type "dict", isiB (tyD d1) "dict", rfl, .ty "dict", tyX_of s1 r1 (by simpa using hx), kit_ty (isi_kit "dict" (by simp) d1), c1.ret s1 (by unfold RepV; rfl)⟩
end
end J

namespace J
open PySem PySem.Spec PyProof.Rows L2
/-! ## d.pop(k) of a dict in the store -/
theorem EH.drop (k : NestedKey) : ∀ {es : List Ent} {ys : List (NestedKey × Addr × Value)}, EH es ys → EH (dropE es k) (withoutH ys k)
  | _, _, .nil => .nil
  | _, _, .cons (a := e) (b := y) h t => by
    have ih := EH.drop k t
    obtain ⟨h1, h2, h3⟩ := h
    unfold dropE withoutH at ih ⊢
    by_cases q : e.1 = k
    · rw [List.filter_cons, if_neg (by simp [q]), List.filter_cons, if_neg (by simp [h1.trans q])]
      exact ih
    · have q2 : ¬ y.1 = k := fun z => q (h1.symm.trans z)
      rw [List.filter_cons, if_pos (by simp [q]), List.filter_cons, if_pos (by simp [q2])]
      exact .cons ⟨h1, h2, h3⟩ ih
end J

namespace J
open PySem PySem.Spec PyProof.Rows L2
/-! ## texts: names of texts, x in y, x.index(y), x.count(y), f"..", fields += -/
section
variable {X : Cx} {W : WX} {k : Nat} {a b : Expr} {fa fb : CE} {pos : Pos}
end
/-! ### x.index(y), x.index(y, i), x.count(y) -/
section
variable {X : Cx} {W : WX} {o e : Expr} {es : List Expr} {fo : CE} {fa : CA} {apos cpos p pos : Pos}
end
/-! ### f"p{e}" -/
/-! ### o.f += i -/
end J

namespace J
open PySem PySem.Spec PyProof.Rows L2
/-! ## a text of one sign, so many times -/
end J

namespace J
open PySem PySem.Spec PyProof.Rows L2
/-! ## t[::-1] of a tuple -/
section
variable {prog : Program} {w : World} {A : Around} {E : Value → Shared → Prop} {s : Shared}
end
section
variable {X : Cx} {W : WX}
def gRevT (d : D) (S : Sto) : R D := match d with | .tup xs => .ok (.tup xs.reverse) S | _ => .bad
@[simp] theorem gRevT_n (xs : List D) (S : Sto) : gRevT (.tup xs) S = .ok (.tup xs.reverse) S := rfl
variable {e : Expr} {fe : CE} {pos : Pos}
end
end J

namespace J
open PySem PySem.Spec PyProof.Rows L2
/-! ## tuples that have no dict of their own: made, put together, counted in -/
mutual
/-- no more told than that it is a tuple -/
def D.fgt : D → D
  | .ktp xs => .tup (D.fgts xs)
  | .tup xs => .tup (D.fgts xs)
  | .new xs => .new (D.fgts xs)
  | d => d
def D.fgts : List D → List D
  | [] => []
  | x :: xs => D.fgt x :: D.fgts xs
end
section
variable {K : PySem.W.Frag} {H : Hp} {ρ : Rg}
mutual
theorem RepV.fgt : ∀ (d : D) (v : V), RepV K H ρ d v → RepV K H ρ d.fgt v
  | .ktp xs, v, r => by
    unfold RepV at r
    obtain ⟨a, vs, e, q, t⟩ := r
    unfold D.fgt RepV
    exact ⟨a, vs, e, q.sq, RepVs.fgt xs vs t⟩
  | .tup xs, v, r => by
    unfold RepV at r
    obtain ⟨a, vs, e, q, t⟩ := r
    unfold D.fgt RepV
    exact ⟨a, vs, e, q, RepVs.fgt xs vs t⟩
  | .new xs, v, r => by
    unfold RepV at r
    obtain ⟨a, vs, e, q, t⟩ := r
    unfold D.fgt RepV
    exact ⟨a, vs, e, q, RepVs.fgt xs vs t⟩
  | .non, _, r => r
  | .bl _, _, r => r
  | .int _, _, r => r
  | .str _, _, r => r
  | .scr _, _, r => r
  | .ref _, _, r => r
  | .exn _, _, r => r
  | .dic _ _, _, r => r
  | .rdc _, _, r => r
  | .obj _, _, r => r
theorem RepVs.fgt : ∀ (ds : List D) (vs : List V), RepVs K H ρ ds vs → RepVs K H ρ (D.fgts ds) vs
  | [], _, r => r
  | d :: ds, vs, r => by
    unfold RepVs at r
    obtain ⟨v, rr, e, q, t⟩ := r
    unfold D.fgts RepVs
    exact ⟨v, rr, e, RepV.fgt d v q, RepVs.fgt ds rr t⟩
end
end
def gFgt (d : D) (S : Sto) : R D := .ok d.fgt S
def eFgt (f : CE) : CE := eUn gFgt f
section
variable {X : Cx} {W : WX} {e a b o : Expr} {es : List Expr} {f fa fb fo : CE} {fs : CA} {pos : Pos}
theorem de_fgt (h : DE X W e f) : DE X W e (eFgt f) := DE.of h fun σ H Q env ρ S a b c => by
  refine tG.of a b ((Post.bind (rep := RepV X.K) c).mono fun x H1 ⟨ρ1, S1, d1, x1, s1, r1, c1⟩ => ?_)
  exact c1.ret s1 (RepV.fgt d1 x r1)
/-! ### a display -/
def tTupK (t : TA) : TE := fun σ H Q => t σ H fun xs H1 => xs.length ≤ sizeLine ∧ ∀ (p : Addr) (o : Obj), H1 p = none → o.dict = none → Q (.ref p) (upd H1 p (.frz o (.tup xs)))
theorem pe_tupK {t : TA} {k : Nat} (h : PA X es t) : PE X (.Tuple es k pos) (tTupK t) := by
  refine ⟨fun pins s σ H Q I hq => ?_⟩
  refine wpAny_Tuple_spliced (thn (h.run pos pins s σ H _ I hq) ?_)
  rintro us s1 ⟨xs, H1, I1, r, z, q⟩
  refine ⟨by rw [← r.length]; exact z, ?_⟩
  have nw : H1 s1.heap.objs.size = none := I1.hok.fresh (Nat.le_refl _)
  refine ⟨.ref s1.heap.objs.size, _, ?_, rfl, q _ { cls := .type "tuple", data := .seq us.toArray } nw rfl⟩
  refine I1.laid (t' := s1.toks) (fun b u e => Heap.get?_push_of_some _ e) (Nat.le_refl _) ?_
  exact ⟨Heap.get?_push_size _ rfl, z, us, r, IsTup.new _ _⟩
def gTupK (xs : List D) (S : Sto) : R D := if xs.length ≤ sLim then .ok (.ktp xs) S else .bad
def eTupK (a : CA) : CE := eCall gTupK a
theorem de_tupK {k : Nat} (h : DA X W es fs) : DE X W (.Tuple es k pos) (eTupK fs) :=
  DE.of (pe_tupK h) fun σ H Q env ρ S a b c => by
    refine tG.of a b ((Post.bind (rep := RepVs X.K) c).mono fun xs H1 ⟨ρ1, S1, d1, x1, s1, r1, c1⟩ => ?_)
    unfold gTupK at c1
    split at c1
    · rename_i hl
      refine ⟨by rw [RepVs.length r1]; exact hl, fun p o hp hd => ?_⟩
      exact c1.retN s1 hp (by unfold RepV; exact ⟨p, xs, rfl, ⟨s1.notin hp, o, upd_same, hd⟩, RepVs.ext (Ext.new hp) _ _ r1⟩)
    · exact c1.elim
/-! ### t + u -/
def rCatK (K : PySem.W.Frag) : R2 := fun x y H Q => ∃ a b xs ys, x = .ref a ∧ y = .ref b ∧ SqT K H a xs ∧ SqT K H b ys ∧ xs.length + ys.length ≤ sizeLine ∧
  (xs = [] → Q (.ref b) H) ∧ (xs ≠ [] → ys = [] → Q (.ref a) H) ∧ (xs ≠ [] → ys ≠ [] → ∀ (p : Addr) (o : Obj), H p = none → o.dict = none → Q (.ref p) (upd H p (.frz o (.tup (xs ++ ys)))))
theorem op_catK : OpR X (binaryOp .Add) (rCatK X.K) := by
  intro pins s σ H x y v u Q I rx ry h
  obtain ⟨a, b, xs, ys, rfl, rfl, ha, hb, hz, q0, q1, q2⟩ := h
  cases rx
  cases ry
  obtain ⟨us, ru, pu, _⟩ := I.tuple ha
  obtain ⟨ws, rw_, pw, _⟩ := I.tuple hb
  by_cases hx : xs = []
  · subst hx
    cases ru
    exact cat_tup0 pu pw ⟨.ref b, H, I, rfl, q0 rfl⟩
  have hu : us ≠ [] := fun z => hx (ru.nil_iff.mp z)
  refine HT.cat_tup pu pw hu (fun z => ⟨.ref a, H, I, rfl, q1 hx (rw_.nil_iff.mp z)⟩) (fun z => ?_) (by rw [← ru.length, ← rw_.length]; exact hz)
  have nw : H s.heap.objs.size = none := I.hok.fresh (Nat.le_refl _)
  refine ⟨.ref s.heap.objs.size, _, ?_, rfl, q2 hx (fun w => z (rw_.nil_iff.mpr w)) _ { cls := .type "tuple", data := .seq (us ++ ws).toArray } nw rfl⟩
  refine I.laid (t' := s.toks) (fun b ob q => Heap.get?_push_of_some _ q) (Nat.le_refl _) ?_
  exact ⟨Heap.get?_push_size _ rfl, by rw [List.length_append]; exact hz, _, ru.append rw_, IsTup.new _ _⟩
def gAddK (a b : D) (S : Sto) : R D := match a, b with
  | .ktp xs, .ktp ys => if xs.length + ys.length ≤ sLim then .ok (.ktp (xs ++ ys)) S else .bad
  | _, _ => .bad
theorem o_addK {K : PySem.W.Frag} {mg : Str → Option Value} : Op2 K mg (rCatK K) gAddK := fun H ρ S a b x y w Q s ra rb c => by
  unfold gAddK at c
  split at c
  · rename_i xs ys
    split at c
    · rename_i h
      have ra0 := ra
      have rb0 := rb
      unfold RepV at ra rb
      obtain ⟨p, vs, rfl, q, r1⟩ := ra
      obtain ⟨p2, us, rfl, q2, r2⟩ := rb
      refine ⟨p, p2, vs, us, rfl, rfl, q.sq, q2.sq, by rw [RepVs.length r1, RepVs.length r2]; exact h, fun e => ?_, fun _ e => ?_, fun _ _ n o hn hd => ?_⟩
      · subst e
        have : xs = [] := List.length_eq_zero_iff.mp (RepVs.length r1).symm
        subst this
        exact c.ret s rb0
      · subst e
        have : ys = [] := List.length_eq_zero_iff.mp (RepVs.length r2).symm
        subst this
        exact c.ret s (by rw [List.append_nil]; exact ra0)
      · exact c.retN s hn (by unfold RepV; exact ⟨n, _, rfl, ⟨s.notin hn, o, upd_same, hd⟩, RepVs.ext (Ext.new hn) _ _ (RepVs.append r1 r2)⟩)
    · exact c.elim
  · exact c.elim
theorem b_addK (ha : DE X W a fa) (hb : DE X W b fb) : DE X W (.BinOp a .Add b pos) (eOp gAddK fa fb) := de_op op_catK o_addK ha hb
/-! ### t.count(x) -/
def gCountK (d : D) (as : List D) (S : Sto) : R D := match d, as with
  | .ktp xs, [y] => if y.dep ≤ 60 ∧ D.deps xs ≤ 60 then .ok (.int (xs.countP fun z => D.eqv z y)) S else .bad
  | _, _ => .bad
def KnT (H : Hp) (x : V) : Prop := ∃ a o vs, x = .ref a ∧ H a = some (.frz o (.tup vs)) ∧ o.dict = none
def rCountK (K : PySem.W.Frag) : V → List V → Hp → VK → Prop := fun x xs H Q => ∃ (y : V) (d : PyData) (ds : List PyData), xs = [y] ∧ Dp K H x (.tuple ds) ∧ Dp K H y d ∧
  SeqAt.shaped (.tuple ds) = true ∧ SeqAt.shaped d = true ∧ Q (.int ((ds.countP fun z => PyData.eqv z d : Nat) : Int)) H
theorem mt_countK (hu : X.A.units + 65 < cLine) : MtR X "tuple.count" (rCountK X.K) := by
  intro pins s σ H x xs v us Q I rx rxs h
  obtain ⟨y, d, ds, rfl, hl, hy, sl, sd, q⟩ := h
  cases rxs with
  | cons ry rt =>
    rename_i uy ut
    cases rt
    obtain ⟨bs, r1⟩ := Dp.reads I d y uy hy ry
    have hxs : PyData.canLayAll0 ds = true := SeqAt.canLay_of_shaped sl
    have hroom : X.A.units + 1 + min (PyData.depthAll ds) d.depth < cLine := room_in_shaped sd hu
    cases hl with
    | tup hs ha =>
      cases rx
      obtain ⟨its, rv, ⟨⟨cls, dd, data, sls⟩, ho, hc, n, hdt⟩, hlen⟩ := I.tuple hs
      simp only at hc hdt
      subst hc hdt
      obtain ⟨as, h4⟩ := Dp.readsAll I ds _ its ha rv
      have hmap : its.map (SeqAt.readOf s.heap) = ds := SeqAt.readsAll_map ds its as hxs h4
      refine call_meets PySem.F.slot_tuple_count ⟨_, ho, rfl⟩ PySem.F.entry_tuple_count (PySem.F.args_tuple_count_2 _ _) (SeqAt.tuple_countAt _ its.toArray n dd sls uy (fun u => PyData.eqv (SeqAt.readOf s.heap u) d)) ⟨ho, ?_, ?_⟩
      · exact SeqAt.items_eqAt (vs := its.toArray) (show ReadsAll s.heap its.toArray.toList ds as from h4) r1 hxs (SeqAt.canLay_of_shaped sd) hroom
      have ec : its.toArray.toList.countP (fun u => PyData.eqv (SeqAt.readOf s.heap u) d) = ds.countP fun z => PyData.eqv z d := by
        rw [← hmap, List.countP_map]
        rfl
      refine ⟨.int ((ds.countP fun z => PyData.eqv z d : Nat) : Int), H, I.tok _, ⟨s.toks, ?_⟩, q⟩
      rw [ec]
/-- a method of such a tuple -/
def tKM (r : V → List V → Hp → VK → Prop) (to : TE) (t : TA) : TE := fun σ H Q => to σ H fun x H1 => KnT H1 x ∧ t σ H1 fun xs H2 => r x xs H2 Q
theorem pe_km {id : String} {name : Str} {apos cpos : Pos} {r : V → List V → Hp → VK → Prop} {to : TE} {t : TA} (pa : PlainAttrs "tuple") (slot : Slot "tuple" name id) (hty : typeOf (.builtin id) = pure (.type "method_descriptor")) (hm : MtR X id r) (ho : PE X o to) (ha : PA X (e :: es) t)
    (hb : attributeBase o name X.env (eval o X.env) = eval o X.env)
    (hf : ((backTo cpos (starEach (e :: es) X.env)).all (fun x => !x.1) && (backToKw cpos (keywordEach [] X.env)).all (fun x => x.1.isSome) && decide ((e :: es).length + ([] : List Keyword).length + (if ([] : List Keyword).isEmpty then 0 else 1) < 30)) = true)
    (hl : (apos.endLine == cpos.line) = true) (hs : starEach (e :: es) X.env = (false, eval e X.env) :: starEach es X.env) (hp : (backTo cpos (starEach es X.env)).any (·.1) = false) :
    PE X (.Call (.Attribute o name apos) (e :: es) [] cpos) (tKM r to t) := ⟨fun pins s σ H Q I h => by
  refine wpAny_Call_method_late hb hf hl rfl (thn (ho.run pins s σ H _ I h) ?_)
  rintro v s1 ⟨x, H1, I1, r1, ⟨p, ob, vs, rfl, hk, hd⟩, q1⟩
  cases r1
  have ok := I1.hok p _ hk
  have ty : s1.TypeIs (.ref p) "tuple" := by
    obtain ⟨g, _, its, _, ob', g', hc, _⟩ := ok
    exact ⟨ob', g', hc⟩
  have args := ha.run cpos pins s1 σ H1 _ I1 q1
  rw [hs] at args
  refine ⟨"tuple", id, pa, slot, hty, ty, (fun a e => by cases e; exact ⟨ob, ok.1, hd⟩), ?_⟩
  rw [hs]
  have star : (((false, eval e X.env) :: backTo cpos (starEach es X.env)).any (·.1)) = false := by rw [List.any_cons, hp]; rfl
  exact Calls.callWith_builtin star (Calls.evalArgs_plain (thn args fun us s2 ⟨vs, H2, I2, r2, q2⟩ => hm pins s2 σ H2 (V.ref p) vs (Value.ref p) us Q I2 rfl r2 q2))⟩
def eMethK (g : D → List D → Sto → R D) (o : CE) (a : CA) : CE := fun env S => (o env S).bind fun d S => match d with
  | .ktp xs => (a env S).bind fun as S => g (.ktp xs) as S
  | _ => .bad
theorem de_countK {k : Nat} {apos cpos : Pos} (hr : Room k X.A) (ho : DE X W o fo) (ha : DA X W [e] fs) (hbase : attributeBase o "count" X.env (eval o X.env) = eval o X.env := by rfl)
    (hfew : ((backTo cpos (starEach [e] X.env)).all (fun x => !x.1) && (backToKw cpos (keywordEach [] X.env)).all (fun x => x.1.isSome) && decide (([e] : List Expr).length + ([] : List Keyword).length + (if ([] : List Keyword).isEmpty then 0 else 1) < 30)) = true := by rfl)
    (hline : (apos.endLine == cpos.line) = true := by rfl) (hs : starEach [e] X.env = (false, eval e X.env) :: starEach [] X.env := by rfl) (hplain : (backTo cpos (starEach [] X.env)).any (·.1) = false := by rfl) :
    DE X W (.Call (.Attribute o "count" apos) [e] [] cpos) (eMethK gCountK fo fs) :=
  DE.of (pe_km PySem.F.plainAttrs_tuple PySem.F.slot_tuple_count PySem.F.type_tuple_count (mt_countK (by have := hr.un; omega)) ho ha hbase hfew hline hs hplain) fun σ H Q env ρ S a b c => by
    refine tG.of a b ((Post.bind (rep := RepV X.K) c).mono fun x H1 ⟨ρ1, S1, d1, x1, s1, r1, c1⟩ => ?_)
    cases d1 with
    | ktp xs =>
      have kn : KnT H1 x := by
        have r := r1
        unfold RepV at r
        obtain ⟨p, vs, e, ⟨_, o, h, hd⟩, _⟩ := r
        exact ⟨p, o, vs, e, h, hd⟩
      refine ⟨kn, tG.of (a.ext x1) s1 ((Post.bind (rep := RepVs X.K) c1).mono fun ys H2 ⟨ρ2, S2, d2, x2, s2, r2, c2⟩ => ?_)⟩
      have r3 := RepV.ext x2 _ _ r1
      unfold gCountK at c2
      split at c2
      · rename_i zs y e
        cases e
        split at c2
        · rename_i h
          obtain ⟨v, rfl, rv⟩ := RepVs.one r2
          unfold RepV at r3
          obtain ⟨p, vs, rfl, q, rs⟩ := r3
          refine ⟨v, y.py, D.pys xs, rfl, .tup q.sq (dps_of xs vs (by omega) rs), dp_of y v (by omega) rv, ?_, py_shaped (by omega), c2.ret s2 ?_⟩
          · exact py_shaped (a := .tup xs) (by simp [D.dep]; omega)
          · unfold RepV
            rw [count_py h.2 h.1]
        · exact c2.elim
      · exact c2.elim
    | _ => exact c1.elim
end
end J

namespace J
open PySem PySem.Spec PyProof.Rows L2
noncomputable def F_is_whole : CS := sRet (eAnd (eUn (gIsi "int") (eVar 0)) (eAnd (eNot (eUn (gIsi "bool") (eVar 0))) (eChain gLe gLe (eVar 1) (eVar 0) (eVar 2))))
noncomputable def G_is_whole : List D → Sto → R D := fnC 3 3 F_is_whole
theorem G_is_whole_eq (a0 a1 a2 : D) (S : Sto) : G_is_whole [a0, a1, a2] S = gc S (fnR (F_is_whole [some a0, some a1, some a2] S)) := fnC_at rfl rfl
noncomputable def F_is_throw : CS := sSeq (sIf (tOrD (tNotD (tBool (eUn (gIsi "tuple") (eVar 0)))) (tBool (eOp gNe (eCall gLen (aCons (eVar 0) (aNil))) (eC (.int 2)))))
  (sRet (eC (.bl false)))
  (sNext))
  (sRet (eAnd (eCall (fnG 3 G_is_whole) (aCons (eOp gIx (eVar 0) (eC (.int 0))) (aCons (eC (.int 1)) (aCons (eC (.int 15)) (aNil))))) (eCall (fnG 3 G_is_whole) (aCons (eOp gIx (eVar 0) (eC (.int 1))) (aCons (eC (.int 0)) (aCons (eOp gSub (eVar 1) (eC (.int 1))) (aNil)))))))
noncomputable def G_is_throw : List D → Sto → R D := fnC 2 2 F_is_throw
theorem G_is_throw_eq (a0 a1 : D) (S : Sto) : G_is_throw [a0, a1] S = gc S (fnR (F_is_throw [some a0, some a1] S)) := fnC_at rfl rfl
noncomputable def F_is_beat : CS := sSeq (sIf (tOrD (tNotD (tBool (eUn (gIsi "tuple") (eVar 0)))) (tBool (eOp gNe (eCall gLen (aCons (eVar 0) (aNil))) (eVar 1))))
  (sRet (eC (.bl false)))
  (sNext))
  (sSeq (sFor (iSeq (eVar 0)) (gName 2)
  (sSeq (sIf (tOrD (tNotD (tBool (eUn (gIsi "tuple") (eVar 2)))) (tOrD (tBool (eOp gGt (eCall gLen (aCons (eVar 2) (aNil))) (eC (.int 4)))) (tNotD (tBool (eCall gAll (aCons (eNew (aComp (cFor (iSeq (eVar 2)) (gName 3) (tYesD) [3] (cElt (eCall (fnG 2 G_is_throw) (aCons (eVar 3) (aCons (eVar 1) (aNil)))))))) (aNil)))))))
  (sRet (eC (.bl false)))
  (sNext))
  (sIf (tBool (eOp gNe (eNew (aCall gList (aCons (eVar 2) (aNil)))) (eUn gRev (eNew (aCall gSorted (aCons (eVar 2) (aNil)))))))
  (sRet (eC (.bl false)))
  (sNext))))
  (sRet (eC (.bl true))))
noncomputable def G_is_beat : List D → Sto → R D := fnC 2 4 F_is_beat
theorem G_is_beat_eq (a0 a1 : D) (S : Sto) : G_is_beat [a0, a1] S = gc S (fnR (F_is_beat [some a0, some a1, none, none] S)) := fnC_at rfl rfl
noncomputable def F_law_town : CS := sRet (eAlloc (aCall gDisp (aCons (eIf (tBool (eOp gNe (eVar 0) (eNew (aCall gDisp (aNil))))) (eAlloc (aCall gList (aCons (eVar 0) (aNil)))) (eAlloc (aCall gDisp (aCons (eC (.int 0)) (aNil))))) (aCons (eC (.int 0)) (aNil)))))
noncomputable def G_law_town : List D → Sto → R D := fnD 1 1 F_law_town
theorem G_law_town_eq (a0 : D) (S : Sto) : G_law_town [a0] S = fnR (F_law_town [some a0] S) := fnD_at rfl rfl
noncomputable def F_law_draw : CS := sSeq (sAsg (eOp gIx (eVar 0) (eC (.int 0))) (gName 2))
  (sSeq (sSetItem (eVar 0) (eC (.int 1)) (eOp gAdd (eOp gIx (eVar 0) (eC (.int 1))) (eC (.int 1))))
  (sSeq (sAsg (eOp gMod (eOp gIx (eVar 0) (eC (.int 1))) (eCall gLen (aCons (eVar 2) (aNil)))) (gName 3))
  (sSeq (sAsg (eOp gIx (eVar 2) (eVar 3)) (gName 4))
  (sSeq (sIf (tBool (eOp gGe (eVar 4) (eC (.int 1000000000000000000))))
  (sSeq (sSetItem (eVar 2) (eVar 3) (eOp gDiv (eVar 4) (eVar 1)))
  (sRet (eOp gMod (eVar 4) (eVar 1))))
  (sNext))
  (sSeq (sAsg (eOp gMod (eOp gAdd (eVar 4) (eOp gMul (eC (.int 104729)) (eOp gIx (eVar 0) (eC (.int 1))))) (eC (.int 4294967291))) (gName 5))
  (sSeq (sAsg (eOp gMod (eOp gPow (eVar 5) (eC (.int 5))) (eC (.int 4294967279))) (gName 5))
  (sRet (eOp gMod (eOp gDiv (eOp gMod (eOp gAdd (eOp gMul (eOp gDiv (eVar 5) (eC (.int 64))) (eC (.int 69621))) (eVar 5)) (eC (.int 4294967231))) (eC (.int 8))) (eVar 1)))))))))
noncomputable def G_law_draw : List D → Sto → R D := fnC 2 6 F_law_draw
theorem G_law_draw_eq (a0 a1 : D) (S : Sto) : G_law_draw [a0, a1] S = gc S (fnR (F_law_draw [some a0, some a1, none, none, none, none] S)) := fnC_at rfl rfl
noncomputable def F_law_pick : CS := sRet (eOp gIx (eVar 1) (eCall (fnG 2 G_law_draw) (aCons (eVar 0) (aCons (eCall gLen (aCons (eVar 1) (aNil))) (aNil)))))
noncomputable def G_law_pick : List D → Sto → R D := fnC 2 2 F_law_pick
theorem G_law_pick_eq (a0 a1 : D) (S : Sto) : G_law_pick [a0, a1] S = gc S (fnR (F_law_pick [some a0, some a1] S)) := fnC_at rfl rfl
noncomputable def F_look_number : CS := sIf (tNotD (tBool (eCall (fnG 3 G_is_whole) (aCons (eVar 0) (aCons (eVar 1) (aCons (eVar 2) (aNil)))))))
  (sRaise "BadNumber")
  (sNext)
noncomputable def G_look_number : List D → Sto → R D := fnC 3 3 F_look_number
theorem G_look_number_eq (a0 a1 a2 : D) (S : Sto) : G_look_number [a0, a1, a2] S = gc S (fnR (F_look_number [some a0, some a1, some a2] S)) := fnC_at rfl rfl
noncomputable def F_is_state : CS := sSeq (sIf (tOrD (tNotD (tBool (eCall (fnG 3 G_is_whole) (aCons (eVar 1) (aCons (eC (.int 1)) (aCons (eC (.int 6)) (aNil))))))) (tOrD (tNotD (tBool (eUn (gIsi "tuple") (eVar 0)))) (tBool (eOp gGt (eCall gLen (aCons (eVar 0) (aNil))) (eC (.int 15))))))
  (sRet (eC (.bl false)))
  (sNext))
  (sSeq (sFor (iSeq (eVar 0)) (gName 2)
  (sIf (tOrD (tNotD (tBool (eUn (gIsi "tuple") (eVar 2)))) (tOrD (tBool (eOp gNe (eCall gLen (aCons (eVar 2) (aNil))) (eVar 1))) (tNotD (tBool (eCall gAll (aCons (eNew (aComp (cFor (iSeq (eVar 2)) (gName 3) (tYesD) [3] (cElt (eCall (fnG 3 G_is_whole) (aCons (eVar 3) (aCons (eC (.int 0)) (aCons (eC (.int 4)) (aNil))))))))) (aNil)))))))
  (sRet (eC (.bl false)))
  (sNext)))
  (sRet (eOr (eOp gEq (eVar 0) (eTup (aNil))) (eCall gAny (aCons (eNew (aComp (cFor (iSeq (eOp gIx (eVar 0) (eUn gNeg (eC (.int 1))))) (gName 3) (tYesD) [3] (cElt (eOp gGt (eVar 3) (eC (.int 0))))))) (aNil))))))
noncomputable def G_is_state : List D → Sto → R D := fnC 2 4 F_is_state
theorem G_is_state_eq (a0 a1 : D) (S : Sto) : G_is_state [a0, a1] S = gc S (fnR (F_is_state [some a0, some a1, none, none] S)) := fnC_at rfl rfl
noncomputable def F_look_state : CS := sIf (tNotD (tBool (eCall (fnG 2 G_is_state) (aCons (eVar 0) (aCons (eVar 1) (aNil))))))
  (sRaise "BadState")
  (sNext)
noncomputable def G_look_state : List D → Sto → R D := fnC 2 2 F_look_state
theorem G_look_state_eq (a0 a1 : D) (S : Sto) : G_look_state [a0, a1] S = gc S (fnR (F_look_state [some a0, some a1] S)) := fnC_at rfl rfl
noncomputable def F_trimmed : CS := sSeq (sAsg (eAlloc (aComp (cFor (iSeq (eVar 0)) (gName 2) (tYesD) [2] (cElt (eCall gTuple (aCons (eVar 2) (aNil))))))) (gName 1))
  (sSeq (sWhile 200 (tAndD (tBool (eOp gNe (eVar 1) (eNew (aCall gDisp (aNil))))) (tNotD (tBool (eCall gAny (aCons (eOp gIx (eVar 1) (eUn gNeg (eC (.int 1)))) (aNil))))))
  (sExpr (eMethL gPop (eVar 1) aNil)))
  (sRet (eCall gTuple (aCons (eVar 1) (aNil)))))
noncomputable def G_trimmed : List D → Sto → R D := fnC 1 3 F_trimmed
theorem G_trimmed_eq (a0 : D) (S : Sto) : G_trimmed [a0] S = gc S (fnR (F_trimmed [some a0, none, none] S)) := fnC_at rfl rfl
noncomputable def F_due_at : CS := sRet (eIf (tBool (eOp gLt (eVar 1) (eCall gLen (aCons (eVar 0) (aNil))))) (eOp gIx (eOp gIx (eVar 0) (eVar 1)) (eVar 2)) (eC (.int 0)))
noncomputable def G_due_at : List D → Sto → R D := fnC 3 3 F_due_at
theorem G_due_at_eq (a0 a1 a2 : D) (S : Sto) : G_due_at [a0, a1, a2] S = gc S (fnR (F_due_at [some a0, some a1, some a2] S)) := fnC_at rfl rfl
noncomputable def F_stepped : CS := sSeq (sAsg (eCall gLen (aCons (eVar 1) (aNil))) (gName 3))
  (sSeq (sAsg (eNew (aComp (cFor (iRng1D (aCons (eC (.int 15)) (aNil))) (gName 7) (tYesD) [7] (cElt (eAlloc (aComp (cFor (iRng1D (aCons (eVar 3) (aNil))) (gName 5) (tYesD) [5] (cElt (eCall (fnG 3 G_due_at) (aCons (eVar 0) (aCons (eOp gAdd (eVar 7) (eC (.int 1))) (aCons (eVar 5) (aNil))))))))))))) (gName 4))
  (sSeq (sFor (iEnumD (aCons (eVar 1) (aNil))) (gTup 2 (gsCons (gName 5) (gsCons (gName 6) (gsNil))))
  (sSeq (sIf (tBool (eOp gNe (eCall gLen (aCons (eVar 6) (aNil))) (eCall (fnG 3 G_due_at) (aCons (eVar 0) (aCons (eC (.int 0)) (aCons (eVar 5) (aNil)))))))
  (sRaiseC (aCons (eVar 2) (aCons (eVar 5) (aNil))))
  (sNext))
  (sFor (iSeq (eVar 6)) (gTup 2 (gsCons (gName 9) (gsCons (gName 10) (gsNil))))
  (sAugItem gIAdd (eOp gIx (eVar 4) (eOp gSub (eVar 9) (eC (.int 1)))) (eVar 10) (eC (.int 1))))))
  (sSeq (sFor (iEnumD (aCons (eVar 4) (aNil))) (gTup 2 (gsCons (gName 7) (gsCons (gName 8) (gsNil))))
  (sFor (iEnumD (aCons (eVar 8) (aNil))) (gTup 2 (gsCons (gName 5) (gsCons (gName 11) (gsNil))))
  (sIf (tBool (eOp gGt (eVar 11) (eC (.int 4))))
  (sRaiseC (aCons (eOp gAdd (eOp gAdd (eVar 2) (eVar 7)) (eC (.int 1))) (aCons (eVar 5) (aNil))))
  (sNext))))
  (sRet (eCall (fnG 1 G_trimmed) (aCons (eVar 4) (aNil)))))))
noncomputable def G_stepped : List D → Sto → R D := fnC 3 12 F_stepped
theorem G_stepped_eq (a0 a1 a2 : D) (S : Sto) : G_stepped [a0, a1, a2] S = gc S (fnR (F_stepped [some a0, some a1, some a2, none, none, none, none, none, none, none, none, none] S)) := fnC_at rfl rfl
noncomputable def F_step : CS := sSeq (sExpr (eCall (fnG 3 G_look_number) (aCons (eVar 2) (aCons (eC (.int 1)) (aCons (eC (.int 6)) (aNil))))))
  (sSeq (sExpr (eCall (fnG 2 G_look_state) (aCons (eVar 0) (aCons (eVar 2) (aNil)))))
  (sSeq (sIf (tNotD (tBool (eCall (fnG 2 G_is_beat) (aCons (eVar 1) (aCons (eVar 2) (aNil))))))
  (sRaise "BadRow")
  (sNext))
  (sRet (eCall (fnG 3 G_stepped) (aCons (eVar 0) (aCons (eVar 1) (aCons (eC (.int 0)) (aNil))))))))
noncomputable def G_step : List D → Sto → R D := fnC 3 3 F_step
theorem G_step_eq (a0 a1 a2 : D) (S : Sto) : G_step [a0, a1, a2] S = gc S (fnR (F_step [some a0, some a1, some a2] S)) := fnC_at rfl rfl
noncomputable def F_balls_in : CS := sSeq (sExpr (eCall (fnG 3 G_look_number) (aCons (eVar 1) (aCons (eC (.int 1)) (aCons (eC (.int 6)) (aNil))))))
  (sSeq (sExpr (eCall (fnG 2 G_look_state) (aCons (eVar 0) (aCons (eVar 1) (aNil)))))
  (sRet (eCall gSum (aCons (eNew (aComp (cFor (iSeq (eVar 0)) (gName 2) (tYesD) [2, 3] (cForI (iSeq (eVar 2)) (gName 3) (tYesD) [3] (cElt (eVar 3)))))) (aNil)))))
noncomputable def G_balls_in : List D → Sto → R D := fnC 2 4 F_balls_in
theorem G_balls_in_eq (a0 a1 : D) (S : Sto) : G_balls_in [a0, a1] S = gc S (fnR (F_balls_in [some a0, some a1, none, none] S)) := fnC_at rfl rfl
noncomputable def F_law_state : CS := sSeq (sAsg (eNew (aComp (cFor (iSeq (eVar 0)) (gName 2) (tYesD) [2] (cElt (eCall gTuple (aCons (eVar 2) (aNil))))))) (gName 1))
  (sSeq (sWhile 200 (tAndD (tBool (eOp gNe (eVar 1) (eNew (aCall gDisp (aNil))))) (tBool (eOp gEq (eCall gMax (aCons (eOp gIx (eVar 1) (eUn gNeg (eC (.int 1)))) (aNil))) (eC (.int 0)))))
  (sAsg (eSl (eVar 1) (pNone) (pSome (eUn gNeg (eC (.int 1))))) (gName 1)))
  (sRet (eCall gTuple (aCons (eVar 1) (aNil)))))
noncomputable def G_law_state : List D → Sto → R D := fnC 1 3 F_law_state
theorem G_law_state_eq (a0 : D) (S : Sto) : G_law_state [a0] S = gc S (fnR (F_law_state [some a0, none, none] S)) := fnC_at rfl rfl
noncomputable def F_ground_of : CS := sSeq (sAsg (eNew (aComp (cFor (iRng1D (aCons (eC (.int 15)) (aNil))) (gName 3) (tYesD) [3] (cElt (eNew (aComp (cFor (iRng1D (aCons (eVar 1) (aNil))) (gName 4) (tYesD) [4] (cElt (eIf (tBool (eOp gLt (eOp gAdd (eOp gMul (eVar 3) (eVar 1)) (eVar 4)) (eVar 0))) (eC (.int 1)) (eC (.int 0))))))))))) (gName 2))
  (sRet (eCall (fnG 1 G_trimmed) (aCons (eVar 2) (aNil))))
noncomputable def G_ground_of : List D → Sto → R D := fnC 2 5 F_ground_of
theorem G_ground_of_eq (a0 a1 : D) (S : Sto) : G_ground_of [a0, a1] S = gc S (fnR (F_ground_of [some a0, some a1, none, none, none] S)) := fnC_at rfl rfl
noncomputable def F_ground : CS := sSeq (sExpr (eCall (fnG 3 G_look_number) (aCons (eVar 1) (aCons (eC (.int 1)) (aCons (eC (.int 6)) (aNil))))))
  (sSeq (sExpr (eCall (fnG 3 G_look_number) (aCons (eVar 0) (aCons (eC (.int 0)) (aCons (eOp gMul (eC (.int 15)) (eVar 1)) (aNil))))))
  (sRet (eCall (fnG 2 G_ground_of) (aCons (eVar 0) (aCons (eVar 1) (aNil))))))
noncomputable def G_ground : List D → Sto → R D := fnC 2 2 F_ground
theorem G_ground_eq (a0 a1 : D) (S : Sto) : G_ground [a0, a1] S = gc S (fnR (F_ground [some a0, some a1] S)) := fnC_at rfl rfl
def K_ground_lines (ds es : List D) : List D := pickL [0, 1] (ds ++ es)
end J

namespace J
open PySem PySem.Spec PyProof.Rows L2
noncomputable def FR_dealt (rec : List D → Sto → R D) : CS := sSeq (sIf (tBool (eOp gEq (eVar 0) (eC (.int 0))))
  (sRet (eNew (aCall gDisp (aCons (eTup (aNil)) (aNil)))))
  (sNext))
  (sSeq (sAsg (eAlloc (aCall gDisp (aNil))) (gName 3))
  (sSeq (sFor (iEnumD (aCons (eVar 1) (aNil))) (gTup 2 (gsCons (gName 4) (gsCons (gName 5) (gsNil))))
  (sIf (tBool (eOp gGt (eMethD gGet (eVar 2) (aCons (eVar 5) (aCons (eC (.int 0)) (aNil)))) (eC (.int 0))))
  (sSeq (sAsg (eCall gDictS (aCons (eVar 2) (aNil))) (gName 6))
  (sSeq (sAugItem gSub (eVar 6) (eVar 5) (eC (.int 1)))
  (sAug gIAdd 3 (eNew (aComp (cFor (iSeq (eCall (fnG 3 rec) (aCons (eOp gSub (eVar 0) (eC (.int 1))) (aCons (eSl (eVar 1) (pSome (eVar 4)) (pNone)) (aCons (eVar 6) (aNil)))))) (gName 7) (tYesD) [7] (cElt (eOp gAdd (eTup (aCons (eVar 5) (aNil))) (eVar 7)))))))))
  (sNext)))
  (sRet (eVar 3))))
noncomputable def GR_dealt : Nat → List D → Sto → R D
  | 0 => fnC 3 8 sBad
  | k + 1 => fnC 3 8 (FR_dealt (GR_dealt k))
noncomputable def G_dealt : List D → Sto → R D := GR_dealt 6
theorem GR_dealt_eq (k : Nat) (a0 a1 a2 : D) (S : Sto) : GR_dealt (k + 1) [a0, a1, a2] S = gc S (fnR (FR_dealt (GR_dealt k) [some a0, some a1, some a2, none, none, none, none, none] S)) := fnC_at rfl rfl
noncomputable def F_choices : CS := sSeq (sAsg (eNew (aComp (cFor (iRng3D (aCons (eVar 2) (aCons (eC (.int 0)) (aCons (eUn gNeg (eC (.int 1))) (aNil))))) (gName 9) (tYesD) [9, 7] (cForI (iRng3D (aCons (eOp gSub (eVar 1) (eC (.int 1))) (aCons (eUn gNeg (eC (.int 1))) (aCons (eUn gNeg (eC (.int 1))) (aNil))))) (gName 7) (tYesD) [7] (cElt (eTup (aCons (eVar 9) (aCons (eVar 7) (aNil))))))))) (gName 4))
  (sSeq (sAsg (eDcN (iSeq (eVar 4)) (gName 10) [10] (eVar 10) (eOp gSub (eVar 3) (eCall (fnG 3 G_due_at) (aCons (eVar 0) (aCons (eOp gIx (eVar 10) (eC (.int 0))) (aCons (eOp gIx (eVar 10) (eC (.int 1))) (aNil))))))) (gName 5))
  (sSeq (sAsg (eNew (aCall gDisp (aCons (eTup (aCons (eTup (aNil)) (aCons (eVar 5) (aNil)))) (aNil)))) (gName 6))
  (sSeq (sFor (iRng1D (aCons (eVar 1) (aNil))) (gName 7)
  (sSeq (sAsg (eAlloc (aCall gDisp (aNil))) (gName 8))
  (sSeq (sFor (iSeq (eVar 6)) (gTup 2 (gsCons (gName 11) (gsCons (gName 12) (gsNil))))
  (sFor (iSeq (eCall (fnG 3 G_dealt) (aCons (eCall (fnG 3 G_due_at) (aCons (eVar 0) (aCons (eC (.int 0)) (aCons (eVar 7) (aNil))))) (aCons (eVar 4) (aCons (eVar 12) (aNil)))))) (gName 13)
  (sSeq (sAsg (eCall gDictS (aCons (eVar 12) (aNil))) (gName 14))
  (sSeq (sFor (iSeq (eVar 13)) (gName 10)
  (sAugItem gSub (eVar 14) (eVar 10) (eC (.int 1))))
  (sExpr (eMethL gAppend (eVar 8) (aCons (eTup (aCons (eOp gAdd (eVar 11) (eTup (aCons (eVar 13) (aNil)))) (aCons (eVar 14) (aNil)))) (aNil))))))))
  (sAsg (eVar 8) (gName 6)))))
  (sRet (eNew (aCall gSorted (aCons (eNew (aComp (cFor (iSeq (eVar 6)) (gTup 2 (gsCons (gName 11) (gsCons (gName 12) (gsNil)))) (tYesD) [11, 12] (cElt (eVar 11))))) (aNil))))))))
noncomputable def G_choices : List D → Sto → R D := fnC 4 15 F_choices
theorem G_choices_eq (a0 a1 a2 a3 : D) (S : Sto) : G_choices [a0, a1, a2, a3] S = gc S (fnR (F_choices [some a0, some a1, some a2, some a3, none, none, none, none, none, none, none, none, none, none, none] S)) := fnC_at rfl rfl
noncomputable def F_next_beats : CS := sSeq (sExpr (eCall (fnG 3 G_look_number) (aCons (eVar 1) (aCons (eC (.int 1)) (aCons (eC (.int 6)) (aNil))))))
  (sSeq (sExpr (eCall (fnG 2 G_look_state) (aCons (eVar 0) (aCons (eVar 1) (aNil)))))
  (sSeq (sExpr (eCall (fnG 3 G_look_number) (aCons (eVar 2) (aCons (eC (.int 1)) (aCons (eC (.int 15)) (aNil))))))
  (sSeq (sExpr (eCall (fnG 3 G_look_number) (aCons (eVar 3) (aCons (eC (.int 1)) (aCons (eC (.int 4)) (aNil))))))
  (sRet (eCall (fnG 4 G_choices) (aCons (eVar 0) (aCons (eVar 1) (aCons (eVar 2) (aCons (eVar 3) (aNil))))))))))
noncomputable def G_next_beats : List D → Sto → R D := fnC 4 4 F_next_beats
theorem G_next_beats_eq (a0 a1 a2 a3 : D) (S : Sto) : G_next_beats [a0, a1, a2, a3] S = gc S (fnR (F_next_beats [some a0, some a1, some a2, some a3] S)) := fnC_at rfl rfl
def K_next_beats_lines_most_room (ds es : List D) : List D := pickL [0, 1, 2, 3] (ds ++ es)
def K_next_beats_lines_most (ds es : List D) : List D := pickL [0, 1, 2, 3] ((ds ++ es) ++ [.int 1])
end J

namespace J
open PySem PySem.Spec PyProof.Rows L2
/-! ## reckoning with the plain functions -/
theorem sLim_eq : sLim = 16777216 := by decide
@[simp] theorem eVar_d (i : Nat) (env : Env) (S : Sto) : eVar i env S = match env[i]? with | some (some d) => .ok d S | _ => .bad := Eq.trans rfl rfl
@[simp] theorem eC_d (d : D) (env : Env) (S : Sto) : eC d env S = .ok d S := Eq.trans rfl rfl
@[simp] theorem eOp_d (g : D → D → Sto → R D) (a b : CE) (env : Env) (S : Sto) : eOp g a b env S = (a env S).bind fun x S => (b env S).bind fun y S => g x y S := Eq.trans rfl rfl
@[simp] theorem eUn_d (g : D → Sto → R D) (a : CE) (env : Env) (S : Sto) : eUn g a env S = (a env S).bind fun x S => g x S := Eq.trans rfl rfl
@[simp] theorem aNil_d (env : Env) (S : Sto) : aNil env S = .ok [] S := Eq.trans rfl rfl
@[simp] theorem aCons_d (a : CE) (r : CA) (env : Env) (S : Sto) : aCons a r env S = (a env S).bind fun x S => (r env S).bind fun xs S => .ok (x :: xs) S := Eq.trans rfl rfl
@[simp] theorem eCall_d (F : List D → Sto → R D) (a : CA) (env : Env) (S : Sto) : eCall F a env S = (a env S).bind fun xs S => F xs S := Eq.trans rfl rfl
@[simp] theorem toB_bl (b : Bool) (S : Sto) : toB (.bl b) S = .ok b S := Eq.trans rfl rfl
@[simp] theorem tBool_d (f : CE) (env : Env) (S : Sto) : tBool f env S = (f env S).bind toB := Eq.trans rfl rfl
@[simp] theorem tAndD_d (a b : CT) (env : Env) (S : Sto) : tAndD a b env S = (a env S).bind fun x S => if x = true then b env S else .ok false S := Eq.trans rfl rfl
@[simp] theorem tOrD_d (a b : CT) (env : Env) (S : Sto) : tOrD a b env S = (a env S).bind fun x S => if x = true then .ok true S else b env S := Eq.trans rfl rfl
@[simp] theorem tNotD_d (a : CT) (env : Env) (S : Sto) : tNotD a env S = (a env S).bind fun x S => .ok (!x) S := Eq.trans rfl rfl
@[simp] theorem eAnd_d (a b : CE) (env : Env) (S : Sto) : eAnd a b env S = (a env S).bind fun x S => (toB x S).bind fun c S => if c = true then b env S else .ok (.bl false) S := Eq.trans rfl rfl
@[simp] theorem eOr_d (a b : CE) (env : Env) (S : Sto) : eOr a b env S = (a env S).bind fun x S => (toB x S).bind fun c S => if c = true then .ok (.bl true) S else b env S := Eq.trans rfl rfl
@[simp] theorem eNot_d (a : CE) (env : Env) (S : Sto) : eNot a env S = (a env S).bind fun x S => (toB x S).bind fun c S => .ok (.bl (!c)) S := Eq.trans rfl rfl
@[simp] theorem eIf_d (t : CT) (a b : CE) (env : Env) (S : Sto) : eIf t a b env S = (t env S).bind fun c S => if c = true then a env S else b env S := Eq.trans rfl rfl
@[simp] theorem eChain_d (g g' : D → D → Sto → R D) (a b c : CE) (env : Env) (S : Sto) : eChain g g' a b c env S = (a env S).bind fun x S => (b env S).bind fun y S => (g x y S).bind fun r S => (toB r S).bind fun k S => if k = true then (c env S).bind fun z S => g' y z S else .ok (.bl false) S := Eq.trans rfl rfl
@[simp] theorem eNew_d (f : CA) (env : Env) (S : Sto) : eNew f env S = (f env S).bind fun ds S => .ok (.new ds) S := Eq.trans rfl rfl
@[simp] theorem eAlloc_d (f : CA) (env : Env) (S : Sto) : eAlloc f env S = (f env S).bind fun ds S => .ok (.ref S.length) (S ++ [.lst ds]) := Eq.trans rfl rfl
@[simp] theorem aCall_d (g : List D → Sto → R (List D)) (f : CA) (env : Env) (S : Sto) : aCall g f env S = (f env S).bind g := Eq.trans rfl rfl
@[simp] theorem aMul_d (f : CA) (g : CE) (env : Env) (S : Sto) : aMul f g env S = (f env S).bind fun xs S => (g env S).bind fun k S => gMulN xs k S := Eq.trans rfl rfl
@[simp] theorem eTup_d (a : CA) (env : Env) (S : Sto) : eTup a env S = (a env S).bind fun xs S => gTupD xs S := Eq.trans rfl rfl
@[simp] theorem eMethL_d (g : D → List D → Sto → R D) (o : CE) (a : CA) (env : Env) (S : Sto) : eMethL g o a env S = (o env S).bind fun d S => (lstTy d S).bind fun d S => (a env S).bind fun xs S => g d xs S := Eq.trans rfl rfl
@[simp] theorem lstTy_ref (n : Nat) (S : Sto) : lstTy (.ref n) S = .ok (.ref n) S := Eq.trans rfl rfl
@[simp] theorem eSl_d (a : CE) (lo hi : CO) (env : Env) (S : Sto) : eSl a lo hi env S = (a env S).bind fun d S => (lo env S).bind fun l S => (hi env S).bind fun h S => gSl d l h S := Eq.trans rfl rfl
@[simp] theorem pNone_d (env : Env) (S : Sto) : pNone env S = .ok none S := Eq.trans rfl rfl
@[simp] theorem pSome_d (f : CE) (env : Env) (S : Sto) : pSome f env S = (f env S).bind toI := Eq.trans rfl rfl
@[simp] theorem toI_int (i : Int) (S : Sto) : toI (.int i) S = .ok (some i) S := Eq.trans rfl rfl
@[simp] theorem tYesD_d (env : Env) (S : Sto) : tYesD env S = .ok true S := Eq.trans rfl rfl
/-! statements -/
@[simp] theorem sNext_d (env : Env) (S : Sto) : sNext env S = .nx env S := Eq.trans rfl rfl
@[simp] theorem sBrk_d (env : Env) (S : Sto) : sBrk env S = .bk env S := Eq.trans rfl rfl
@[simp] theorem sCont_d (env : Env) (S : Sto) : sCont env S = .ct env S := Eq.trans rfl rfl
@[simp] theorem sBad_d (env : Env) (S : Sto) : sBad env S = .bad := Eq.trans rfl rfl
@[simp] theorem sSeq_d (a b : CS) (env : Env) (S : Sto) : sSeq a b env S = (a env S).next b := Eq.trans rfl rfl
@[simp] theorem sAsg_d (f : CE) (g : CG) (env : Env) (S : Sto) : sAsg f g env S = (f env S).st env fun d S => gSt (g d env S) := Eq.trans rfl rfl
@[simp] theorem sExpr_d (f : CE) (env : Env) (S : Sto) : sExpr f env S = (f env S).st env fun _ S => .nx env S := Eq.trans rfl rfl
@[simp] theorem sRet_d (f : CE) (env : Env) (S : Sto) : sRet f env S = (f env S).st env fun d S => .rt d S := Eq.trans rfl rfl
@[simp] theorem sRetN_d (env : Env) (S : Sto) : sRetN env S = .rt .non S := Eq.trans rfl rfl
@[simp] theorem sIf_d (t : CT) (a b : CS) (env : Env) (S : Sto) : sIf t a b env S = (t env S).st env fun c S => if c = true then a env S else b env S := Eq.trans rfl rfl
@[simp] theorem sPar_d (i j : Nat) (f : CA) (env : Env) (S : Sto) : sPar i j f env S = (f env S).st env fun xs S => match xs with
  | [x, y] => .nx ((env.set i (some x)).set j (some y)) S
  | _ => .bad := Eq.trans rfl rfl
@[simp] theorem sPar3_d (i j l : Nat) (f : CA) (env : Env) (S : Sto) : sPar3 i j l f env S = (f env S).st env fun xs S => match xs with
  | [x, y, z] => .nx (((env.set i (some x)).set j (some y)).set l (some z)) S
  | _ => .bad := Eq.trans rfl rfl
@[simp] theorem sSetItem_d (fo fi fv : CE) (env : Env) (S : Sto) : sSetItem fo fi fv env S = (fv env S).st env fun v S => (fo env S).st env fun o S => (fi env S).st env fun i S => (stItem o i v S).nox.st env fun _ S => .nx env S := Eq.trans rfl rfl
@[simp] theorem sAugItem_d (g : D → D → Sto → R D) (fo fi fv : CE) (env : Env) (S : Sto) : sAugItem g fo fi fv env S = (fo env S).st env fun o S => (fi env S).st env fun i S => (ldItem o i S).nox.st env fun x S => (fv env S).st env fun y S => (g x y S).nox.st env fun z S => (stItem o i z S).nox.st env fun _ S => .nx env S := Eq.trans rfl rfl
@[simp] theorem sAug_d (g : D → D → Sto → R D) (i : Nat) (fe : CE) (env : Env) (S : Sto) : sAug g i fe env S = match env[i]? with
  | some (some x) => (fe env S).st env fun y S => (g x y S).nox.st env fun z S => .nx (env.set i (some z)) S
  | _ => .bad := Eq.trans rfl rfl
@[simp] theorem gName_d (i : Nat) (d : D) (env : Env) (S : Sto) : gName i d env S = .ok (env.set i (some d)) S := Eq.trans rfl rfl
@[simp] theorem gsNil_d (env : Env) (S : Sto) : gsNil [] env S = .ok env S := Eq.trans rfl rfl
@[simp] theorem gsCons_d (g : CG) (r : CGs) (d : D) (ds : List D) (env : Env) (S : Sto) : gsCons g r (d :: ds) env S = (g d env S).bind fun env S => r ds env S := Eq.trans rfl rfl
@[simp] theorem gTup_d (n : Nat) (r : CGs) (ds : List D) (env : Env) (S : Sto) : gTup n r (.tup ds) env S = if ds.length = n then r ds env S else .bad := Eq.trans rfl rfl
@[simp] theorem fnG_d (np : Nat) (F : List D → Sto → R D) (ds : List D) (S : Sto) : fnG np F ds S = if ds.length = np then F ds S else .bad := Eq.trans rfl rfl
@[simp] theorem fnR_rt (d : D) (S : Sto) : fnR (.rt d S) = .ok d S := Eq.trans rfl rfl
@[simp] theorem fnR_nx (env : Env) (S : Sto) : fnR (.nx env S) = .ok .non S := Eq.trans rfl rfl
@[simp] theorem fnR_exc (x : Exn) (env : Env) (S : Sto) : fnR (.exc x env S) = .exc x S := Eq.trans rfl rfl
@[simp] theorem fnR_bad : fnR .bad = .bad := Eq.trans rfl rfl
theorem und_tup {m : Nat} {xs : List D} (h : ∀ x ∈ xs, x.und m = true) : (D.tup xs).und m = true := by
  unfold D.und
  induction xs with
  | nil => rfl
  | cons x xs ih => simp [D.unds, h x (by simp), ih fun y hy => h y (by simp [hy])]
theorem unds_of {m : Nat} {xs : List D} (h : ∀ x ∈ xs, x.und m = true) : D.unds m xs = true := by
  induction xs with
  | nil => rfl
  | cons x xs ih => simp [D.unds, h x (by simp), ih fun y hy => h y (by simp [hy])]
theorem und_new {m : Nat} {xs : List D} (h : ∀ x ∈ xs, x.und m = true) : (D.new xs).und m = true := by
  unfold D.und
  exact unds_of h
@[simp] theorem und_int (m : Nat) (i : Int) : (D.int i).und m = true := Eq.trans rfl rfl
@[simp] theorem und_bl (m : Nat) (i : Bool) : (D.bl i).und m = true := Eq.trans rfl rfl
@[simp] theorem und_non (m : Nat) : (D.non).und m = true := Eq.trans rfl rfl
@[simp] theorem und_str (m : Nat) (x : Str) : (D.str x).und m = true := Eq.trans rfl rfl
@[simp] theorem gc_bl {S : Sto} {b : Bool} : gc S (.ok (.bl b) S) = .ok (.bl b) S := gc_same rfl
@[simp] theorem gc_int {S : Sto} {b : Int} : gc S (.ok (.int b) S) = .ok (.int b) S := gc_same rfl
@[simp] theorem gc_non {S : Sto} : gc S (.ok .non S) = .ok .non S := gc_same rfl
@[simp] theorem gc_blG {S G : Sto} {b : Bool} : gc S (.ok (.bl b) (S ++ G)) = .ok (.bl b) S := gc_pure (.bl b)
@[simp] theorem gc_intG {S G : Sto} {b : Int} : gc S (.ok (.int b) (S ++ G)) = .ok (.int b) S := gc_pure (.int b)
@[simp] theorem gc_nonG {S G : Sto} : gc S (.ok .non (S ++ G)) = .ok .non S := gc_pure .non
/-! operations -/
@[simp] theorem gSub_i (i j : Int) (S : Sto) : gSub (.int i) (.int j) S = .ok (.int (i - j)) S := Eq.trans rfl rfl
@[simp] theorem gLt_i (i j : Int) (S : Sto) : gLt (.int i) (.int j) S = .ok (.bl (decide (i < j))) S := Eq.trans rfl rfl
@[simp] theorem gLe_i (i j : Int) (S : Sto) : gLe (.int i) (.int j) S = .ok (.bl (decide (i ≤ j))) S := Eq.trans rfl rfl
@[simp] theorem gGt_i (i j : Int) (S : Sto) : gGt (.int i) (.int j) S = .ok (.bl (decide (j < i))) S := Eq.trans rfl rfl
@[simp] theorem gGe_i (i j : Int) (S : Sto) : gGe (.int i) (.int j) S = .ok (.bl (decide (j ≤ i))) S := Eq.trans rfl rfl
@[simp] theorem gMod_i (i j : Int) (S : Sto) : gMod (.int i) (.int j) S = if 0 < j then .ok (.int (i % j)) S else .bad := Eq.trans rfl rfl
@[simp] theorem gDiv_i (i j : Int) (S : Sto) : gDiv (.int i) (.int j) S = if 0 < j ∧ j < 1073741824 then .ok (.int (i / j)) S else .bad := Eq.trans rfl rfl
theorem gPow_i (i j : Int) (S : Sto) : gPow (.int i) (.int j) S = if 0 ≤ j ∧ j ≤ 1000000 ∧ i.natAbs < 2 ^ 64 then .ok (.int (i ^ j.toNat)) S else .bad := Eq.trans rfl rfl
@[simp] theorem gAdd_i (i j : Int) (S : Sto) : gAdd (.int i) (.int j) S = .ok (.int (i + j)) S := Eq.trans rfl rfl
@[simp] theorem gAdd_t (xs ys : List D) (S : Sto) : gAdd (.tup xs) (.tup ys) S = if xs.length + ys.length ≤ sLim then .ok (.tup (xs ++ ys)) S else .bad := Eq.trans rfl rfl
@[simp] theorem gAdd_n (xs ys : List D) (S : Sto) : gAdd (.new xs) (.new ys) S = if xs.length + ys.length ≤ sLim then .ok (.new (xs ++ ys)) S else .bad := Eq.trans rfl rfl
@[simp] theorem gIAdd_i (i j : Int) (S : Sto) : gIAdd (.int i) (.int j) S = .ok (.int (i + j)) S := Eq.trans rfl rfl
theorem gMul_i (i j : Int) (S : Sto) : gMul (.int i) (.int j) S = if (-(2 ^ 64) < i ∧ i < 2 ^ 64) ∨ (-(2 ^ 64) < j ∧ j < 2 ^ 64) then .ok (.int (i * j)) S else .bad := Eq.trans rfl rfl
theorem gMul_l (i j : Int) (S : Sto) (h : -1000000000 < i ∧ i < 1000000000) : gMul (.int i) (.int j) S = .ok (.int (i * j)) S := by
  rw [gMul_i, if_pos (.inl ⟨by omega, by omega⟩)]
theorem gMul_r (i j : Int) (S : Sto) (h : -1000000000 < j ∧ j < 1000000000) : gMul (.int i) (.int j) S = .ok (.int (i * j)) S := by
  rw [gMul_i, if_pos (.inr ⟨by omega, by omega⟩)]
theorem gPow_c (i : Int) (j : Nat) (S : Sto) (hj : j ≤ 1000000) (h : 0 ≤ i ∧ i < 18446744073709551616) : gPow (.int i) (.int j) S = .ok (.int (i ^ j)) S := by
  rw [gPow_i, if_pos ⟨by omega, by omega, by omega⟩]
  simp
@[simp] theorem gNeg_i (i : Int) (S : Sto) : gNeg (.int i) S = .ok (.int (-i)) S := Eq.trans rfl rfl
@[simp] theorem gIs_non (a : D) (S : Sto) : gIs a .non S = .ok (.bl (isNon a)) S := Eq.trans rfl rfl
@[simp] theorem gIs_bl (x y : Bool) (S : Sto) : gIs (.bl x) (.bl y) S = .ok (.bl (decide (x = y))) S := Eq.trans rfl rfl
@[simp] theorem gIsNot_non (a : D) (S : Sto) : gIsNot a .non S = .ok (.bl (!isNon a)) S := Eq.trans rfl rfl
@[simp] theorem gIsNot_bl (x y : Bool) (S : Sto) : gIsNot (.bl x) (.bl y) S = .ok (.bl (!decide (x = y))) S := Eq.trans rfl rfl
@[simp] theorem isNon_non : isNon .non = true := Eq.trans rfl rfl
@[simp] theorem isNon_tup (xs : List D) : isNon (.tup xs) = false := Eq.trans rfl rfl
@[simp] theorem isNon_int (i : Int) : isNon (.int i) = false := Eq.trans rfl rfl
@[simp] theorem isNon_new (xs : List D) : isNon (.new xs) = false := Eq.trans rfl rfl
@[simp] theorem isX_non : D.isX .non = false := Eq.trans rfl rfl
@[simp] theorem isX_bl (b : Bool) : D.isX (.bl b) = false := Eq.trans rfl rfl
@[simp] theorem isX_int (i : Int) : D.isX (.int i) = false := Eq.trans rfl rfl
@[simp] theorem isX_str (x : Str) : D.isX (.str x) = false := Eq.trans rfl rfl
@[simp] theorem isX_tup (xs : List D) : D.isX (.tup xs) = false := Eq.trans rfl rfl
@[simp] theorem isX_new (xs : List D) : D.isX (.new xs) = false := Eq.trans rfl rfl
@[simp] theorem isX_scr (xs : List D) : D.isX (.scr xs) = false := Eq.trans rfl rfl
@[simp] theorem isX_ref (n : Nat) : D.isX (.ref n) = false := Eq.trans rfl rfl
@[simp] theorem gIsi_d (T : String) (d : D) (S : Sto) (h : d.isX = false) : gIsi T d S = .ok (.bl (isiB (tyD d) T)) S := by unfold gIsi; rw [h, if_neg Bool.false_ne_true]
@[simp] theorem gTupD_d (xs : List D) (S : Sto) : gTupD xs S = if xs.length ≤ sLim then .ok (.tup xs) S else .bad := Eq.trans rfl rfl
@[simp] theorem gDisp_d (xs : List D) (S : Sto) : gDisp xs S = if xs.length ≤ sLim then .ok xs S else .bad := Eq.trans rfl rfl
@[simp] theorem gLen_t (xs : List D) (S : Sto) : gLen [.tup xs] S = .ok (.int xs.length) S := Eq.trans rfl rfl
@[simp] theorem gLen_n (xs : List D) (S : Sto) : gLen [.new xs] S = .ok (.int xs.length) S := Eq.trans rfl rfl
theorem gLen_r {n : Nat} {S : Sto} {xs : List D} (h : S[n]? = some (.lst xs)) : gLen [.ref n] S = .ok (.int xs.length) S := by simp [gLen, gLenS, one, seqOf, lstOf, h]
@[simp] theorem gTuple_t (xs : List D) (S : Sto) : gTuple [.tup xs] S = .ok (.tup xs) S := Eq.trans rfl rfl
@[simp] theorem gTuple_n (xs : List D) (S : Sto) : gTuple [.new xs] S = .ok (.tup xs) S := Eq.trans rfl rfl
theorem gTuple_r {n : Nat} {S : Sto} {xs : List D} (h : S[n]? = some (.lst xs)) : gTuple [.ref n] S = .ok (.tup xs) S := by simp [gTuple, one, lstOf, h]
@[simp] theorem gList_t (xs : List D) (S : Sto) : gList [.tup xs] S = .ok xs S := Eq.trans rfl rfl
@[simp] theorem gList_n (xs : List D) (S : Sto) : gList [.new xs] S = .ok xs S := Eq.trans rfl rfl
@[simp] theorem gList_s (xs : List D) (S : Sto) : gList [.scr xs] S = .ok xs S := Eq.trans rfl rfl
@[simp] theorem gRev_n (xs : List D) (S : Sto) : gRev (.new xs) S = .ok (.new xs.reverse) S := Eq.trans rfl rfl
theorem atI_nat {α : Type} (xs : List α) (k : Nat) {x : α} (h : xs[k]? = some x) : atI xs (k : Int) = some x := by
  have hk : k < xs.length := (List.getElem?_eq_some_iff.mp h).1
  unfold atI ixN
  simp [hk]
  exact (List.getElem?_eq_some_iff.mp h).2
theorem gIx_t {xs : List D} {i : Int} {d : D} {S : Sto} (h : atI xs i = some d) : gIx (.tup xs) (.int i) S = .ok d S := by simp [gIx, gIxS, h]
theorem gIx_n {xs : List D} {i : Int} {d : D} {S : Sto} (h : atI xs i = some d) : gIx (.new xs) (.int i) S = .ok d S := by simp [gIx, gIxS, h]
theorem gIx_r {n : Nat} {xs : List D} {i : Int} {d : D} {S : Sto} (e : S[n]? = some (.lst xs)) (h : atI xs i = some d) : gIx (.ref n) (.int i) S = .ok d S := by simp [gIx, gIxS, seqOf, lstOf, e, h]

/-! ## loops -/
@[simp] theorem seqSrc_t (ds : List D) (S : Sto) : seqSrc (.tup ds) S = .ok (.fix ds) S := Eq.trans rfl rfl
@[simp] theorem seqSrc_n (ds : List D) (S : Sto) : seqSrc (.new ds) S = .ok (.fix ds) S := Eq.trans rfl rfl
@[simp] theorem iSeq_d (f : CE) (env : Env) (S : Sto) : iSeq f env S = (f env S).bind seqSrc := Eq.trans rfl rfl
@[simp] theorem iEnumD_d (f : CA) (env : Env) (S : Sto) : iEnumD f env S = (f env S).bind enumSrc := Eq.trans rfl rfl
@[simp] theorem enumSrc_t (ds : List D) (S : Sto) : enumSrc [.tup ds] S = .ok (.fix (enumD ds)) S := Eq.trans rfl rfl
@[simp] theorem enumSrc_n (ds : List D) (S : Sto) : enumSrc [.new ds] S = .ok (.fix (enumD ds)) S := Eq.trans rfl rfl
@[simp] theorem iRng1_d (f : CA) (env : Env) (S : Sto) : iRng1D f env S = (f env S).bind rng1 := Eq.trans rfl rfl
@[simp] theorem iRng2_d (f : CA) (env : Env) (S : Sto) : iRng2D f env S = (f env S).bind rng2 := Eq.trans rfl rfl
theorem rng1_n (n : Nat) (S : Sto) (h : n < 2 ^ 62) : rng1 [.int n] S = .ok (.fix ((List.range n).map fun i => .int (i : Nat))) S := by
  have h1 : -(2 ^ 62) ≤ (n : Int) ∧ (n : Int) < 2 ^ 62 := by omega
  simp only [rng1]
  rw [if_pos (by omega)]
  simp [rangeD]
/-! ## comprehensions over fixed items -/
def cTurn (g : CG) (ts : CT) (inner : CC) (env : Env) (d : D) (acc : List D) (S : Sto) : R (List D) :=
  (g d env S).nox.bind fun env1 S1 => (ts env1 S1).nox.bind fun b S2 => if b = true then inner env1 acc S2 else .ok acc S2
def cL (g : CG) (ts : CT) (inner : CC) (env : Env) : List D → List D → Sto → R (List D)
  | [], acc, S => .ok acc S
  | d :: ds, acc, S => (cTurn g ts inner env d acc S).bind fun acc S => cL g ts inner env ds acc S
theorem cGo_fix (ds : List D) (g : CG) (ts : CT) (inner : CC) (env : Env) : ∀ (k i : Nat) (acc : List D) (S : Sto), k + i = ds.length → cGo (.fix ds) g ts inner k i env acc S = cL g ts inner env (ds.drop i) acc S
  | 0, i, acc, S, h => by
    unfold cGo
    have : ds[i]? = none := by simp; omega
    simp only [Src.at, this]
    rw [List.drop_eq_nil_of_le (by omega)]
    rfl
  | k + 1, i, acc, S, h => by
    unfold cGo
    have hi : i < ds.length := by omega
    have e : ds[i]? = some ds[i] := List.getElem?_eq_getElem hi
    simp only [Src.at, e]
    rw [List.drop_eq_getElem_cons hi]
    unfold cL cTurn
    cases q : g ds[i] env S with
    | bad => rfl
    | exc x S1 => rfl
    | ok env1 S1 =>
      simp only [R.nox_ok, R.bind_ok]
      cases q2 : ts env1 S1 with
      | bad => rfl
      | exc x S1 => rfl
      | ok b S2 =>
        simp only [R.nox_ok, R.bind_ok]
        cases b with
        | true =>
          simp only [if_true]
          cases q3 : inner env1 acc S2 with
          | bad => rfl
          | exc x S1 => rfl
          | ok acc' S3 =>
            simp only [R.bind_ok]
            exact cGo_fix ds g ts inner env k (i + 1) acc' S3 (by omega)
        | false =>
          simp only [Bool.false_eq_true, if_false, R.bind_ok]
          exact cGo_fix ds g ts inner env k (i + 1) acc S2 (by omega)
@[simp] theorem aComp_d (c : CC) (env : Env) (S : Sto) : aComp c env S = c env [] S := Eq.trans rfl rfl
theorem cFor_fix {fi : CI} {g : CG} {ts : CT} {vs : List Nat} {inner : CC} {env : Env} {acc ds : List D} {S S1 : Sto} (h : fi env S = .ok (.fix ds) S1) : cFor fi g ts vs inner env acc S = (cL g ts inner (wipeE env vs) ds acc S1).nox := by
  unfold cFor
  rw [h, R.bind_ok]
  show (cGo (.fix ds) g ts inner ds.length 0 (wipeE env vs) acc S1).nox = _
  rw [cGo_fix ds g ts inner _ ds.length 0 acc S1 (by omega)]
  rfl
theorem cForI_fix {fi : CI} {g : CG} {ts : CT} {vs : List Nat} {inner : CC} {env : Env} {acc ds : List D} {S S1 : Sto} (h : fi env S = .ok (.fix ds) S1) : cForI fi g ts vs inner env acc S = cL g ts inner (wipeE env vs) ds acc S1 := by
  unfold cForI
  rw [h, R.nox_ok, R.bind_ok]
  show cGo (.fix ds) g ts inner ds.length 0 (wipeE env vs) acc S1 = _
  rw [cGo_fix ds g ts inner _ ds.length 0 acc S1 (by omega)]
  rfl
theorem cL_pure {α : Type} {g : CG} {ts : CT} {inner : CC} {env : Env} {S : Sto} (e : α → D) (f : α → List D) : ∀ (xs : List α) (acc : List D), acc.length + (xs.flatMap f).length ≤ sLim →
    (∀ x ∈ xs, ∀ acc : List D, acc.length + (f x).length ≤ sLim → cTurn g ts inner env (e x) acc S = .ok (acc ++ f x) S) → cL g ts inner env (xs.map e) acc S = .ok (acc ++ xs.flatMap f) S
  | [], acc, _, _ => by simp [cL]
  | x :: xs, acc, hl, h => by
    simp only [List.flatMap_cons, List.length_append] at hl
    rw [List.map_cons]
    unfold cL
    rw [h x (by simp) acc (by omega), R.bind_ok, cL_pure e f xs (acc ++ f x) (by simp only [List.length_append]; omega) fun y hy => h y (by simp [hy])]
    simp
theorem cTurn_elt {g : CG} {ts : CT} {elt : CE} {env env1 : Env} {d y : D} {acc : List D} {S S1 S2 S3 : Sto} (h1 : g d env S = .ok env1 S1) (h2 : ts env1 S1 = .ok true S2) (h3 : elt env1 S2 = .ok y S3) (hl : acc.length < sLim) :
    cTurn g ts (cElt elt) env d acc S = .ok (acc ++ [y]) S3 := by
  unfold cTurn cElt
  simp [h1, h2, h3, hl]
theorem cL_map {α : Type} {g : CG} {ts : CT} {elt : CE} {env : Env} {S : Sto} (e : α → D) (f : α → D) (xs : List α) (acc : List D) (hl : acc.length + xs.length ≤ sLim)
    (h : ∀ x ∈ xs, ∃ env1, g (e x) env S = .ok env1 S ∧ ts env1 S = .ok true S ∧ elt env1 S = .ok (f x) S) : cL g ts (cElt elt) env (xs.map e) acc S = .ok (acc ++ xs.map f) S := by
  have q : xs.flatMap (fun x => [f x]) = xs.map f := by clear h hl; induction xs <;> simp_all
  have := cL_pure (g := g) (ts := ts) (inner := cElt elt) (env := env) (S := S) e (fun x => [f x]) xs acc (by rw [q]; simpa using hl) fun x hx acc hl => by
    obtain ⟨env1, h1, h2, h3⟩ := h x hx
    exact cTurn_elt h1 h2 h3 (by simp at hl; omega)
  rw [this, q]
/-- a comprehension of one clause, no test -/
theorem comp_map {α : Type} {fi : CI} {g : CG} {elt : CE} {vs : List Nat} {env : Env} {S S1 : Sto} (e : α → D) (f : α → D) (xs : List α) (h : fi env S = .ok (.fix (xs.map e)) S1) (hl : xs.length ≤ sLim)
    (he : ∀ x ∈ xs, ∃ env1, g (e x) (wipeE env vs) S1 = .ok env1 S1 ∧ elt env1 S1 = .ok (f x) S1) : aComp (cFor fi g tYesD vs (cElt elt)) env S = .ok (xs.map f) S1 := by
  rw [aComp_d, cFor_fix h, cL_map e f xs [] (by simpa using hl) fun x hx => by
    obtain ⟨env1, h1, h2⟩ := he x hx
    exact ⟨env1, h1, rfl, h2⟩]
  simp

/-! ## all, any, sum, max of lists -/
theorem blsOf_f {α : Type} (xs : List α) (f : α → Bool) : blsOf (xs.map fun x => .bl (f x)) = some (xs.map f) := by
  have : (xs.map fun x => D.bl (f x)) = (xs.map f).map D.bl := by simp
  rw [this]
  exact blsOf_map _
theorem intsOf_f {α : Type} (xs : List α) (f : α → Int) : intsOf (xs.map fun x => .int (f x)) = some (xs.map f) := by
  have : (xs.map fun x => D.int (f x)) = (xs.map f).map D.int := by simp
  rw [this]
  exact intsOf_map _
@[simp] theorem gAll_f {α : Type} (xs : List α) (f : α → Bool) (S : Sto) : gAll [.new (xs.map fun x => .bl (f x))] S = .ok (.bl (xs.all f)) S := by
  simp [gAll, onBls, blsOf_f, List.all_map]
@[simp] theorem gAny_f {α : Type} (xs : List α) (f : α → Bool) (S : Sto) : gAny [.new (xs.map fun x => .bl (f x))] S = .ok (.bl (xs.any f)) S := by
  simp [gAny, onBls, blsOf_f, List.any_map]
@[simp] theorem gSum_f {α : Type} (xs : List α) (f : α → Int) (S : Sto) : gSum [.new (xs.map fun x => .int (f x))] S = .ok (.int (xs.map f).sum) S := by
  simp [gSum, onInts, intsOf_f]
theorem gSum_m (xs : List Int) (S : Sto) : gSum [.new (xs.map D.int)] S = .ok (.int xs.sum) S := by
  simp [gSum, onInts]
end J

namespace J
open PySem PySem.Spec PyProof.Rows L2
/-! ## rows as data -/
abbrev Thr := Int × Int
abbrev Own := List Thr
abbrev Beat := List Own
abbrev Row := List Beat
def eT (t : Thr) : D := .tup [.int t.1, .int t.2]
def eO (o : Own) : D := .tup (o.map eT)
def eB (b : Beat) : D := .tup (b.map eO)
def eR (r : Row) : D := .tup (r.map eB)
@[simp] theorem und_eT (m : Nat) (t : Thr) : (eT t).und m = true := und_tup (by simp)
@[simp] theorem und_eO (m : Nat) (t : Own) : (eO t).und m = true := und_tup (by intro x hx; obtain ⟨t, _, rfl⟩ := List.mem_map.mp hx; simp)
@[simp] theorem und_eB (m : Nat) (t : Beat) : (eB t).und m = true := und_tup (by intro x hx; obtain ⟨t, _, rfl⟩ := List.mem_map.mp hx; simp)
@[simp] theorem und_eR (m : Nat) (t : Row) : (eR t).und m = true := und_tup (by intro x hx; obtain ⟨t, _, rfl⟩ := List.mem_map.mp hx; simp)
theorem is_whole_int (i lo hi : Int) (S : Sto) : G_is_whole [.int i, .int lo, .int hi] S = .ok (.bl (decide (lo ≤ i) && decide (i ≤ hi))) S := by
  rw [G_is_whole_eq, F_is_whole]
  simp [isiB, tyD]
  by_cases h : lo ≤ i
  · simp [h]
  · simp [h]
@[simp] theorem atI_0 {α : Type} (x : α) (xs : List α) : atI (x :: xs) 0 = some x := by simpa using atI_nat (x :: xs) 0 (x := x) rfl
@[simp] theorem atI_1 {α : Type} (x y : α) (xs : List α) : atI (x :: y :: xs) 1 = some y := by simpa using atI_nat (x :: y :: xs) 1 (x := y) rfl
@[simp] theorem ty_tup (xs : List D) : tyD (.tup xs) = "tuple" := rfl
@[simp] theorem ty_new (xs : List D) : tyD (.new xs) = "list" := rfl
@[simp] theorem ty_int (i : Int) : tyD (.int i) = "int" := rfl
@[simp] theorem ty_bl (i : Bool) : tyD (.bl i) = "bool" := rfl
@[simp] theorem ty_ref (n : Nat) : tyD (.ref n) = "list" := rfl
@[simp] theorem ty_non : tyD .non = "NoneType" := rfl
@[simp] theorem isiB_self (T : String) : isiB T T = true := by simp [isiB]
@[simp] theorem isiB_lt : isiB "list" "tuple" = false := by decide
@[simp] theorem isiB_ib : isiB "int" "bool" = false := by decide
mutual
/-- whole numbers, texts, None, tuples and lists of such -/
def D.pl : D → Bool
  | .non => true
  | .int _ => true
  | .str x => PyData.strOk x
  | .tup xs => D.pls xs
  | .new xs => D.pls xs
  | _ => false
def D.pls : List D → Bool
  | [] => true
  | x :: xs => D.pl x && D.pls xs
end
mutual
theorem eqv_pl : ∀ {a b : D}, a.pl = true → b.pl = true → (D.eqv a b = true ↔ a = b)
  | .non, b, _, hb => by cases b <;> simp [D.eqv, D.pl] at hb ⊢
  | .int i, b, _, hb => by cases b <;> simp [D.eqv, D.pl] at hb ⊢
  | .str i, b, _, hb => by cases b <;> simp [D.eqv, D.pl] at hb ⊢
  | .tup xs, b, ha, hb => by
    cases b <;> simp [D.eqv, D.pl] at ha hb ⊢
    exact eqvs_pl ha hb
  | .new xs, b, ha, hb => by
    cases b <;> simp [D.eqv, D.pl] at ha hb ⊢
    exact eqvs_pl ha hb
  | .bl _, _, ha, _ => by simp [D.pl] at ha
  | .scr _, _, ha, _ => by simp [D.pl] at ha
  | .ref _, _, ha, _ => by simp [D.pl] at ha
  | .exn _, _, ha, _ => by simp [D.pl] at ha
  | .dic _ _, _, ha, _ => by simp [D.pl] at ha
  | .rdc _, _, ha, _ => by simp [D.pl] at ha
theorem eqvs_pl : ∀ {a b : List D}, D.pls a = true → D.pls b = true → (D.eqvs a b = true ↔ a = b)
  | [], [], _, _ => by simp [D.eqvs]
  | [], _ :: _, _, _ => by simp [D.eqvs]
  | _ :: _, [], _, _ => by simp [D.eqvs]
  | x :: xs, y :: ys, ha, hb => by
    simp [D.pls] at ha hb
    simp [D.eqvs, eqv_pl ha.1 hb.1, eqvs_pl ha.2 hb.2]
end
theorem pls_of {xs : List D} (h : ∀ x ∈ xs, x.pl = true) : D.pls xs = true := by
  induction xs with
  | nil => rfl
  | cons x xs ih => simp [D.pls, h x (by simp), ih fun y hy => h y (by simp [hy])]
theorem pl_tup {xs : List D} (h : ∀ x ∈ xs, x.pl = true) : (D.tup xs).pl = true := by unfold D.pl; exact pls_of h
theorem pl_new {xs : List D} (h : ∀ x ∈ xs, x.pl = true) : (D.new xs).pl = true := by unfold D.pl; exact pls_of h
@[simp] theorem pl_int (i : Int) : (D.int i).pl = true := by simp [D.pl]
@[simp] theorem pl_non : D.non.pl = true := by simp [D.pl]
theorem deps_le {xs : List D} {k : Nat} (h : ∀ x ∈ xs, x.dep ≤ k) : D.deps xs ≤ k := by
  induction xs with
  | nil => simp [D.deps]
  | cons x xs ih =>
    have := h x (by simp)
    have := ih fun y hy => h y (by simp [hy])
    simp [D.deps]
    omega
theorem dep_tup {xs : List D} {k : Nat} (h : ∀ x ∈ xs, x.dep ≤ k) : (D.tup xs).dep ≤ k + 1 := by
  have := deps_le h
  simp [D.dep]; omega
theorem dep_new {xs : List D} {k : Nat} (h : ∀ x ∈ xs, x.dep ≤ k) : (D.new xs).dep ≤ k + 1 := by
  have := deps_le h
  simp [D.dep]; omega
@[simp] theorem dep_int (i : Int) : (D.int i).dep = 0 := by simp [D.dep]
@[simp] theorem dep_non : D.non.dep = 0 := by simp [D.dep]
theorem pl_derf {S : Sto} {d : D} (h : d.pl = true) : derf S d = d := by
  cases d <;> first | rfl | (simp [D.pl] at h)
theorem gEq_pl {a b : D} {c : Bool} (S : Sto) (ha : a.pl = true) (hb : b.pl = true) (da : a.dep ≤ 64) (db : b.dep ≤ 64) (hc : c = true ↔ a = b) : gEq a b S = .ok (.bl c) S := by
  unfold gEq
  rw [pl_derf ha, pl_derf hb, if_pos ⟨da, db⟩]
  have := eqv_pl ha hb
  congr 2
  cases h : D.eqv a b <;> cases c <;> simp_all
theorem gNe_pl {a b : D} {c : Bool} (S : Sto) (ha : a.pl = true) (hb : b.pl = true) (da : a.dep ≤ 64) (db : b.dep ≤ 64) (hc : c = true ↔ a = b) : gNe a b S = .ok (.bl !c) S := by
  unfold gNe
  rw [pl_derf ha, pl_derf hb, if_pos ⟨da, db⟩]
  have := eqv_pl ha hb
  congr 3
  cases h : D.eqv a b <;> cases c <;> simp_all
theorem gNe_self {a : D} (S : Sto) (ha : a.pl = true) (da : a.dep ≤ 64) : gNe a a S = .ok (.bl false) S := gNe_pl (c := true) S ha ha da da (by simp)
@[simp] theorem gEq_i (i j : Int) (S : Sto) : gEq (.int i) (.int j) S = .ok (.bl (decide (i = j))) S := gEq_pl S (by simp) (by simp) (by simp) (by simp) (by simp)
@[simp] theorem gNe_i (i j : Int) (S : Sto) : gNe (.int i) (.int j) S = .ok (.bl (!decide (i = j))) S := gNe_pl S (by simp) (by simp) (by simp) (by simp) (by simp)
@[simp] theorem pl_eT (t : Thr) : (eT t).pl = true := pl_tup (by simp)
@[simp] theorem pl_eO (t : Own) : (eO t).pl = true := pl_tup (by intro x hx; obtain ⟨t, _, rfl⟩ := List.mem_map.mp hx; simp)
@[simp] theorem pl_eB (t : Beat) : (eB t).pl = true := pl_tup (by intro x hx; obtain ⟨t, _, rfl⟩ := List.mem_map.mp hx; simp)
@[simp] theorem pl_eR (t : Row) : (eR t).pl = true := pl_tup (by intro x hx; obtain ⟨t, _, rfl⟩ := List.mem_map.mp hx; simp)
theorem dep_eT (t : Thr) : (eT t).dep ≤ 1 := dep_tup (by simp)
theorem dep_eO (t : Own) : (eO t).dep ≤ 2 := dep_tup (by intro x hx; obtain ⟨t, _, rfl⟩ := List.mem_map.mp hx; exact dep_eT _)
theorem dep_eB (t : Beat) : (eB t).dep ≤ 3 := dep_tup (by intro x hx; obtain ⟨t, _, rfl⟩ := List.mem_map.mp hx; exact dep_eO _)
theorem eT_inj {a b : Thr} (h : eT a = eT b) : a = b := by
  obtain ⟨a1, a2⟩ := a
  obtain ⟨b1, b2⟩ := b
  simpa [eT] using h
theorem map_inj {α : Type} {e : α → D} (he : ∀ {a b}, e a = e b → a = b) : ∀ {xs ys : List α}, xs.map e = ys.map e → xs = ys
  | [], [], _ => rfl
  | [], _ :: _, h => by simp at h
  | _ :: _, [], h => by simp at h
  | x :: xs, y :: ys, h => by
    simp at h
    rw [he h.1, map_inj he h.2]
theorem eO_inj {a b : Own} (h : eO a = eO b) : a = b := map_inj eT_inj (by simpa [eO] using h)
def okT (n : Int) (t : Thr) : Bool := decide (1 ≤ t.1) && decide (t.1 ≤ 15) && (decide (0 ≤ t.2) && decide (t.2 ≤ n - 1))
theorem is_throw_eT (t : Thr) (n : Int) (S : Sto) : G_is_throw [eT t, .int n] S = .ok (.bl (okT n t)) S := by
  rw [G_is_throw_eq, F_is_throw]
  simp [eT, gIx_t, is_whole_int, okT]
  by_cases h : 1 ≤ t.1 <;> by_cases h2 : t.1 ≤ 15 <;> simp [h, h2]

/-! ### the order of throws -/
def leT (a b : Thr) : Bool := decide (a.1 < b.1) || (decide (a.1 = b.1) && decide (a.2 ≤ b.2))
theorem leD_eT (a b : Thr) : leD (eT a) (eT b) = leT a b := by
  unfold leD eT leT
  simp only [D.lt, D.lts, D.eqv, beq_iff_eq]
  by_cases h : b.1 = a.1
  · simp only [h, if_true]
    by_cases h2 : b.2 = a.2
    · simp [h2]
    · by_cases h3 : b.2 < a.2
      · simp [h2, h3]; try omega
      · simp [h2, h3]; try omega
  · have h' : ¬ a.1 = b.1 := fun e => h e.symm
    by_cases h3 : b.1 < a.1
    · simp [h, h', h3]; try omega
    · simp [h, h', h3]; try omega
theorem leT_trans (a b c : Thr) (h1 : leT a b = true) (h2 : leT b c = true) : leT a c = true := by
  simp [leT] at *
  omega
theorem leT_total (a b : Thr) : (leT a b || leT b a) = true := by
  simp [leT]
  omega
theorem leT_anti (a b : Thr) (h1 : leT a b = true) (h2 : leT b a = true) : a = b := by
  obtain ⟨a1, a2⟩ := a
  obtain ⟨b1, b2⟩ := b
  simp [leT] at *
  omega
def srt (o : Own) : Own := o.mergeSort leT
theorem sorted_eT (o : Own) : (o.map eT).mergeSort leD = (srt o).map eT := (List.map_mergeSort fun a _ b _ => (leD_eT a b).symm).symm
theorem srtOk_eT (o : Own) : srtOk (o.map eT) = true := by
  unfold srtOk
  simp only [Bool.and_eq_true, Bool.or_eq_true, List.all_eq_true]
  refine ⟨⟨fun x hx y hy => ?_, .inl fun x hx => ?_⟩, fun x hx => ?_⟩
  · obtain ⟨a, _, rfl⟩ := List.mem_map.mp hx
    obtain ⟨b, _, rfl⟩ := List.mem_map.mp hy
    simp [eT, D.alk, D.alks]
  · obtain ⟨a, _, rfl⟩ := List.mem_map.mp hx
    rfl
  · obtain ⟨a, _, rfl⟩ := List.mem_map.mp hx
    have := dep_eT a
    simp
    omega
theorem gSorted_eO (o : Own) (S : Sto) : gSorted [eO o] S = .ok ((srt o).map eT) S := by
  unfold gSorted eO
  simp [srtOk_eT, sorted_eT]
/-- highest first -/
def dsc (o : Own) : Own := (srt o).reverse
theorem dsc_perm (o : Own) : (dsc o).Perm o := (List.reverse_perm _).trans (List.mergeSort_perm _ _)
theorem dsc_desc (o : Own) : (dsc o).Pairwise fun a b => leT b a = true := by
  unfold dsc
  rw [List.pairwise_reverse]
  exact List.pairwise_mergeSort leT_trans leT_total o
theorem dsc_of_desc {o : Own} (h : o.Pairwise fun a b => leT b a = true) : dsc o = o :=
  (dsc_perm o).eq_of_pairwise (le := fun a b => leT b a = true) (fun a b _ _ h1 h2 => leT_anti a b h2 h1) (dsc_desc o) h
theorem dsc_dsc (o : Own) : dsc (dsc o) = dsc o := dsc_of_desc (dsc_desc o)
/-! ### is_beat, is_row -/
def okO (n : Int) (o : Own) : Prop := o.length ≤ 4 ∧ (∀ t ∈ o, okT n t = true) ∧ dsc o = o
def okB (n : Nat) (b : Beat) : Prop := b.length = n ∧ ∀ o ∈ b, okO n o
structure VR (n : Nat) (r : Row) : Prop where
  n1 : 1 ≤ n
  n6 : n ≤ 6
  l1 : 1 ≤ r.length
  l24 : r.length ≤ 24
  beats : ∀ b ∈ r, okB n b
theorem forL_same {α : Type} {g : CG} {body : CS} (e : α → D) (xs : List α) (I : Env → Prop) (S : Sto) (h : ∀ x ∈ xs, ∀ env, I env → ∃ env1 env2, g (e x) env S = .ok env1 S ∧ body env1 S = .nx env2 S ∧ I env2) : ∀ (env : Env), I env → ∃ env', forL g body (xs.map e) env S = .nx env' S ∧ I env' := by
  induction xs with
  | nil => exact fun env hI => ⟨env, rfl, hI⟩
  | cons x xs ih =>
    intro env hI
    obtain ⟨env1, env2, e1, e2, h2⟩ := h x (by simp) env hI
    obtain ⟨env', e3, h3⟩ := ih (fun y hy => h y (by simp [hy])) env2 h2
    refine ⟨env', ?_, h3⟩
    rw [List.map_cons]
    unfold forL
    rw [e1, RS.ofG_ok, e2]
    simpa using e3
theorem forL_elim {α : Type} {g : CG} {body : CS} {env : Env} (P : RS → Prop) (e : α → D) (xs : List α) (I : Env → Prop) (S : Sto) (h0 : I env)
    (h : ∀ x ∈ xs, ∀ env, I env → ∃ env1 env2, g (e x) env S = .ok env1 S ∧ body env1 S = .nx env2 S ∧ I env2) (hP : ∀ env', I env' → P (.nx env' S)) : P (forL g body (xs.map e) env S) := by
  obtain ⟨env', e3, z⟩ := forL_same e xs I S h env h0
  rw [e3]
  exact hP env' z
theorem is_beat_ok {n : Nat} {b : Beat} (h : okB n b) (S : Sto) : G_is_beat [eB b, .int n] S = .ok (.bl true) S := by
  rw [G_is_beat_eq, F_is_beat]
  obtain ⟨hl, ho⟩ := h
  have e1 : (eB b) = .tup (b.map eO) := rfl
  simp [e1, hl]
  rw [sFor_fix (ds := b.map eO) (S1 := S) (by simp)]
  refine forL_elim (fun r => gc S (fnR (RS.next r _)) = _) eO b (fun env => ∃ o2 o3, env = [some (.tup (b.map eO)), some (.int n), o2, o3]) S ⟨_, _, rfl⟩ ?_ ?_
  · rintro o hob env ⟨o2, o3, rfl⟩
    obtain ⟨h4, hT, hd⟩ := ho o hob
    refine ⟨[some (.tup (b.map eO)), some (.int n), some (eO o), o3], [some (.tup (b.map eO)), some (.int n), some (eO o), o3], by simp, ?_, _, _, rfl⟩
    have e2 : eO o = .tup (o.map eT) := rfl
    have c := comp_map (fi := iSeq (eVar 2)) (g := gName 3) (elt := eCall (fnG 2 G_is_throw) (aCons (eVar 3) (aCons (eVar 1) aNil))) (vs := [3]) (env := [some (.tup (b.map eO)), some (.int n), some (.tup (o.map eT)), o3]) (S := S) (S1 := S) eT (fun t => .bl (okT n t)) o (by simp) (by rw [sLim_eq]; omega)
      fun t ht => ⟨[some (.tup (b.map eO)), some (.int n), some (.tup (o.map eT)), some (eT t)], by simp [wipeE], by simp [is_throw_eT]⟩
    have ha : (o.all fun t => okT n t) = true := by simpa using hT
    have h4' : ¬ (4 : Int) < o.length := by omega
    have hs := gSorted_eO o S
    rw [e2] at hs
    have hr : (srt o).reverse = o := hd
    simp only [aComp_d] at c
    simp [e2, c, ha, h4', hs]
    rw [← List.map_reverse, hr, gNe_self S (pl_new (by intro x hx; obtain ⟨t, _, rfl⟩ := List.mem_map.mp hx; simp)) (Nat.le_trans (dep_new (k := 1) (by intro x hx; obtain ⟨t, _, rfl⟩ := List.mem_map.mp hx; exact dep_eT _)) (by omega))]
    simp
  · rintro env ⟨o2, o3, rfl⟩
    simp

theorem VR.ne {n : Nat} {r : Row} (h : VR n r) : ∃ b r', r = b :: r' ∧ b.length = n := by
  cases r with
  | nil => have := h.l1; simp at this
  | cons b r' => exact ⟨b, r', rfl, (h.beats b (by simp)).1⟩
end J

namespace J
open PySem PySem.Spec PyProof.Rows L2
/-! ## loops that carry a state -/
def Nx (J : Env → Sto → Prop) (r : RS) : Prop := ∃ env S, (r = .nx env S ∨ r = .ct env S) ∧ J env S
theorem Nx.mk {J : Env → Sto → Prop} {env : Env} {S : Sto} (h : J env S) : Nx J (.nx env S) := ⟨env, S, .inl rfl, h⟩
theorem Nx.ct {J : Env → Sto → Prop} {env : Env} {S : Sto} (h : J env S) : Nx J (.ct env S) := ⟨env, S, .inr rfl, h⟩
theorem enumD_map {α : Type} (e : α → D) (xs : List α) : enumD (xs.map e) = xs.zipIdx.map fun p => .tup [.int p.2, e p.1] := by
  unfold enumD
  rw [List.mapIdx_eq_zipIdx_map]
  rw [List.zipIdx_map, List.map_map]
  rfl
/-! ## new lists in the store, made by a comprehension -/
theorem cL_alloc {α : Type} {g : CG} {a : CA} {env : Env} (e : α → D) (f : α → List D) : ∀ (xs : List α) (acc : List D) (S : Sto), acc.length + xs.length ≤ sLim →
    (∀ x ∈ xs, ∀ S, ∃ env1, g (e x) env S = .ok env1 S ∧ a env1 S = .ok (f x) S) →
    cL g tYesD (cElt (eAlloc a)) env (xs.map e) acc S = .ok (acc ++ (List.range xs.length).map fun i => .ref (S.length + i)) (S ++ xs.map fun x => .lst (f x))
  | [], acc, S, _, _ => by simp [cL]
  | x :: xs, acc, S, hl, h => by
    simp only [List.length_cons] at hl
    obtain ⟨env1, h1, h2⟩ := h x (by simp) S
    rw [List.map_cons]
    unfold cL
    rw [cTurn_elt (y := .ref S.length) (S3 := S ++ [.lst (f x)]) h1 rfl (by simp [h2]) (by omega), R.bind_ok,
      cL_alloc e f xs _ _ (by simp only [List.length_append, List.length_singleton]; omega) fun y hy => h y (by simp [hy])]
    simp only [List.append_assoc, List.singleton_append, List.length_append, List.length_singleton, List.map_cons, List.range_succ_eq_map, List.length_cons, List.map_map]
    congr 2
    congr 1
    congr 1
    funext i
    simp
    omega
/-! ## a grid of numbers in the store -/
abbrev Grid := List (List Int)
def stG (g : Grid) : Sto := g.map fun r => .lst (r.map .int)
def bump (g : Grid) (i j : Nat) : Grid := g.modify i fun r => r.modify j (· + 1)
def Dim (l n : Nat) (g : Grid) : Prop := g.length = l ∧ ∀ r ∈ g, r.length = n
theorem Dim.bump {l n : Nat} {g : Grid} (h : Dim l n g) (i j : Nat) : Dim l n (bump g i j) := by
  refine ⟨by simp [J.bump, h.1], fun r hr => ?_⟩
  obtain ⟨k, hk, rfl⟩ := List.getElem_of_mem hr
  simp [J.bump, List.getElem_modify]
  simp [J.bump] at hk
  split <;> simp [h.2 _ (List.getElem_mem hk)]
theorem stG_at {S : Sto} {g : Grid} {k : Nat} (h : k < g.length) : (S ++ stG g)[S.length + k]? = some (.lst (g[k].map .int)) := by
  rw [List.getElem?_append_right (by omega)]
  simp [stG, h]
theorem stG_set {S : Sto} {g : Grid} {k : Nat} {r : List Int} : (S ++ stG g).set (S.length + k) (.lst (r.map .int)) = S ++ stG (g.set k r) := by
  rw [List.set_append_right _ _ (by omega)]
  simp [stG, List.map_set]
theorem set_modify {α : Type} (xs : List α) (k : Nat) (f : α → α) (h : k < xs.length) : xs.set k (f xs[k]) = xs.modify k f := by
  apply List.ext_getElem
  · simp
  · intro i h1 h2
    simp [List.getElem_set, List.getElem_modify]
    split
    · subst_vars; rfl
    · rfl
theorem ld_grid {S : Sto} {g : Grid} {l n k j : Nat} (hd : Dim l n g) (hk : k < l) (hj : j < n) : ∃ (h : k < g.length) (h2 : j < g[k].length), ldItem (.ref (S.length + k)) (.int (j : Int)) (S ++ stG g) = .ok (.int g[k][j]) (S ++ stG g) ∧
    ∀ v : Int, stItem (.ref (S.length + k)) (.int (j : Int)) (.int v) (S ++ stG g) = .ok .non (S ++ stG (g.set k (g[k].set j v))) := by
  have h : k < g.length := by rw [hd.1]; exact hk
  have h2 : j < g[k].length := by rw [hd.2 _ (List.getElem_mem h)]; exact hj
  refine ⟨h, h2, ?_, fun v => ?_⟩
  · unfold ldItem ldItemL
    simp only
    rw [onRef_ref (stG_at h), atI_nat _ j (x := .int g[k][j]) (by simp [h2])]
  · unfold stItem stItemL
    simp only
    rw [onRef_ref (stG_at h)]
    have : ixN (g[k].map D.int).length (j : Int) = some j := by
      unfold ixN
      simp [h2]
    rw [this]
    simp only
    rw [← List.map_set, stG_set]
theorem bump_eq {g : Grid} {k j : Nat} (h : k < g.length) (h2 : j < g[k].length) : g.set k (g[k].set j (g[k][j] + 1)) = bump g k j := by
  unfold bump
  rw [← set_modify g k _ h, ← set_modify g[k] j _ h2]
/-! ## landings -/
/-- where a throw lands -/
def goal (L : Nat) (p : Nat × Thr) : Nat × Nat := (((p.1 + p.2.1) % L).toNat, p.2.2.toNat)
def thrB (t : Nat) (b : Beat) : List (Nat × Thr) := b.flatMap fun o => o.map fun x => (t, x)
/-- all throws, with their beats -/
def thr (r : Row) : List (Nat × Thr) := r.zipIdx.flatMap fun p => thrB p.2 p.1
def bumpT (L : Nat) (g : Grid) (p : Nat × Thr) : Grid := bump g (goal L p).1 (goal L p).2
def landG (n : Nat) (r : Row) : Grid := (thr r).foldl (bumpT r.length) (List.replicate r.length (List.replicate n 0))
def eG (g : Grid) : D := .new (g.map fun c => .tup (c.map .int))
/-- throws go to lines that are there -/
def LinesOk (n : Nat) (r : Row) : Prop := ∀ b ∈ r, ∀ o ∈ b, ∀ x ∈ o, 0 ≤ x.2 ∧ x.2 < n
theorem VR.lines {n : Nat} {r : Row} (h : VR n r) : LinesOk n r := fun b hb o ho x hx => by
  have := ((h.beats b hb).2 o ho).2.1 x hx
  simp [okT] at this
  omega
theorem Dim.zero (l n : Nat) : Dim l n (List.replicate l (List.replicate n 0)) := ⟨by simp, fun r hr => by rw [(List.mem_replicate.mp hr).2]; simp⟩
@[simp] theorem pl_eG (g : Grid) : (eG g).pl = true := pl_new (by intro x hx; obtain ⟨c, _, rfl⟩ := List.mem_map.mp hx; exact pl_tup (by intro y hy; obtain ⟨i, _, rfl⟩ := List.mem_map.mp hy; simp))
@[simp] theorem und_eG (m : Nat) (g : Grid) : (eG g).und m = true := und_new (by intro x hx; obtain ⟨c, _, rfl⟩ := List.mem_map.mp hx; exact und_tup (by intro y hy; obtain ⟨i, _, rfl⟩ := List.mem_map.mp hy; simp))

end J

namespace J
open PySem PySem.Spec PyProof.Rows L2
open PySem PySem.Spec PyProof.Rows L2
end J

namespace J
open PySem PySem.Spec PyProof.Rows L2
/-! ## loops that give back at the first find -/
def Fd {β : Type} (I : Env → Prop) (S : Sto) (ret : β → D) (o : Option β) (r : RS) : Prop := match o with
  | none => ∃ env, (r = .nx env S ∨ r = .ct env S) ∧ I env
  | some y => r = .rt (ret y) S
theorem forL_find {α β : Type} {g : CG} {body : CS} (P : RS → Prop) (e : α → D) (find : α → Option β) (ret : β → D) (I : Env → Prop) (S : Sto) : ∀ (xs : List α) (env : Env), I env →
    (∀ x ∈ xs, ∀ env, I env → ∃ env1, g (e x) env S = .ok env1 S ∧ Fd I S ret (find x) (body env1 S)) →
    (∀ r, (match xs.findSome? find with | none => ∃ env, r = .nx env S ∧ I env | some y => r = .rt (ret y) S) → P r) → P (forL g body (xs.map e) env S)
  | [], env, h, _, hP => hP _ ⟨env, rfl, h⟩
  | x :: xs, env, h, st, hP => by
    obtain ⟨env1, e1, f⟩ := st x (by simp) env h
    rw [List.map_cons]
    unfold forL
    rw [e1, RS.ofG_ok]
    rw [List.findSome?_cons] at hP
    cases q : find x with
    | none =>
      rw [q] at f hP
      obtain ⟨env2, e2, h2⟩ := f
      have := forL_find P e find ret I S xs env2 h2 (fun y hy => st y (by simp [hy])) hP
      rcases e2 with e2 | e2 <;> rw [e2] <;> simpa using this
    | some y =>
      rw [q] at f hP
      have f : body env1 S = .rt (ret y) S := f
      rw [f]
      exact hP _ rfl
theorem Fd.of {β : Type} {I : Env → Prop} {S : Sto} {ret : β → D} {o : Option β} {r : RS} (h : match o with | none => ∃ env, r = .nx env S ∧ I env | some y => r = .rt (ret y) S) : Fd I S ret o r := by
  cases o with
  | none => obtain ⟨env, h1, h2⟩ := h; exact ⟨env, .inl h1, h2⟩
  | some y => exact h
theorem zipIdx_range {α : Type} (d : α) (xs : List α) : xs.zipIdx = (List.range xs.length).map fun i => (xs[i]?.getD d, i) := by
  apply List.ext_getElem
  · simp
  · intro i h1 h2
    simp at h1
    simp [h1]
/-! ## the first clash -/
def cellN (g : Grid) (t a : Nat) : Int := ((g[t]?.getD [])[a]?).getD 0
def lenAt (r : Row) (t a : Nat) : Nat := (((r[t]?.getD [])[a]?).getD []).length
def clashAt (r : Row) (g : Grid) (t a : Nat) : Option (Nat × Nat) := if (lenAt r t a : Int) = cellN g t a then none else some (t, a)
def clashOf (n : Nat) (r : Row) : Option (Nat × Nat) := (List.range r.length).findSome? fun t => (List.range n).findSome? fun a => clashAt r (landG n r) t a
end J

namespace J
open PySem PySem.Spec PyProof.Rows L2
/-! ## heights -/
theorem cTurn_in {g g' : CG} {ts' : CT} {fi : CI} {vs : List Nat} {inner : CC} {env env1 : Env} {d : D} {ds acc : List D} {S : Sto} (h1 : g d env S = .ok env1 S) (h2 : fi env1 S = .ok (.fix ds) S) :
    cTurn g tYesD (cForI fi g' ts' vs inner) env d acc S = cL g' ts' inner (wipeE env1 vs) ds acc S := by
  unfold cTurn
  simp [h1, cForI_fix h2]
def hts (r : Row) : List Int := r.flatMap fun b => b.flatMap fun o => o.map fun t => t.1
theorem VR.blen {n : Nat} {r : Row} (h : VR n r) : ∀ b ∈ r, b.length = n := fun b hb => (h.beats b hb).1
/-! ## room, the highest -/
def lens (r : Row) : List Int := r.flatMap fun b => b.map fun o => (o.length : Int)
/-! ## fits, balls -/
end J

namespace J
open PySem PySem.Spec PyProof.Rows L2
/-! ## the town: the script's numbers, and how many draws there were -/
structure Tw where
  ns : List Int
  i : Int
  ne : ns ≠ []
def TS (w : Tw) (rest : Sto) : Sto := .lst (w.ns.map .int) :: .lst [.ref 0, .int w.i] :: rest
@[simp] theorem TS_len (w : Tw) (rest : Sto) : (TS w rest).length = rest.length + 2 := by simp [TS]
theorem gc_town {w w' : Tw} {rest G : Sto} {d d' : D} (h : Frz (TS w' rest ++ G) (TS w rest).length d d') : gc (TS w rest) (.ok d (TS w' rest ++ G)) = .ok d' (TS w' rest) := by
  refine gc_ok (by simp) h fun i o e => ?_
  match i, e with
  | 0, e =>
    simp [TS] at e
    subst e
    right
    exact unds_of (by intro x hx; obtain ⟨k, _, rfl⟩ := List.mem_map.mp hx; simp)
  | 1, e =>
    simp [TS] at e
    subst e
    right
    simp [O.und, D.unds, D.und]
  | i + 2, e =>
    simp [TS] at e
    left
    simpa [TS] using e
theorem gc_town0 {w w' : Tw} {rest : Sto} {d : D} (h : d.und (TS w rest).length = true) : gc (TS w rest) (.ok d (TS w' rest)) = .ok d (TS w' rest) := by
  have := gc_town (w := w) (w' := w') (rest := rest) (G := []) (d := d) (d' := d) (by rw [List.append_nil]; exact Frz.of_below h)
  rwa [List.append_nil] at this
theorem gc_townI {w w' : Tw} {rest : Sto} {v : Int} : gc (TS w rest) (.ok (.int v) (TS w' rest)) = .ok (.int v) (TS w' rest) := gc_town0 (by simp)
theorem draw_ok (w : Tw) (rest : Sto) (c : Int) (h0 : 0 < c) (h1 : c < 1073741824) : ∃ (v : Int) (w' : Tw), 0 ≤ v ∧ v < c ∧ G_law_draw [.ref 1, .int c] (TS w rest) = .ok (.int v) (TS w' rest) := by
  have hl : 0 < w.ns.length := List.length_pos_iff.mpr w.ne
  obtain ⟨k, hk, ek⟩ : ∃ k : Nat, k < w.ns.length ∧ ((w.i + 1) % w.ns.length) = (k : Int) := by
    refine ⟨((w.i + 1) % w.ns.length).toNat, ?_, ?_⟩
    · have := Int.emod_nonneg (w.i + 1) (b := w.ns.length) (by omega)
      have := Int.emod_lt_of_pos (w.i + 1) (b := w.ns.length) (by omega)
      omega
    · exact (Int.toNat_of_nonneg (Int.emod_nonneg _ (by omega))).symm
  have i0 : ∀ i : Int, gIx (.ref 1) (.int 0) (.lst (w.ns.map .int) :: .lst [.ref 0, .int i] :: rest) = .ok (.ref 0) (.lst (w.ns.map .int) :: .lst [.ref 0, .int i] :: rest) := fun i => gIx_r rfl (by simp)
  have i1 : ∀ i : Int, gIx (.ref 1) (.int 1) (.lst (w.ns.map .int) :: .lst [.ref 0, .int i] :: rest) = .ok (.int i) (.lst (w.ns.map .int) :: .lst [.ref 0, .int i] :: rest) := fun i => gIx_r rfl (by simp)
  have s1 : ∀ i j : Int, stItem (.ref 1) (.int 1) (.int j) (.lst (w.ns.map .int) :: .lst [.ref 0, .int i] :: rest) = .ok .non (.lst (w.ns.map .int) :: .lst [.ref 0, .int j] :: rest) := fun i j => by
    unfold stItem stItemL
    simp [onRef, ixN]
  have l0 : ∀ i : Int, gLen [.ref 0] (.lst (w.ns.map .int) :: .lst [.ref 0, .int i] :: rest) = .ok (.int w.ns.length) (.lst (w.ns.map .int) :: .lst [.ref 0, .int i] :: rest) := fun i => by
    rw [gLen_r (xs := w.ns.map .int) rfl]; simp
  have ik : ∀ i : Int, gIx (.ref 0) (.int k) (.lst (w.ns.map .int) :: .lst [.ref 0, .int i] :: rest) = .ok (.int w.ns[k]) (.lst (w.ns.map .int) :: .lst [.ref 0, .int i] :: rest) := fun i => gIx_r rfl (atI_nat _ k (by simp [hk]))
  have sk : ∀ i j : Int, stItem (.ref 0) (.int k) (.int j) (.lst (w.ns.map .int) :: .lst [.ref 0, .int i] :: rest) = .ok .non (.lst ((w.ns.set k j).map .int) :: .lst [.ref 0, .int i] :: rest) := fun i j => by
    unfold stItem stItemL
    simp [onRef, ixN, hk, List.map_set]
  rw [G_law_draw_eq, F_law_draw]
  simp only [TS]
  by_cases hc : 1000000000000000000 ≤ w.ns[k]
  · refine ⟨w.ns[k] % c, ⟨w.ns.set k (w.ns[k] / c), w.i + 1, by simpa using w.ne⟩, Int.emod_nonneg _ (by omega), Int.emod_lt_of_pos _ h0, ?_⟩
    simp [i0, i1, s1, l0, hl, ek, ik, hc, sk, h0, h1]
    rw [← List.map_set]
    exact gc_townI (w := w) (w' := ⟨w.ns.set k (w.ns[k] / c), w.i + 1, by simpa using w.ne⟩)
  · have m1 : ∀ a : Int, 0 ≤ a % 4294967291 ∧ a % 4294967291 < 18446744073709551616 := fun a => ⟨Int.emod_nonneg _ (by omega), by have := Int.emod_lt_of_pos a (b := 4294967291) (by omega); omega⟩
    generalize hm : (w.ns[k] + 104729 * (w.i + 1)) % 4294967291 = m
    have hm1 := m1 (w.ns[k] + 104729 * (w.i + 1))
    rw [hm] at hm1
    refine ⟨(m ^ 5 % 4294967279 / 64 * 69621 + m ^ 5 % 4294967279) % 4294967231 / 8 % c, ⟨w.ns, w.i + 1, w.ne⟩, Int.emod_nonneg _ (by omega), Int.emod_lt_of_pos _ h0, ?_⟩
    have pw := gPow_c m 5 (.lst (w.ns.map .int) :: .lst [.ref 0, .int (w.i + 1)] :: rest) (by omega) hm1
    have e5 : ((5 : Nat) : Int) = 5 := rfl
    rw [e5] at pw
    simp [i0, i1, s1, l0, hl, ek, ik, hc, h0, h1, gMul_l 104729 _ _ (by omega), hm, pw, gMul_r _ 69621 _ (by omega)]
    exact gc_townI (w := w) (w' := ⟨w.ns, w.i + 1, w.ne⟩)
theorem pick_ok {α : Type} (w : Tw) (rest : Sto) (e : α → D) (he : ∀ x m, (e x).und m = true) (xs : List α) (h0 : xs ≠ []) (h1 : xs.length < 1000) : ∃ (x : α) (w' : Tw), x ∈ xs ∧ G_law_pick [.ref 1, .new (xs.map e)] (TS w rest) = .ok (e x) (TS w' rest) := by
  have hl : 0 < xs.length := List.length_pos_iff.mpr h0
  obtain ⟨v, w', v0, v1, hd⟩ := draw_ok w rest xs.length (by omega) (by omega)
  obtain ⟨k, rfl⟩ := Int.eq_ofNat_of_zero_le v0
  have hk : k < xs.length := by omega
  refine ⟨xs[k], w', List.getElem_mem hk, ?_⟩
  rw [G_law_pick_eq, F_law_pick]
  have : gIx (.new (xs.map e)) (.int (k : Nat)) (TS w' rest) = .ok (e xs[k]) (TS w' rest) := gIx_n (atI_nat _ k (by simp [hk]))
  simp [hd, this]
  exact gc_town0 (he _ _)
theorem town_ok (ns : List Int) : ∃ w : Tw, G_law_town [.scr (ns.map .int)] [] = .ok (.ref 1) (TS w []) := by
  rw [G_law_town_eq, F_law_town]
  have hd : ∀ (k : List Int) S, gNe (.scr (k.map .int)) (.new []) S = .ok (.bl (!k.isEmpty)) S := fun k S => by
    unfold gNe
    have d1 : (derf S (.scr (k.map .int))).dep ≤ 64 := by
      have : (D.scr (k.map .int)).dep ≤ 1 := by
        have := deps_le (xs := k.map D.int) (k := 0) (by intro x hx; obtain ⟨i, _, rfl⟩ := List.mem_map.mp hx; simp)
        simp [D.dep]; omega
      exact Nat.le_trans this (by omega)
    rw [if_pos ⟨d1, by show (D.new []).dep ≤ 64; simp [D.dep, D.deps]⟩]
    show R.ok (D.bl !(D.eqv (.scr (k.map .int)) (.new []))) S = _
    cases k <;> simp [D.eqv, D.eqvs]
  by_cases h : ns = []
  · subst h
    refine ⟨⟨[0], 0, by simp⟩, ?_⟩
    have := hd [] []
    simp at this
    simp [sLim_eq, this, TS]
  · refine ⟨⟨ns, 0, h⟩, ?_⟩
    have := hd ns []
    have e : ns.isEmpty = false := by cases ns <;> simp_all
    simp [e] at this
    simp [sLim_eq, this, TS]
end J

namespace J
open PySem PySem.Spec PyProof.Rows L2
/-! ## lists of throws in the store, cell by cell -/
theorem gAppend_r {n : Nat} {S : Sto} {xs : List D} {y : D} (h : S[n]? = some (.lst xs)) (hl : xs.length < 1000000) : gAppend (.ref n) [y] S = .ok .non (S.set n (.lst (xs ++ [y]))) := by
  have : xs.length < sLim := by rw [sLim_eq]; omega
  simp [gAppend, onRef_ref h, this]
abbrev Cells := List Own
def cAt (cs : Cells) (k : Nat) : Own := cs[k]?.getD []
def CellsAt (S : Sto) (m N : Nat) (cs : Cells) : Prop := ∀ k, k < N → S[m + k]? = some (.lst ((cAt cs k).map eT))
def rowOf (L w : Nat) (cs : Cells) : Row := (List.range L).map fun t => (List.range w).map fun a => dsc (cAt cs (t * w + a))
theorem cell_lt {L w t a : Nat} (ht : t < L) (ha : a < w) : t * w + a < L * w := by
  have : (t + 1) * w ≤ L * w := Nat.mul_le_mul_right w ht
  rw [Nat.add_mul] at this
  omega
theorem forL_pre {α : Type} {g : CG} {body : CS} (e : α → D) (I : List α → Env → Sto → Prop) : ∀ (xs pre : List α) (env : Env) (S : Sto),
    (∀ a x b env S, pre ++ xs = a ++ x :: b → I a env S → ∃ env1 S1, g (e x) env S = .ok env1 S1 ∧ Nx (I (a ++ [x])) (body env1 S1)) → I pre env S →
    ∃ env' S', forL g body (xs.map e) env S = .nx env' S' ∧ I (pre ++ xs) env' S'
  | [], pre, env, S, _, h => ⟨env, S, rfl, by simpa using h⟩
  | x :: xs, pre, env, S, st, h => by
    obtain ⟨env1, S1, e1, env2, S2, e2, h2⟩ := st pre x xs env S rfl h
    obtain ⟨env', S', e3, h3⟩ := forL_pre e I xs (pre ++ [x]) env2 S2 (fun a y b env S e => st a y b env S (by simpa using e)) h2
    refine ⟨env', S', ?_, by simpa using h3⟩
    rw [List.map_cons]
    unfold forL
    rw [e1, RS.ofG_ok]
    rcases e2 with e2 | e2 <;> rw [e2] <;> simpa using e3
/-- a loop: what holds of the items so far -/
theorem forL_preE {α : Type} {g : CG} {body : CS} {env : Env} {S : Sto} (P : RS → Prop) (e : α → D) (I : List α → Env → Sto → Prop) (xs : List α) (h0 : I [] env S)
    (st : ∀ a x b env S, xs = a ++ x :: b → I a env S → ∃ env1 S1, g (e x) env S = .ok env1 S1 ∧ Nx (I (a ++ [x])) (body env1 S1))
    (hP : ∀ env' S', I xs env' S' → P (.nx env' S')) : P (forL g body (xs.map e) env S) := by
  obtain ⟨env', S', e3, h3⟩ := forL_pre e I xs [] env S (fun a x b env S e => st a x b env S (by simpa using e)) h0
  rw [e3]
  exact hP env' S' (by simpa using h3)
theorem forL_preN {α : Type} {g : CG} {body : CS} {env : Env} {S : Sto} {K : Env → Sto → RS} (Q : RS → Prop) (e : α → D) (I : List α → Env → Sto → Prop) (xs : List α) (h0 : I [] env S)
    (st : ∀ a x b env S, xs = a ++ x :: b → I a env S → ∃ env1 S1, g (e x) env S = .ok env1 S1 ∧ Nx (I (a ++ [x])) (body env1 S1))
    (hP : ∀ env' S', I xs env' S' → Q (K env' S')) : Q ((forL g body (xs.map e) env S).next K) :=
  forL_preE (fun z => Q (RS.next z K)) e I xs h0 st fun env' S' h => by rw [RS.next_nx]; exact hP env' S' h
theorem CellsAt.app {S G : Sto} {m N : Nat} {cs : Cells} (h : CellsAt S m N cs) : CellsAt (S ++ G) m N cs := fun k hk => by
  have := h k hk
  rw [List.getElem?_append_left (List.getElem?_eq_some_iff.mp this).1]
  exact this
def beatOf (w : Nat) (cs : Cells) (t : Nat) : Beat := (List.range w).map fun a => dsc (cAt cs (t * w + a))
theorem rowOf_eq (L w : Nat) (cs : Cells) : rowOf L w cs = (List.range L).map (beatOf w cs) := rfl
end J

namespace J
open PySem PySem.Spec PyProof.Rows L2
/-! ## counting what lands -/
theorem cellN_bump {l n : Nat} {g : Grid} (hd : Dim l n g) (i' j' : Nat) {i j : Nat} (hi : i < l) (hj : j < n) : cellN (bump g i' j') i j = cellN g i j + if (i', j') = (i, j) then 1 else 0 := by
  have h1 : i < g.length := by rw [hd.1]; exact hi
  have h2 : j < g[i].length := by rw [hd.2 _ (List.getElem_mem h1)]; exact hj
  unfold cellN bump
  simp only [List.getElem?_modify, List.getElem?_eq_getElem h1, Option.map_some, Option.getD_some, Prod.mk.injEq]
  by_cases q1 : i' = i
  · subst q1
    simp only [if_true, id, List.getElem?_modify, List.getElem?_eq_getElem h2, Option.map_some, Option.getD_some, true_and]
    by_cases q2 : j' = j
    · subst q2; simp [h2]
    · simp [q2, h2]
  · simp [q1]
theorem cellN_fold {l n L : Nat} {i j : Nat} (hi : i < l) (hj : j < n) : ∀ (ps : List (Nat × Thr)) (g : Grid), Dim l n g → cellN (ps.foldl (bumpT L) g) i j = cellN g i j + (ps.countP fun p => decide (goal L p = (i, j)) : Nat)
  | [], g, _ => by simp
  | p :: ps, g, hd => by
    have ih := cellN_fold (L := L) hi hj ps (bumpT L g p) (hd.bump _ _)
    rw [List.foldl_cons, ih]
    unfold bumpT
    rw [cellN_bump hd _ _ hi hj, List.countP_cons]
    by_cases q : goal L p = (i, j)
    · simp [q]
      omega
    · simp [q]
theorem cellN_zero (l n i j : Nat) : cellN (List.replicate l (List.replicate n 0)) i j = 0 := by
  unfold cellN
  by_cases h : i < l
  · by_cases h2 : j < n <;> simp [h, h2]
  · simp [h]
theorem cellN_land {n : Nat} {r : Row} {i j : Nat} (hi : i < r.length) (hj : j < n) : cellN (landG n r) i j = ((thr r).countP fun p => decide (goal r.length p = (i, j)) : Nat) := by
  unfold landG
  rw [cellN_fold hi hj _ _ (Dim.zero _ _), cellN_zero]
  omega
theorem clash_none {n : Nat} {r : Row} : clashOf n r = none ↔ ∀ t, t < r.length → ∀ a, a < n → (lenAt r t a : Int) = cellN (landG n r) t a := by
  unfold clashOf clashAt
  simp only [List.findSome?_eq_none_iff, List.mem_range]
  constructor
  · intro h t ht a ha
    have := h t ht a ha
    by_cases q : (lenAt r t a : Int) = cellN (landG n r) t a
    · exact q
    · simp [q] at this
  · intro h t ht a ha
    simp [h t ht a ha]
/-! ## rows out of cells -/
def thrC (L w : Nat) (cs : Cells) : List (Nat × Thr) := (List.range L).flatMap fun t => (List.range w).flatMap fun a => (cAt cs (t * w + a)).map fun x => (t, x)
theorem thr_rowOf (L w : Nat) (cs : Cells) : thr (rowOf L w cs) = (List.range L).flatMap fun t => thrB t (beatOf w cs t) := by
  unfold thr
  rw [zipIdx_range [] (rowOf L w cs), List.flatMap_map]
  have : (rowOf L w cs).length = L := by simp [rowOf]
  rw [this]
  have : ∀ t ∈ List.range L, thrB t ((rowOf L w cs)[t]?.getD []) = thrB t (beatOf w cs t) := by
    intro t ht
    have : t < L := by simpa using ht
    simp [rowOf_eq, this]
  rw [List.flatMap_def, List.flatMap_def]
  congr 1
  exact List.map_congr_left this
theorem flatMap_perm {α β : Type} {f g : α → List β} : ∀ {xs : List α}, (∀ x ∈ xs, (f x).Perm (g x)) → (xs.flatMap f).Perm (xs.flatMap g)
  | [], _ => by simp
  | x :: xs, h => by
    simp only [List.flatMap_cons]
    exact (h x (by simp)).append (flatMap_perm fun y hy => h y (by simp [hy]))
theorem thr_perm (L w : Nat) (cs : Cells) : (thr (rowOf L w cs)).Perm (thrC L w cs) := by
  rw [thr_rowOf]
  unfold thrC thrB beatOf
  refine flatMap_perm fun t _ => ?_
  rw [List.flatMap_map]
  exact flatMap_perm fun a _ => (dsc_perm _).map _
theorem sum_one {f g : Nat → Nat} {d t0 : Nat} : ∀ {L : Nat}, t0 < L → (∀ t, t ≠ t0 → f t = g t) → f t0 = g t0 + d → ((List.range L).map f).sum = ((List.range L).map g).sum + d
  | 0, h, _, _ => by omega
  | L + 1, h, h1, h2 => by
    simp only [List.range_succ, List.map_append, List.sum_append, List.map_cons, List.map_nil, List.sum_cons, List.sum_nil]
    by_cases q : t0 = L
    · subst q
      have e : (List.range t0).map f = (List.range t0).map g := List.map_congr_left fun t ht => h1 t (Nat.ne_of_lt (by simpa using ht))
      rw [e, h2]
      omega
    · rw [sum_one (by omega) h1 h2, h1 L (fun z => q z.symm)]
      omega
/-- a throw more at a cell -/
def putC (cs : Cells) (k : Nat) (x : Thr) : Cells := cs.modify k (· ++ [x])
theorem cAt_put {cs : Cells} {k : Nat} {x : Thr} (hk : k < cs.length) (k' : Nat) : cAt (putC cs k x) k' = if k' = k then cAt cs k ++ [x] else cAt cs k' := by
  unfold cAt putC
  rw [List.getElem?_modify]
  by_cases q : k = k'
  · subst q
    simp [hk]
  · have : ¬ k' = k := fun z => q z.symm
    simp [q, this]
theorem cell_inj {L w t a t' a' : Nat} (ha : a < w) (ha' : a' < w) (h : t * w + a = t' * w + a') : t = t' ∧ a = a' := by
  have e1 : (t * w + a) / w = t := by
    rw [Nat.mul_comm, Nat.mul_add_div (by omega), Nat.div_eq_of_lt ha]; omega
  have e2 : (t' * w + a') / w = t' := by
    rw [Nat.mul_comm, Nat.mul_add_div (by omega), Nat.div_eq_of_lt ha']; omega
  have : t = t' := by rw [← e1, ← e2, h]
  subst this
  exact ⟨rfl, by omega⟩
theorem count_put {L w : Nat} {cs : Cells} (hl : cs.length = L * w) {t a : Nat} (ht : t < L) (ha : a < w) (x : Thr) (q : Nat × Thr → Bool) : (thrC L w (putC cs (t * w + a) x)).countP q = (thrC L w cs).countP q + if q (t, x) = true then 1 else 0 := by
  have hk : t * w + a < cs.length := by rw [hl]; exact cell_lt ht ha
  unfold thrC
  rw [List.countP_flatMap, List.countP_flatMap]
  refine sum_one ht (fun t' ht' => ?_) ?_
  · simp only [Function.comp, List.countP_flatMap]
    congr 1
    refine List.map_congr_left fun a' ha' => ?_
    have ha' : a' < w := by simpa using ha'
    simp only [Function.comp]
    rw [cAt_put hk, if_neg fun z => ht' (cell_inj (L := L) ha' ha z).1]
  · simp only [Function.comp, List.countP_flatMap]
    have key : ∀ a', a' ∈ List.range w → (fun a' => List.countP q ((cAt (putC cs (t * w + a) x) (t * w + a')).map fun y => (t, y))) a' = (fun a' => List.countP q ((if a' = a then cAt cs (t * w + a) ++ [x] else cAt cs (t * w + a')).map fun y => (t, y))) a' := by
      intro a' ha'
      have ha' : a' < w := by simpa using ha'
      simp only
      rw [cAt_put hk]
      by_cases z : a' = a
      · subst z; simp
      · rw [if_neg (fun h => z (cell_inj (L := L) ha' ha h).2), if_neg z]
    have e := List.map_congr_left key
    simp only [Function.comp_def]
    rw [e]
    refine sum_one ha (fun a' h => by simp [h]) ?_
    simp only [if_true, List.map_append, List.countP_append, List.map_cons, List.map_nil]
    congr 1
    by_cases z : q (t, x) = true <;> simp [z]
end J

namespace J
open PySem PySem.Spec PyProof.Rows L2
theorem Nx.of {J : Env → Sto → Prop} {r : RS} {env : Env} {S : Sto} (h : r = .nx env S) (hj : J env S) : Nx J r := by rw [h]; exact Nx.mk hj
/-! ## the spots of a row -/
end J

namespace J
open PySem PySem.Spec PyProof.Rows L2
theorem perm_eraseIdx {α : Type} : ∀ (xs : List α) (k : Nat) (h : k < xs.length), (xs[k] :: xs.eraseIdx k).Perm xs
  | x :: xs, 0, _ => by simp
  | x :: xs, k + 1, h => by
    have h' : k < xs.length := by simpa using h
    simp only [List.getElem_cons_succ, List.eraseIdx_cons_succ]
    exact (List.Perm.swap x xs[k] _).trans ((perm_eraseIdx xs k h').cons x)
/-! ### the while loop -/
end J

namespace J
open PySem PySem.Spec PyProof.Rows L2
/-! ## _law_row -/
structure RowInv (L W : Nat) (sp pre gs pg : List (Nat × Nat)) (cs : Cells) : Prop where
  len : cs.length = L * W
  perm : (pg ++ gs).Perm sp
  lens : pre.length + gs.length = sp.length
  has : ∀ t, t < L → ∀ a, a < W → (cAt cs (t * W + a)).length = pre.count (t, a)
  lands : ∀ t, t < L → ∀ a, a < W → (thrC L W cs).countP (fun p => decide (goal L p = (t, a))) = pg.count (t, a)
  thr : ∀ k, ∀ x ∈ cAt cs k, 1 ≤ x.1 ∧ x.1 ≤ 15 ∧ 0 ≤ x.2 ∧ x.2 < W
theorem RowInv.put {L W : Nat} {sp pre gs pg : List (Nat × Nat)} {cs : Cells} (h : RowInv L W sp pre gs pg cs) {t a k : Nat} {x : Int} (ht : t < L) (ha : a < W) (hk : k < gs.length) (hg : gs[k].1 < L ∧ gs[k].2 < W) (hx : 1 ≤ x ∧ x ≤ 15) (hm : ((t : Int) + x) % L = gs[k].1) :
    RowInv L W sp (pre ++ [(t, a)]) (gs.eraseIdx k) (pg ++ [gs[k]]) (putC cs (t * W + a) (x, gs[k].2)) := by
  have hc : t * W + a < cs.length := by rw [h.len]; exact cell_lt ht ha
  refine ⟨by simp [putC, h.len], ?_, ?_, ?_, ?_, ?_⟩
  · have := (perm_eraseIdx gs k hk).append_left pg
    rw [List.append_assoc, List.singleton_append]
    exact this.trans h.perm
  · have := h.lens
    have e : (gs.eraseIdx k).length = gs.length - 1 := List.length_eraseIdx_of_lt hk
    simp [e]
    omega
  · intro t' ht' a' ha'
    rw [cAt_put hc, List.count_append]
    by_cases q : t' * W + a' = t * W + a
    · obtain ⟨rfl, rfl⟩ := cell_inj (L := L) ha' ha q
      simp [h.has _ ht _ ha]
    · rw [if_neg q, h.has _ ht' _ ha']
      have : ¬ (t, a) = (t', a') := by
        intro z
        simp at z
        exact q (by rw [z.1, z.2])
      simp [List.count_cons, this]
  · intro t' ht' a' ha'
    rw [count_put h.len ht ha, h.lands _ ht' _ ha', List.count_append]
    congr 1
    have : goal L (t, (x, (gs[k].2 : Int))) = gs[k] := by
      unfold goal
      simp only
      rw [hm]
      simp
    rw [this]
    by_cases q : gs[k] = (t', a')
    · simp [q]
    · simp [q, List.count_cons]
  · intro k' y hy
    rw [cAt_put hc] at hy
    split at hy
    · rcases List.mem_append.mp hy with z | z
      · exact h.thr _ y z
      · simp at z
        subst z
        exact ⟨hx.1, hx.2, by simp, by simpa using hg.2⟩
    · exact h.thr _ y hy
theorem RowInv.row {L W sn : Nat} {sp pg : List (Nat × Nat)} {cs : Cells} (h : RowInv L W sp sp [] pg cs) (hL : 1 ≤ L) (hL2 : L ≤ 24) (hW : 1 ≤ W) (hW2 : W ≤ 6) (hs : ∀ p, sp.count p ≤ sn) (hs4 : sn ≤ 4) : VR W (rowOf L W cs) ∧ (rowOf L W cs).length = L ∧ clashOf W (rowOf L W cs) = none ∧ ∀ b ∈ rowOf L W cs, ∀ o ∈ b, o.length ≤ sn := by
  have hrl : (rowOf L W cs).length = L := by simp [rowOf]
  have hdl : ∀ o : Own, (dsc o).length = o.length := fun o => (dsc_perm o).length_eq
  have hbs : ∀ b ∈ rowOf L W cs, ∀ o ∈ b, o.length ≤ sn := by
    intro b hb o ho
    rw [rowOf_eq] at hb
    obtain ⟨t, ht, rfl⟩ := List.mem_map.mp hb
    obtain ⟨a, ha, rfl⟩ := List.mem_map.mp ho
    rw [hdl, h.has t (by simpa using ht) a (by simpa using ha)]
    exact hs _
  refine ⟨⟨hW, hW2, by omega, by omega, ?_⟩, hrl, ?_, hbs⟩
  · intro b hb
    have hb' := hb
    rw [rowOf_eq] at hb
    obtain ⟨t, ht, rfl⟩ := List.mem_map.mp hb
    refine ⟨by simp [beatOf], fun o ho => ?_⟩
    have ho4 := hbs _ hb' o ho
    obtain ⟨a, ha, rfl⟩ := List.mem_map.mp ho
    refine ⟨by omega, fun x hx => ?_, dsc_dsc _⟩
    have := h.thr _ x ((dsc_perm _).mem_iff.mp hx)
    simp [okT]
    omega
  · rw [clash_none]
    intro t ht a ha
    rw [cellN_land ht ha]
    have ht' : t < L := by omega
    have e1 : lenAt (rowOf L W cs) t a = sp.count (t, a) := by
      rw [← h.has t ht' a ha]
      unfold lenAt
      simp [rowOf, ht', ha, hdl]
    rw [e1, hrl, (thr_perm L W cs).countP_eq, h.lands t ht' a ha]
    have := h.perm
    rw [List.append_nil] at this
    rw [this.count_eq]
end J

namespace J
open PySem PySem.Spec PyProof.Rows L2
/-! ## _law_turned_off -/
theorem VR.cells {n : Nat} {r : Row} (h : VR n r) (k : Nat) : (cAt r.flatten k).length ≤ 4 ∧ ∀ x ∈ cAt r.flatten k, okT n x = true := by
  unfold cAt
  by_cases hk : k < r.flatten.length
  · simp only [List.getElem?_eq_getElem hk, Option.getD_some]
    have hm := List.getElem_mem hk
    obtain ⟨b, hb, ho⟩ := List.mem_flatten.mp hm
    exact ⟨((h.beats b hb).2 _ ho).1, ((h.beats b hb).2 _ ho).2.1⟩
  · have : r.flatten[k]? = none := List.getElem?_eq_none_iff.mpr (by omega)
    simp [this]
theorem gPop_r {n : Nat} {S : Sto} {xs : List D} (h : S[n]? = some (.lst xs)) (hn : xs ≠ []) : ∃ d, gPop (.ref n) [] S = .ok d (S.set n (.lst xs.dropLast)) := by
  unfold gPop
  simp only
  rw [onRef_ref h]
  have : xs.length - 1 < xs.length := by have := List.length_pos_iff.mpr hn; omega
  exact ⟨xs[xs.length - 1], by simp [this]⟩
end J

namespace J
open PySem PySem.Spec PyProof.Rows L2
/-! ## a row that fits: all heights together are so many times its length -/
def ownAt (r : Row) (t a : Nat) : Own := ((r[t]?.getD [])[a]?).getD []
theorem flatMap_range {α β : Type} (d : α) (xs : List α) (f : α → List β) : xs.flatMap f = (List.range xs.length).flatMap fun i => f (xs[i]?.getD d) := by
  have e : xs = (List.range xs.length).map fun i => xs[i]?.getD d := by
    apply List.ext_getElem
    · simp
    · intro i h1 h2
      simp [h1]
  conv => lhs; rw [e]
  rw [List.flatMap_map]
theorem flatMap_congr' {α β : Type} {f g : α → List β} {xs : List α} (h : ∀ x ∈ xs, f x = g x) : xs.flatMap f = xs.flatMap g := by
  rw [List.flatMap_def, List.flatMap_def, List.map_congr_left h]
theorem thr_range {n : Nat} {r : Row} (hb : ∀ b ∈ r, b.length = n) : thr r = (List.range r.length).flatMap fun t => (List.range n).flatMap fun a => (ownAt r t a).map fun x => (t, x) := by
  unfold thr
  rw [zipIdx_range [] r, List.flatMap_map]
  refine flatMap_congr' fun t ht => ?_
  have ht : t < r.length := by simpa using ht
  have hbl : (r[t]?.getD []).length = n := by
    simp [ht]
    exact hb _ (List.getElem_mem ht)
  simp only
  unfold thrB
  rw [flatMap_range [] (r[t]?.getD []), hbl]
  rfl
theorem sum_zero {f : Nat → Nat} {L : Nat} (h : ∀ t, t < L → f t = 0) : ((List.range L).map f).sum = 0 := by
  have : (List.range L).map f = (List.range L).map fun _ => 0 := List.map_congr_left fun t ht => h t (by simpa using ht)
  rw [this]
  clear this h
  induction L with
  | zero => rfl
  | succ L ih => rw [List.range_succ, List.map_append, List.sum_append, ih]; rfl
/-! ## tests of the laws -/
@[simp] theorem isiB_nb : isiB "NoneType" "bool" = false := by decide
end J

namespace J
open PySem PySem.Spec PyProof.Rows L2
/-! ## sums over ranges -/
def sm (n : Nat) (f : Nat → Nat) : Nat := ((List.range n).map f).sum
@[simp] theorem sm_0 (f : Nat → Nat) : sm 0 f = 0 := rfl
theorem sm_succ (n : Nat) (f : Nat → Nat) : sm (n + 1) f = sm n f + f n := by simp [sm, List.range_succ]
theorem sm_congr {n : Nat} {f g : Nat → Nat} (h : ∀ i, i < n → f i = g i) : sm n f = sm n g := by
  unfold sm
  rw [List.map_congr_left fun i hi => h i (by simpa using hi)]
theorem sm_zero {n : Nat} {f : Nat → Nat} (h : ∀ i, i < n → f i = 0) : sm n f = 0 := sum_zero h
theorem sm_add (n : Nat) (f g : Nat → Nat) : sm n (fun i => f i + g i) = sm n f + sm n g := by
  induction n with
  | zero => rfl
  | succ n ih => rw [sm_succ, sm_succ, sm_succ, ih]; omega
theorem sm_swap (n m : Nat) (f : Nat → Nat → Nat) : sm n (fun i => sm m (f i)) = sm m fun j => sm n fun i => f i j := by
  induction n with
  | zero => exact (sm_zero (n := m) fun _ _ => rfl).symm
  | succ n ih =>
    rw [sm_succ, ih, ← sm_add]
    exact sm_congr fun j _ => (sm_succ n fun i => f i j).symm
theorem sm_ite {n k : Nat} (h : k < n) (f : Nat → Nat) : sm n (fun i => if i = k then f i else 0) = f k := by
  have := sum_one (L := n) (t0 := k) (d := f k) (f := fun i => if i = k then f i else 0) (g := fun _ => 0) h (fun t ht => by simp [ht]) (by simp)
  have z : ((List.range n).map fun _ => 0).sum = 0 := sum_zero fun _ _ => rfl
  rw [z] at this
  simpa [sm] using this
theorem countP_flatMap_sm {α : Type} (q : α → Bool) (n : Nat) (f : Nat → List α) : ((List.range n).flatMap f).countP q = sm n fun i => (f i).countP q := by
  rw [List.countP_flatMap]; rfl
/-! ## rows without ends -/
/-- what is thrown at any time -/
def ownZ (r : Row) (t : Int) (a : Nat) : Own := ownAt r (t % r.length).toNat a
def HtOk (r : Row) : Prop := ∀ b ∈ r, ∀ o ∈ b, ∀ x ∈ o, 1 ≤ x.1 ∧ x.1 ≤ 15
theorem VR.hts {n : Nat} {r : Row} (h : VR n r) : HtOk r := fun b hb o ho x hx => by
  have := ((h.beats b hb).2 o ho).2.1 x hx
  simp [okT] at this
  omega
theorem ownAt_mem {r : Row} {t a : Nat} {x : Thr} (h : x ∈ ownAt r t a) : ∃ b ∈ r, ∃ o ∈ b, x ∈ o := by
  unfold ownAt at h
  cases q : r[t]? with
  | none => rw [q] at h; simp at h
  | some b =>
    rw [q] at h
    simp only [Option.getD_some] at h
    cases q2 : b[a]? with
    | none => rw [q2] at h; simp at h
    | some o =>
      rw [q2] at h
      exact ⟨b, List.mem_of_getElem? q, o, List.mem_of_getElem? q2, h⟩
/-- how many land on line a at time T -/
def landZ (n : Nat) (r : Row) (T : Int) (a : Nat) : Nat := sm 15 fun h => sm n fun a' => (ownZ r (T - ((h : Int) + 1)) a').count ((h : Int) + 1, (a : Int))
theorem countP_heights {o : Own} (ho : ∀ x ∈ o, 1 ≤ x.1 ∧ x.1 ≤ 15) (hl : ∀ x ∈ o, 0 ≤ x.2) (q : Nat → Bool) (a : Nat) : o.countP (fun x => q (x.1.toNat - 1) && decide (x.2.toNat = a)) = sm 15 fun h => if q h = true then o.count ((h : Int) + 1, (a : Int)) else 0 := by
  induction o with
  | nil =>
    symm
    exact sm_zero fun i _ => by simp
  | cons x o ih =>
    rw [List.countP_cons, ih (fun y hy => ho y (by simp [hy])) fun y hy => hl y (by simp [hy])]
    have hx := ho x (by simp)
    have hx2 := hl x (by simp)
    have e : (fun h : Nat => if q h = true then (x :: o).count ((h : Int) + 1, (a : Int)) else 0) = fun h => (if q h = true then o.count ((h : Int) + 1, (a : Int)) else 0) + if h = x.1.toNat - 1 then (if q (x.1.toNat - 1) && decide (x.2.toNat = a) then 1 else 0) else 0 := by
      funext h
      rw [List.count_cons]
      have e2 : (x == ((h : Int) + 1, (a : Int))) = (decide (h = x.1.toNat - 1) && decide (x.2.toNat = a)) := by
        obtain ⟨x1, x2⟩ := x
        simp only at hx hx2 ⊢
        rw [Bool.eq_iff_iff]
        simp
        omega
      rw [e2]
      by_cases c1 : h = x.1.toNat - 1
      · subst c1
        by_cases c2 : q (x.1.toNat - 1) = true <;> by_cases c3 : x.2.toNat = a <;> simp [c2, c3]
      · simp [c1]
    rw [e, sm_add, sm_ite (k := x.1.toNat - 1) (by omega) (fun _ => if (q (x.1.toNat - 1) && decide (x.2.toNat = a)) = true then 1 else 0)]
theorem cellN_landZ {n : Nat} {r : Row} (hL : 1 ≤ r.length) (hb : ∀ b ∈ r, b.length = n) (hh : HtOk r) (ln : LinesOk n r) {t a : Nat} (ht : t < r.length) (ha : a < n) : cellN (landG n r) t a = landZ n r t a := by
  rw [cellN_land ht ha, thr_range hb, countP_flatMap_sm]
  congr 1
  have e1 : (sm r.length fun t' => ((List.range n).flatMap fun a' => (ownAt r t' a').map fun x => (t', x)).countP fun p => decide (goal r.length p = (t, a))) =
      sm r.length fun t' => sm n fun a' => sm 15 fun h => if decide ((t' + (h + 1)) % r.length = t) = true then (ownAt r t' a').count ((h : Int) + 1, (a : Int)) else 0 := by
    refine sm_congr fun t' ht' => ?_
    rw [countP_flatMap_sm]
    refine sm_congr fun a' ha' => ?_
    have hx1 : ∀ x ∈ ownAt r t' a', 1 ≤ x.1 ∧ x.1 ≤ 15 := fun x hx => by
      obtain ⟨b, hb', o, ho, hxo⟩ := ownAt_mem hx
      exact hh b hb' o ho x hxo
    have hx2 : ∀ x ∈ ownAt r t' a', 0 ≤ x.2 := fun x hx => by
      obtain ⟨b, hb', o, ho, hxo⟩ := ownAt_mem hx
      exact (ln b hb' o ho x hxo).1
    rw [← countP_heights hx1 hx2 (fun h => decide ((t' + (h + 1)) % r.length = t)) a, List.countP_map]
    apply List.countP_congr
    intro x hx
    have := hx1 x hx
    have e3 : x.1 = ((x.1.toNat - 1 + 1 : Nat) : Int) := by omega
    simp only [Function.comp, goal, Bool.and_eq_true, decide_eq_true_eq, Prod.mk.injEq]
    have e4 : (((t' : Int) + x.1) % r.length).toNat = (t' + (x.1.toNat - 1 + 1)) % r.length := by
      rw [e3]
      have : ((t' : Int) + ((x.1.toNat - 1 + 1 : Nat) : Int)) = ((t' + (x.1.toNat - 1 + 1) : Nat) : Int) := by omega
      rw [this]
      have e5 : (((x.1.toNat - 1 + 1 : Nat) : Int)).toNat - 1 + 1 = x.1.toNat - 1 + 1 := by omega
      rw [e5]
      exact Int.toNat_natCast _
    rw [e4]
  rw [e1]
  unfold landZ
  rw [sm_congr (f := fun t' => sm n fun a' => sm 15 fun h => if decide ((t' + (h + 1)) % r.length = t) = true then (ownAt r t' a').count ((h : Int) + 1, (a : Int)) else 0) fun t' _ => sm_swap n 15 fun a' h => if decide ((t' + (h + 1)) % r.length = t) = true then (ownAt r t' a').count ((h : Int) + 1, (a : Int)) else 0]
  rw [sm_swap]
  refine sm_congr fun h hh' => ?_
  rw [sm_swap]
  refine sm_congr fun a' ha' => ?_
  have hk : (((t : Int) - ((h : Int) + 1)) % r.length).toNat < r.length := by
    have := Int.emod_nonneg ((t : Int) - ((h : Int) + 1)) (b := r.length) (by omega)
    have := Int.emod_lt_of_pos ((t : Int) - ((h : Int) + 1)) (b := r.length) (by omega)
    omega
  have e6 : ∀ t', t' < r.length → (decide ((t' + (h + 1)) % r.length = t) = true ↔ t' = (((t : Int) - ((h : Int) + 1)) % r.length).toNat) := by
    intro t' ht'
    rw [decide_eq_true_eq]
    have n1 := Int.emod_nonneg ((t : Int) - ((h : Int) + 1)) (b := r.length) (by omega)
    have ec : ((t' + (h + 1) : Nat) : Int) = (t' : Int) + ((h : Int) + 1) := by omega
    constructor
    · intro e
      have e' : ((t' : Int) + (h + 1)) % r.length = t := by
        rw [← e, Int.natCast_emod, ec]
      have : ((t : Int) - ((h : Int) + 1)) % r.length = t' := by
        rw [← e', Int.emod_sub_emod]
        have : (t' : Int) + ((h : Int) + 1) - ((h : Int) + 1) = t' := by omega
        rw [this]
        exact Int.emod_eq_of_lt (by omega) (by omega)
      omega
    · intro e
      have e' : (t' : Int) = ((t : Int) - ((h : Int) + 1)) % r.length := by omega
      have : ((t' : Int) + (h + 1)) % r.length = t := by
        rw [e', Int.emod_add_emod]
        have : (t : Int) - ((h : Int) + 1) + ((h : Int) + 1) = t := by omega
        rw [this]
        exact Int.emod_eq_of_lt (by omega) (by omega)
      rw [← ec, ← Int.natCast_emod] at this
      omega
  rw [sm_congr (g := fun t' => if t' = (((t : Int) - ((h : Int) + 1)) % r.length).toNat then (ownAt r t' a').count ((h : Int) + 1, (a : Int)) else 0) fun t' ht' => by
    by_cases c : t' = (((t : Int) - ((h : Int) + 1)) % r.length).toNat
    · rw [if_pos ((e6 t' ht').mpr c), if_pos c]
    · rw [if_neg (fun z => c ((e6 t' ht').mp z)), if_neg c]]
  rw [sm_ite hk fun t' => (ownAt r t' a').count ((h : Int) + 1, (a : Int))]
  rfl
end J

namespace J
open PySem PySem.Spec PyProof.Rows L2
theorem ownZ_nat {r : Row} {t a : Nat} (ht : t < r.length) : ownZ r t a = ownAt r t a := by
  unfold ownZ
  rw [Int.emod_eq_of_lt (by omega) (by omega)]
  simp
theorem ownZ_mod {r : Row} (hL : 1 ≤ r.length) (T : Int) (a : Nat) : ownZ r (T % r.length) a = ownZ r T a := by
  unfold ownZ
  rw [Int.emod_emod_of_dvd _ (Int.dvd_refl _)]
theorem ownZ_shift {r : Row} {T T' : Int} (h : T % r.length = T' % r.length) (a : Nat) : ownZ r T a = ownZ r T' a := by
  unfold ownZ
  rw [h]
theorem landZ_shift {n : Nat} {r : Row} {T T' : Int} (h : T % r.length = T' % r.length) (a : Nat) : landZ n r T a = landZ n r T' a := by
  unfold landZ
  refine sm_congr fun k _ => sm_congr fun a' _ => ?_
  rw [ownZ_shift (T' := T' - ((k : Int) + 1))]
  rw [Int.sub_emod, h, ← Int.sub_emod]
/-- a row fits just where at each time as many land as are thrown -/
theorem fits_iff {n : Nat} {r : Row} (h : VR n r) : clashOf n r = none ↔ ∀ (T : Int) (a : Nat), a < n → (ownZ r T a).length = landZ n r T a := by
  rw [clash_none]
  have hl := h.l1
  constructor
  · intro hc T a ha
    have h1 := Int.emod_nonneg T (b := r.length) (by omega)
    have h2 := Int.emod_lt_of_pos T (b := r.length) (by omega)
    obtain ⟨t, et⟩ := Int.eq_ofNat_of_zero_le h1
    have ht : t < r.length := by omega
    have := hc t ht a ha
    rw [cellN_landZ h.l1 h.blen h.hts h.lines ht ha] at this
    have e1 : ownZ r T a = ownAt r t a := by rw [← ownZ_mod hl, et]; exact ownZ_nat ht
    have e2 : landZ n r T a = landZ n r t a := landZ_shift (by rw [← et, Int.emod_emod_of_dvd _ (Int.dvd_refl _)]) a
    rw [e1, e2]
    have e3 : lenAt r t a = (ownAt r t a).length := rfl
    omega
  · intro hc t ht a ha
    rw [cellN_landZ h.l1 h.blen h.hts h.lines ht ha, ← hc t a ha, ownZ_nat ht]
    rfl
/-! ## begun elsewhere, said several times -/
def rot {α : Type} (r : List α) (k : Nat) : List α := r.drop k ++ r.take k
def rep {α : Type} (r : List α) (m : Nat) : List α := (List.replicate m r).flatten
theorem rot_len {α : Type} (r : List α) (k : Nat) : (rot r k).length = r.length := by
  unfold rot
  simp
  omega
theorem rep_len {α : Type} (r : List α) (m : Nat) : (rep r m).length = m * r.length := by
  unfold rep
  simp
theorem rot_at {α : Type} (r : List α) {k i : Nat} (hk : k ≤ r.length) (hi : i < r.length) : (rot r k)[i]? = r[(i + k) % r.length]? := by
  unfold rot
  by_cases c : i < r.length - k
  · rw [List.getElem?_append_left (by simpa using c), List.getElem?_drop, Nat.mod_eq_of_lt (by omega)]
    congr 1
    omega
  · rw [List.getElem?_append_right (by simp; omega), List.getElem?_take]
    have e : (i + k) % r.length = i - (r.length - k) := by
      rw [Nat.mod_eq_sub_mod (by omega), Nat.mod_eq_of_lt (by omega)]
      omega
    rw [e]
    simp only [List.length_drop]
    rw [if_pos (by omega)]
theorem rep_succ {α : Type} (r : List α) (m : Nat) : rep r (m + 1) = r ++ rep r m := by
  unfold rep
  rw [List.replicate_succ, List.flatten_cons]
theorem rep_at {α : Type} (r : List α) : ∀ {m i : Nat}, i < m * r.length → (rep r m)[i]? = r[i % r.length]?
  | 0, i, h => by omega
  | m + 1, i, h => by
    rw [rep_succ]
    by_cases c : i < r.length
    · rw [List.getElem?_append_left c, Nat.mod_eq_of_lt c]
    · have h' : i - r.length < m * r.length := by rw [Nat.add_mul] at h; omega
      rw [List.getElem?_append_right (by omega), rep_at r h', Nat.mod_eq_sub_mod (a := i) (by omega)]
theorem mem_rot {α : Type} {r : List α} {k : Nat} {x : α} : x ∈ rot r k → x ∈ r := fun h => by
  unfold rot at h
  rcases List.mem_append.mp h with z | z
  · exact List.mem_of_mem_drop z
  · exact List.mem_of_mem_take z
theorem mem_rep {α : Type} {r : List α} {m : Nat} {x : α} : x ∈ rep r m → x ∈ r := fun h => by
  unfold rep at h
  obtain ⟨l, hl, hx⟩ := List.mem_flatten.mp h
  rw [(List.mem_replicate.mp hl).2] at hx
  exact hx
theorem VR.rot {n : Nat} {r : Row} (h : VR n r) (k : Nat) : VR n (rot r k) := ⟨h.n1, h.n6, by rw [rot_len]; exact h.l1, by rw [rot_len]; exact h.l24, fun b hb => h.beats b (mem_rot hb)⟩
theorem VR.rep {n : Nat} {r : Row} (h : VR n r) {m : Nat} (h1 : 1 ≤ m) (h2 : m * r.length ≤ 24) : VR n (rep r m) := ⟨h.n1, h.n6, by
  rw [rep_len]
  have := h.l1
  exact Nat.mul_pos h1 this, by rw [rep_len]; exact h2, fun b hb => h.beats b (mem_rep hb)⟩
end J

namespace J
open PySem PySem.Spec PyProof.Rows L2
/-! ## the order of rows -/
structure STO {α : Type} (lt : α → α → Bool) : Prop where
  irr : ∀ a, lt a a = false
  tr : ∀ a b c, lt a b = true → lt b c = true → lt a c = true
  tri : ∀ a b, lt a b = true ∨ a = b ∨ lt b a = true
theorem STO.asy {α : Type} {lt : α → α → Bool} (h : STO lt) {a b : α} (e : lt a b = true) : lt b a = false := by
  cases q : lt b a with
  | false => rfl
  | true =>
    have := h.tr _ _ _ e q
    rw [h.irr] at this
    cases this
def lexB {α : Type} [DecidableEq α] (lt : α → α → Bool) : List α → List α → Bool
  | [], [] => false
  | [], _ :: _ => true
  | _ :: _, [] => false
  | x :: xs, y :: ys => if x = y then lexB lt xs ys else lt x y
theorem STO.lex {α : Type} [DecidableEq α] {lt : α → α → Bool} (h : STO lt) : STO (lexB lt) := by
  refine ⟨fun a => ?_, fun a => ?_, fun a => ?_⟩
  · induction a with
    | nil => rfl
    | cons x xs ih => simp [lexB, ih]
  · induction a with
    | nil =>
      intro b c h1 h2
      cases b with
      | nil => simp [lexB] at h1
      | cons y ys =>
        cases c with
        | nil => simp [lexB] at h2
        | cons z zs => rfl
    | cons x xs ih =>
      intro b c h1 h2
      cases b with
      | nil => simp [lexB] at h1
      | cons y ys =>
        cases c with
        | nil => simp [lexB] at h2
        | cons z zs =>
          simp only [lexB] at h1 h2 ⊢
          by_cases e1 : x = y
          · subst e1
            rw [if_pos rfl] at h1
            by_cases e2 : x = z
            · subst e2
              rw [if_pos rfl] at h2 ⊢
              exact ih _ _ h1 h2
            · rw [if_neg e2] at h2 ⊢
              exact h2
          · rw [if_neg e1] at h1
            by_cases e2 : y = z
            · subst e2
              rw [if_neg e1]
              exact h1
            · rw [if_neg e2] at h2
              have h3 := h.tr _ _ _ h1 h2
              by_cases e3 : x = z
              · subst e3
                rw [h.irr] at h3
                cases h3
              · rw [if_neg e3]
                exact h3
  · induction a with
    | nil =>
      intro b
      cases b with
      | nil => exact .inr (.inl rfl)
      | cons y ys => exact .inl rfl
    | cons x xs ih =>
      intro b
      cases b with
      | nil => exact .inr (.inr rfl)
      | cons y ys =>
        simp only [lexB]
        by_cases e : x = y
        · subst e
          rcases ih ys with z | z | z
          · exact .inl (by simpa using z)
          · exact .inr (.inl (by rw [z]))
          · exact .inr (.inr (by simpa using z))
        · have e' : ¬ y = x := fun z => e z.symm
          rcases h.tri x y with z | z | z
          · exact .inl (by simp [e, z])
          · exact absurd z e
          · exact .inr (.inr (by simp [e', z]))
def ltT (a b : Thr) : Bool := decide (a.1 < b.1) || (decide (a.1 = b.1) && decide (a.2 < b.2))
theorem sto_T : STO ltT := by
  refine ⟨fun a => ?_, fun a b c h1 h2 => ?_, fun a b => ?_⟩
  · simp [ltT]
  · simp [ltT] at *
    omega
  · obtain ⟨a1, a2⟩ := a
    obtain ⟨b1, b2⟩ := b
    simp [ltT]
    omega
abbrev ltO : Own → Own → Bool := lexB ltT
abbrev ltB : Beat → Beat → Bool := lexB ltO
abbrev ltR : Row → Row → Bool := lexB ltB
theorem sto_R : STO ltR := sto_T.lex.lex.lex
theorem lts_map {α : Type} [DecidableEq α] {lt : α → α → Bool} {e : α → D} (he : ∀ a b, D.eqv (e a) (e b) = decide (a = b)) (hl : ∀ a b, D.lt (e a) (e b) = lt a b) : ∀ xs ys : List α, D.lts (xs.map e) (ys.map e) = lexB lt xs ys
  | [], [] => by simp [D.lts, lexB]
  | [], _ :: _ => by simp [D.lts, lexB]
  | _ :: _, [] => by simp [D.lts, lexB]
  | x :: xs, y :: ys => by simp [D.lts, lexB, he, hl, lts_map he hl xs ys]
theorem eqv_dec {α : Type} [DecidableEq α] {e : α → D} (hp : ∀ a, (e a).pl = true) (hi : ∀ {a b}, e a = e b → a = b) (a b : α) : D.eqv (e a) (e b) = decide (a = b) := by
  rw [Bool.eq_iff_iff, eqv_pl (hp a) (hp b), decide_eq_true_eq]
  exact ⟨hi, fun h => by rw [h]⟩
theorem lt_eT (a b : Thr) : D.lt (eT a) (eT b) = ltT a b := by
  unfold eT ltT
  simp only [D.lt, D.lts, D.eqv, beq_iff_eq]
  by_cases h : a.1 = b.1
  · simp only [h, if_true]
    by_cases h2 : a.2 = b.2
    · simp [h2]
    · simp [h2]
  · simp [h]
theorem lt_eO (a b : Own) : D.lt (eO a) (eO b) = ltO a b := by
  unfold eO
  rw [D.lt]
  exact lts_map (eqv_dec pl_eT eT_inj) lt_eT a b
theorem lt_eB (a b : Beat) : D.lt (eB a) (eB b) = ltB a b := by
  unfold eB
  rw [D.lt]
  exact lts_map (eqv_dec pl_eO eO_inj) lt_eO a b
theorem alks_map {α : Type} {e : α → D} (h : ∀ a b, D.alk (e a) (e b) = true) : ∀ xs ys : List α, D.alks (xs.map e) (ys.map e) = true
  | [], _ => by simp [D.alks]
  | _ :: _, [] => by simp [D.alks]
  | x :: xs, y :: ys => by simp [D.alks, h, alks_map h xs ys]
theorem alk_eT (a b : Thr) : D.alk (eT a) (eT b) = true := by simp [eT, D.alk, D.alks]
theorem alk_eO (a b : Own) : D.alk (eO a) (eO b) = true := by unfold eO; rw [D.alk]; exact alks_map alk_eT a b
theorem alk_eB (a b : Beat) : D.alk (eB a) (eB b) = true := by unfold eB; rw [D.alk]; exact alks_map alk_eO a b
/-- the least -/
def IsMin (m : Row) (xs : List Row) : Prop := m ∈ xs ∧ ∀ x ∈ xs, ltR x m = false
theorem IsMin.uniq {m m' : Row} {xs ys : List Row} (h : IsMin m xs) (h' : IsMin m' ys) (e : ∀ x, x ∈ xs ↔ x ∈ ys) : m = m' := by
  have h1 := h.2 m' ((e m').mpr h'.1)
  have h2 := h'.2 m ((e m).mp h.1)
  rcases sto_R.tri m m' with z | z | z
  · rw [z] at h2; cases h2
  · exact z
  · rw [z] at h1; cases h1
end J

namespace J
open PySem PySem.Spec PyProof.Rows L2
/-! ## periods -/
section
variable {α : Type}
/-- begun k later it is the same -/
def Per (w : List α) (k : Nat) : Prop := ∀ i, i < w.length → w[(i + k) % w.length]? = w[i]?
theorem Per.all {w : List α} {k : Nat} (h : Per w k) (hL : 1 ≤ w.length) (i : Nat) : w[(i + k) % w.length]? = w[i % w.length]? := by
  have := h (i % w.length) (Nat.mod_lt _ (by omega))
  rwa [Nat.mod_add_mod] at this
theorem Per.add {w : List α} {a b : Nat} (h : Per w a) (h' : Per w b) (hL : 1 ≤ w.length) : Per w (a + b) := fun i hi => by
  rw [← Nat.add_assoc, h'.all hL, h.all hL, Nat.mod_eq_of_lt hi]
theorem Per.sub {w : List α} {a b : Nat} (h : Per w a) (h' : Per w (a + b)) (hL : 1 ≤ w.length) : Per w b := fun i hi => by
  have h1 := h.all hL (i + b)
  have h2 := h'.all hL i
  have e : i + b + a = i + (a + b) := by omega
  rw [e] at h1
  rw [← h1, h2, Nat.mod_eq_of_lt hi]
theorem Per.zero {w : List α} : Per w 0 := fun i hi => by rw [Nat.add_zero, Nat.mod_eq_of_lt hi]
theorem Per.mul {w : List α} {a : Nat} (h : Per w a) (hL : 1 ≤ w.length) : ∀ q, Per w (a * q)
  | 0 => Per.zero
  | q + 1 => by
    rw [Nat.mul_succ]
    exact (h.mul hL q).add h hL
theorem Per.gcd {w : List α} (hL : 1 ≤ w.length) : ∀ (a b : Nat), Per w a → Per w b → Per w (Nat.gcd a b) := by
  intro a b
  induction a, b using Nat.gcd.induction with
  | H0 n => intro _ h; simpa using h
  | H1 m n hm ih =>
    intro h1 h2
    rw [Nat.gcd_rec]
    refine ih ?_ h1
    have e : m * (n / m) + n % m = n := Nat.div_add_mod n m
    exact (h1.mul hL (n / m)).sub (by rw [e]; exact h2) hL
theorem rep_take {w : List α} {k : Nat} (hL : 1 ≤ w.length) (hk : 1 ≤ k) (hd : k ∣ w.length) : rep (w.take k) (w.length / k) = w ↔ Per w k := by
  have hkL : k ≤ w.length := Nat.le_of_dvd (by omega) hd
  have htl : (w.take k).length = k := by simp; omega
  have hlen : (rep (w.take k) (w.length / k)).length = w.length := by rw [rep_len, htl, Nat.div_mul_cancel hd]
  have hat : ∀ i, i < w.length → (rep (w.take k) (w.length / k))[i]? = w[i % k]? := fun i hi => by
    rw [rep_at _ (by rw [htl, Nat.div_mul_cancel hd]; exact hi), htl, List.getElem?_take, if_pos (Nat.mod_lt _ (by omega))]
  constructor
  · intro e i hi
    have h1 := hat ((i + k) % w.length) (Nat.mod_lt _ (by omega))
    have h2 := hat i hi
    rw [e] at h1 h2
    rw [h1, h2, Nat.mod_mod_of_dvd _ hd]
    simp
  · intro h
    have key : ∀ q i, i < k → i + k * q < w.length → w[i + k * q]? = w[i]? := by
      intro q
      induction q with
      | zero => intro i _ _; simp
      | succ q ih =>
        intro i hi hq
        rw [Nat.mul_succ] at hq ⊢
        have := h (i + k * q) (by omega)
        rw [Nat.mod_eq_of_lt (by omega)] at this
        rw [← Nat.add_assoc, this]
        exact ih i hi (by omega)
    apply List.ext_getElem?
    intro i
    by_cases hi : i < w.length
    · rw [hat i hi]
      have := key (i / k) (i % k) (Nat.mod_lt _ (by omega)) (by rw [Nat.mod_add_div]; exact hi)
      rw [Nat.mod_add_div] at this
      exact this.symm
    · rw [List.getElem?_eq_none (by omega), List.getElem?_eq_none (by omega)]
/-- p is the least beginning part that makes w -/
structure IsPd (w : List α) (p : Nat) : Prop where
  pos : 1 ≤ p
  dvd : p ∣ w.length
  per : Per w p
  least : ∀ k, 1 ≤ k → k ∣ w.length → Per w k → p ≤ k
theorem IsPd.uniq {w : List α} {p q : Nat} (h : IsPd w p) (h' : IsPd w q) : p = q := Nat.le_antisymm (h.least q h'.pos h'.dvd h'.per) (h'.least p h.pos h.dvd h.per)
theorem IsPd.div {w : List α} {p a : Nat} (h : IsPd w p) (hL : 1 ≤ w.length) (ha : Per w a) : p ∣ a := by
  have hg := Per.gcd hL p a h.per ha
  have h1 : Nat.gcd p a ∣ p := Nat.gcd_dvd_left p a
  have h2 : 1 ≤ Nat.gcd p a := Nat.gcd_pos_of_pos_left a h.pos
  have h3 := h.least _ h2 (Nat.dvd_trans h1 h.dvd) hg
  have h4 := Nat.le_of_dvd h.pos h1
  have : Nat.gcd p a = p := by omega
  rw [← this]
  exact Nat.gcd_dvd_right p a
theorem IsPd.le {w : List α} {p : Nat} (h : IsPd w p) (hL : 1 ≤ w.length) : p ≤ w.length := Nat.le_of_dvd (by omega) h.dvd
theorem per_rep {r : List α} {m k : Nat} (hL : 1 ≤ r.length) (hm : 1 ≤ m) : Per (rep r m) k ↔ Per r k := by
  have hp : 0 < m * r.length := Nat.mul_pos hm hL
  have hd : r.length ∣ m * r.length := Nat.dvd_mul_left _ _
  constructor
  · intro h i hi
    have hle : r.length ≤ m * r.length := Nat.le_mul_of_pos_left _ hm
    have := h i (by rw [rep_len]; omega)
    rw [rep_len, rep_at r (Nat.mod_lt _ hp), rep_at r (by omega), Nat.mod_mod_of_dvd _ hd, Nat.mod_eq_of_lt hi] at this
    exact this
  · intro h i hi
    rw [rep_len] at hi ⊢
    rw [rep_at r (Nat.mod_lt _ hp), rep_at r hi, Nat.mod_mod_of_dvd _ hd]
    exact h.all hL i
theorem pd_rep {r : List α} {m p : Nat} (hL : 1 ≤ r.length) (hm : 1 ≤ m) (h : IsPd r p) : IsPd (rep r m) p := by
  refine ⟨h.pos, ?_, (per_rep hL hm).mpr h.per, fun k hk hd hp => ?_⟩
  · rw [rep_len]
    exact Nat.dvd_trans h.dvd (Nat.dvd_mul_left _ _)
  · exact Nat.le_of_dvd (by omega) (h.div hL ((per_rep hL hm).mp hp))
theorem rot_all {w : List α} {c : Nat} (hL : 1 ≤ w.length) (hc : c ≤ w.length) (i : Nat) : (rot w c)[i % w.length]? = w[(i + c) % w.length]? := by
  rw [rot_at w hc (Nat.mod_lt _ (by omega)), Nat.mod_add_mod]
theorem per_rot {w : List α} {c k : Nat} (hL : 1 ≤ w.length) (hc : c ≤ w.length) : Per (rot w c) k ↔ Per w k := by
  constructor
  · intro h i hi
    have hL' : 1 ≤ (rot w c).length := by rw [rot_len]; exact hL
    have := h.all hL' (i + (w.length - c))
    rw [rot_len, rot_all hL hc, rot_all hL hc] at this
    have e1 : i + (w.length - c) + k + c = i + k + w.length := by omega
    have e2 : i + (w.length - c) + c = i + w.length := by omega
    rw [e1, e2, Nat.add_mod_right, Nat.add_mod_right, Nat.mod_eq_of_lt hi] at this
    exact this
  · intro h i hi
    rw [rot_len] at hi ⊢
    rw [rot_all hL hc, rot_at w hc hi]
    have e : i + k + c = i + c + k := by omega
    rw [e]
    exact h.all hL (i + c)
theorem pd_rot {w : List α} {c p : Nat} (hL : 1 ≤ w.length) (hc : c ≤ w.length) (h : IsPd w p) : IsPd (rot w c) p :=
  ⟨h.pos, by rw [rot_len]; exact h.dvd, (per_rot hL hc).mpr h.per, fun k hk hd hp => h.least k hk (by rwa [rot_len] at hd) ((per_rot hL hc).mp hp)⟩
theorem IsPd.at_ {w : List α} {p : Nat} (h : IsPd w p) (hL : 1 ≤ w.length) {i : Nat} (hi : i < w.length) : w[i]? = (w.take p)[i % p]? := by
  have e := (rep_take hL h.pos h.dvd).mpr h.per
  have htl : (w.take p).length = p := by
    have := h.le hL
    simp
    omega
  have := rep_at (w.take p) (m := w.length / p) (i := i) (by rw [htl, Nat.div_mul_cancel h.dvd]; exact hi)
  rw [e, htl] at this
  exact this
/-- the beginning part of a row begun elsewhere is the part begun elsewhere -/
theorem take_rot {w : List α} {c p : Nat} (hL : 1 ≤ w.length) (hc : c ≤ w.length) (h : IsPd w p) : (rot w c).take p = rot (w.take p) (c % p) := by
  have hp := h.le hL
  have hpos := h.pos
  have htl : (w.take p).length = p := by simp; omega
  have hcp : c % p < p := Nat.mod_lt _ (by omega)
  apply List.ext_getElem?
  intro i
  by_cases hi : i < p
  · rw [List.getElem?_take, if_pos hi, rot_at w hc (by omega), h.at_ hL (Nat.mod_lt _ (by omega)), rot_at (w.take p) (by omega) (by omega), htl, Nat.mod_mod_of_dvd _ h.dvd, Nat.add_mod_mod]
  · rw [List.getElem?_eq_none (by simp; omega), List.getElem?_eq_none (by rw [rot_len, htl]; omega)]
theorem take_rep {r : List α} {m p : Nat} (hm : 1 ≤ m) (hp : p ≤ r.length) : (rep r m).take p = r.take p := by
  obtain ⟨m, rfl⟩ : ∃ k, m = k + 1 := ⟨m - 1, by omega⟩
  rw [rep_succ, List.take_append_of_le_length hp]
def turns (u : List α) : List (List α) := (List.range u.length).map (rot u)
theorem rot_rot {u : List α} {a b : Nat} (hL : 1 ≤ u.length) (ha : a ≤ u.length) (hb : b ≤ u.length) : rot (rot u a) b = rot u ((a + b) % u.length) := by
  apply List.ext_getElem?
  intro i
  have hm : (a + b) % u.length < u.length := Nat.mod_lt _ (by omega)
  by_cases hi : i < u.length
  · rw [rot_at (rot u a) (by rw [rot_len]; exact hb) (by rw [rot_len]; exact hi), rot_len, rot_all hL ha, rot_at u (by omega) hi, Nat.add_mod_mod]
    congr 2
    omega
  · rw [List.getElem?_eq_none (by rw [rot_len, rot_len]; omega), List.getElem?_eq_none (by rw [rot_len]; omega)]
theorem mem_turns_rot {u : List α} {c : Nat} (hL : 1 ≤ u.length) (hc : c ≤ u.length) (x : List α) : x ∈ turns (rot u c) ↔ x ∈ turns u := by
  unfold turns
  rw [rot_len]
  simp only [List.mem_map, List.mem_range]
  constructor
  · rintro ⟨k, hk, rfl⟩
    exact ⟨(c + k) % u.length, Nat.mod_lt _ (by omega), (rot_rot hL hc (by omega)).symm⟩
  · rintro ⟨k, hk, rfl⟩
    refine ⟨(k + (u.length - c)) % u.length, Nat.mod_lt _ (by omega), ?_⟩
    rw [rot_rot hL hc (Nat.le_of_lt (Nat.mod_lt _ (by omega))), Nat.add_mod_mod]
    have e : c + (k + (u.length - c)) = k + u.length := by omega
    rw [e, Nat.add_mod_right, Nat.mod_eq_of_lt hk]
end
end J

namespace J
open PySem PySem.Spec PyProof.Rows L2
theorem look_number_ok {i lo hi : Int} (h : lo ≤ i ∧ i ≤ hi) (S : Sto) : G_look_number [.int i, .int lo, .int hi] S = .ok .non S := by
  rw [G_look_number_eq, F_look_number]
  simp [is_whole_int, h.1, h.2]
/-! ## slices -/
theorem cut_from {α : Type} (xs : List α) (k : Nat) : cutD xs (some (k : Int)) none = xs.drop k := by
  unfold cutD
  rw [HT.sIx_none, HT.sIx_nat]
  by_cases h : k ≤ xs.length
  · rw [Nat.min_eq_left h, List.take_of_length_le (by simp)]
  · rw [Nat.min_eq_right (by omega), List.drop_eq_nil_of_le (Nat.le_refl _), List.drop_eq_nil_of_le (by omega)]
    simp
@[simp] theorem gSl_t (xs : List D) (lo hi : Option Int) (S : Sto) : gSl (.tup xs) lo hi S = .ok (.tup (cutD xs lo hi)) S := Eq.trans rfl rfl
/-! ## comprehensions with a test -/
theorem cTurn_no {g : CG} {ts : CT} {inner : CC} {env env1 : Env} {d : D} {acc : List D} {S S1 S2 : Sto} (h1 : g d env S = .ok env1 S1) (h2 : ts env1 S1 = .ok false S2) : cTurn g ts inner env d acc S = .ok acc S2 := by
  unfold cTurn
  simp [h1, h2]
theorem cL_filter {α : Type} {g : CG} {ts : CT} {elt : CE} {env : Env} {S : Sto} (e : α → D) (p : α → Bool) (f : α → D) : ∀ (xs : List α) (acc : List D), acc.length + xs.length ≤ sLim →
    (∀ x ∈ xs, ∃ env1, g (e x) env S = .ok env1 S ∧ ts env1 S = .ok (p x) S ∧ (p x = true → elt env1 S = .ok (f x) S)) → cL g ts (cElt elt) env (xs.map e) acc S = .ok (acc ++ (xs.filter p).map f) S
  | [], acc, _, _ => by simp [cL]
  | x :: xs, acc, hl, h => by
    simp only [List.length_cons] at hl
    obtain ⟨env1, h1, h2, h3⟩ := h x (by simp)
    rw [List.map_cons]
    unfold cL
    cases q : p x with
    | true =>
      rw [q] at h2
      rw [cTurn_elt h1 h2 (h3 q) (by omega), R.bind_ok, cL_filter e p f xs _ (by simp; omega) fun y hy => h y (by simp [hy])]
      simp [q]
    | false =>
      rw [q] at h2
      rw [cTurn_no h1 h2, R.bind_ok, cL_filter e p f xs _ (by omega) fun y hy => h y (by simp [hy])]
      simp [q]
end J

namespace J
open PySem PySem.Spec PyProof.Rows L2
theorem exists_pd {α : Type} [DecidableEq α] (w : List α) (hL : 1 ≤ w.length) : ∃ p, IsPd w p := by
  have pl : Per w w.length := fun i hi => by rw [Nat.add_mod_right, Nat.mod_eq_of_lt hi]
  have key : ∀ b, (∃ k, 1 ≤ k ∧ k ≤ b ∧ k ∣ w.length ∧ Per w k) → ∃ p, IsPd w p := by
    intro b
    induction b with
    | zero => rintro ⟨k, h1, h2, _⟩; omega
    | succ b ih =>
      rintro ⟨k, h1, h2, h3, h4⟩
      by_cases c : ∃ k, 1 ≤ k ∧ k ≤ b ∧ k ∣ w.length ∧ Per w k
      · exact ih c
      · refine ⟨k, h1, h3, h4, fun j j1 j2 j3 => ?_⟩
        by_cases z : k ≤ j
        · exact z
        · exact absurd ⟨j, j1, by omega, j2, j3⟩ c
  exact key w.length ⟨w.length, hL, Nat.le_refl _, Nat.dvd_refl _, pl⟩
/-- m is the least of the beginnings of r -/
def LT (r m : Row) : Prop := ∃ p, IsPd r p ∧ IsMin m (turns (r.take p))
theorem LT.uniq {r m m' : Row} (h : LT r m) (h' : LT r m') : m = m' := by
  obtain ⟨p, hp, hm⟩ := h
  obtain ⟨q, hq, hm'⟩ := h'
  have := hp.uniq hq
  subst this
  exact hm.uniq hm' fun _ => Iff.rfl
theorem take_pd_len {r : Row} {p : Nat} (hL : 1 ≤ r.length) (h : IsPd r p) : (r.take p).length = p := by
  have := h.le hL
  simp
  omega
theorem LT.rot {r m : Row} {c : Nat} (hL : 1 ≤ r.length) (hc : c ≤ r.length) (h : LT r m) : LT (J.rot r c) m := by
  obtain ⟨p, hp, hm⟩ := h
  refine ⟨p, pd_rot hL hc hp, ?_⟩
  rw [take_rot hL hc hp]
  have hl := take_pd_len hL hp
  have hcp : c % p < p := Nat.mod_lt _ (by have := hp.pos; omega)
  have e := mem_turns_rot (u := r.take p) (c := c % p) (by rw [hl]; exact hp.pos) (by omega)
  exact ⟨(e m).mpr hm.1, fun x hx => hm.2 x ((e x).mp hx)⟩
theorem LT.rep {r m : Row} {k : Nat} (hL : 1 ≤ r.length) (hk : 1 ≤ k) (h : LT r m) : LT (J.rep r k) m := by
  obtain ⟨p, hp, hm⟩ := h
  refine ⟨p, pd_rep hL hk hp, ?_⟩
  rw [take_rep hk (hp.le hL)]
  exact hm
theorem pd_take {r : Row} {p : Nat} (hL : 1 ≤ r.length) (h : IsPd r p) : IsPd (r.take p) p := by
  have hl := take_pd_len hL h
  obtain ⟨q, hq⟩ := exists_pd (r.take p) (by rw [hl]; exact h.pos)
  have e := (rep_take hL h.pos h.dvd).mpr h.per
  have hd : 1 ≤ r.length / p := Nat.div_pos (h.le hL) h.pos
  have h2 := pd_rep (m := r.length / p) (by rw [hl]; exact h.pos) hd hq
  rw [e] at h2
  have := h2.uniq h
  subst this
  exact hq
theorem LT.self {r m : Row} (hL : 1 ≤ r.length) (h : LT r m) : LT m m := by
  have h0 := h
  obtain ⟨p, hp, hm⟩ := h
  obtain ⟨k, hk, e⟩ := List.mem_map.mp hm.1
  have hl := take_pd_len hL hp
  have hk : k < (r.take p).length := by simpa using hk
  have h1 : 1 ≤ (r.take p).length := by rw [hl]; exact hp.pos
  have : LT (r.take p) m := ⟨p, pd_take hL hp, by rw [List.take_of_length_le (by omega)]; exact hm⟩
  have h2 := this.rot (c := k) h1 (by omega)
  rw [e] at h2
  exact h2
end J

namespace J
open PySem PySem.Spec PyProof.Rows L2
/-! ## loops that may raise -/
@[simp] theorem sRaise_d (x : Str) (env : Env) (S : Sto) : sRaise x env S = .exc ⟨x, []⟩ env S := Eq.trans rfl rfl
def NE (I : Env → Sto → Prop) (E : Exn → Env → Sto → Prop) (rs : RS) : Prop := Nx I rs ∨ ∃ x env S, rs = .exc x env S ∧ E x env S
theorem NE.nx {I : Env → Sto → Prop} {E : Exn → Env → Sto → Prop} {rs : RS} {env : Env} {S : Sto} (h : rs = .nx env S) (hi : I env S) : NE I E rs := .inl (Nx.of h hi)
theorem NE.exc {I : Env → Sto → Prop} {E : Exn → Env → Sto → Prop} {rs : RS} {x : Exn} {env : Env} {S : Sto} (h : rs = .exc x env S) (hi : E x env S) : NE I E rs := .inr ⟨x, env, S, h, hi⟩
theorem forL_preX {α : Type} {g : CG} {body : CS} (e : α → D) (I : List α → Env → Sto → Prop) (E : Exn → Env → Sto → Prop) : ∀ (xs pre : List α) (env : Env) (S : Sto),
    (∀ a x b env S, pre ++ xs = a ++ x :: b → I a env S → ∃ env1 S1, g (e x) env S = .ok env1 S1 ∧ NE (I (a ++ [x])) E (body env1 S1)) → I pre env S →
    (∃ env' S', forL g body (xs.map e) env S = .nx env' S' ∧ I (pre ++ xs) env' S') ∨ ∃ x env' S', forL g body (xs.map e) env S = .exc x env' S' ∧ E x env' S'
  | [], pre, env, S, _, h => .inl ⟨env, S, rfl, by simpa using h⟩
  | x :: xs, pre, env, S, st, h => by
    obtain ⟨env1, S1, e1, hn⟩ := st pre x xs env S rfl h
    rcases hn with ⟨env2, S2, e2, h2⟩ | ⟨y, env2, S2, e2, h2⟩
    · have ih := forL_preX e I E xs (pre ++ [x]) env2 S2 (fun a y b env S e => st a y b env S (by simpa using e)) h2
      have ee : forL g body ((x :: xs).map e) env S = forL g body (xs.map e) env2 S2 := by
        rw [List.map_cons]
        conv => lhs; unfold forL
        rw [e1, RS.ofG_ok]
        rcases e2 with e2 | e2 <;> rw [e2] <;> simp
      rw [ee]
      simpa using ih
    · refine .inr ⟨y, env2, S2, ?_, h2⟩
      rw [List.map_cons]
      unfold forL
      rw [e1, RS.ofG_ok, e2]
      rfl
theorem forL_X {α : Type} {g : CG} {body : CS} {env : Env} {S : Sto} (P : RS → Prop) (e : α → D) (I : List α → Env → Sto → Prop) (E : Exn → Env → Sto → Prop) (xs : List α) (h0 : I [] env S)
    (st : ∀ a x b env S, xs = a ++ x :: b → I a env S → ∃ env1 S1, g (e x) env S = .ok env1 S1 ∧ NE (I (a ++ [x])) E (body env1 S1))
    (hP : ∀ env' S', I xs env' S' → P (.nx env' S')) (hE : ∀ x env' S', E x env' S' → P (.exc x env' S')) : P (forL g body (xs.map e) env S) := by
  rcases forL_preX e I E xs [] env S (fun a x b env S e => st a x b env S (by simpa using e)) h0 with ⟨env', S', e3, h3⟩ | ⟨x, env', S', e3, h3⟩
  · rw [e3]; exact hP env' S' (by simpa using h3)
  · rw [e3]; exact hE x env' S' h3
/-! ## all places of a row -/
def prs (L n : Nat) : List (Nat × Nat) := (List.range L).flatMap fun t => (List.range n).map fun a => (t, a)
theorem prs_mem {L n t a : Nat} : (t, a) ∈ prs L n ↔ t < L ∧ a < n := by
  unfold prs
  simp
theorem mem_of_split {α : Type} {xs a b : List α} {x : α} (h : xs = a ++ x :: b) : x ∈ xs := by rw [h]; simp
section
variable {r : Row} {n N iR iT iB iA iO : Nat} {body : CS} {env : Env} {S : Sto}
end
/-- for tall, goal in own: .. -/
theorem own_loop {o : Own} {Y : CE} {iH iG : Nat} {body : CS} {env : Env} {S : Sto} (hY : Y env S = .ok (eO o) S) (P : RS → Prop) (I : List Thr → Env → Sto → Prop) (E : Exn → Env → Sto → Prop) (h0 : I [] env S)
    (step : ∀ pre x post env S, o = pre ++ x :: post → I pre env S → NE (I (pre ++ [x])) E (body ((env.set iH (some (.int x.1))).set iG (some (.int x.2))) S))
    (hP : ∀ env' S', I o env' S' → P (.nx env' S')) (hE : ∀ x env' S', E x env' S' → P (.exc x env' S')) :
    P (sFor (iSeq Y) (gTup 2 (gsCons (gName iH) (gsCons (gName iG) gsNil))) body env S) := by
  rw [sFor_fix (ds := o.map eT) (S1 := S) (by simp [hY, eO])]
  refine forL_X P eT I E o h0 (fun a x b env S hx hi => ⟨(env.set iH (some (.int x.1))).set iG (some (.int x.2)), S, by simp [eT], step a x b env S hx hi⟩) hP hE
/-! ## cells -/
def putsC (ps : List (Nat × Thr)) (cs : Cells) : Cells := ps.foldl (fun cs p => putC cs p.1 p.2) cs
theorem putC_len (cs : Cells) (k : Nat) (x : Thr) : (putC cs k x).length = cs.length := by simp [putC]
theorem cAt_puts : ∀ (ps : List (Nat × Thr)) (cs : Cells), (∀ p ∈ ps, p.1 < cs.length) → ∀ k, cAt (putsC ps cs) k = cAt cs k ++ (ps.filter fun p => decide (p.1 = k)).map (·.2)
  | [], cs, _, k => by simp [putsC]
  | p :: ps, cs, h, k => by
    have e : putsC (p :: ps) cs = putsC ps (putC cs p.1 p.2) := rfl
    rw [e, cAt_puts ps _ (fun q hq => by rw [putC_len]; exact h q (by simp [hq])) k, cAt_put (h p (by simp))]
    by_cases c : k = p.1
    · subst c; simp
    · have c' : ¬ p.1 = k := fun z => c z.symm
      simp [c, c']
def noC (N : Nat) : Cells := List.replicate N []
theorem cAt_no (N k : Nat) : cAt (noC N) k = [] := by
  unfold cAt noC
  by_cases h : k < N <;> simp [h]
end J

namespace J
open PySem PySem.Spec PyProof.Rows L2
/-! ## one line begins later -/
theorem VR.ownA {n : Nat} {r : Row} (h : VR n r) (t a : Nat) : (ownAt r t a).length ≤ 4 ∧ ∀ x ∈ ownAt r t a, okT n x = true := by
  unfold ownAt
  cases q : r[t]? with
  | none => simp
  | some b =>
    simp only [Option.getD_some]
    cases q2 : b[a]? with
    | none => simp
    | some o =>
      simp only [Option.getD_some]
      have := (h.beats b (List.mem_of_getElem? q)).2 o (List.mem_of_getElem? q2)
      exact ⟨this.1, this.2.1⟩
theorem flat_le {α β : Type} {f : α → List β} {k : Nat} : ∀ {xs : List α}, (∀ x, (f x).length ≤ k) → (xs.flatMap f).length ≤ xs.length * k
  | [], _ => by simp
  | x :: xs, h => by
    have := flat_le (xs := xs) h
    have := h x
    simp only [List.flatMap_cons, List.length_append, List.length_cons, Nat.add_mul]
    omega
theorem split_le {α : Type} {xs a b : List α} {x : α} (h : xs = a ++ x :: b) : a.length < xs.length := by
  rw [h]; simp
end J

namespace J
open PySem PySem.Spec PyProof.Rows L2
/-! ## rows out of cells: what stands where -/
/-! ## sums over all throws -/
theorem isum_append (xs ys : List Int) : (xs ++ ys).sum = xs.sum + ys.sum := List.sum_append
theorem isum_add {α : Type} (f g : α → Int) (xs : List α) : (xs.map fun x => f x + g x).sum = (xs.map f).sum + (xs.map g).sum := by
  induction xs with
  | nil => rfl
  | cons x xs ih => simp [ih]; omega
theorem prs_flat {α : Type} (L n : Nat) (f : Nat → Nat → List α) : (prs L n).flatMap (fun p => f p.1 p.2) = (List.range L).flatMap fun t => (List.range n).flatMap fun a => f t a := by
  unfold prs
  rw [List.flatMap_assoc]
  refine flatMap_congr' fun t _ => ?_
  rw [List.flatMap_map]
end J

namespace J
open PySem PySem.Spec PyProof.Rows L2
/-! ## the delayed row fits, with the same balls -/
theorem VR.ownZ {n : Nat} {r : Row} (h : VR n r) (T : Int) (a : Nat) : (ownZ r T a).length ≤ 4 ∧ ∀ x ∈ J.ownZ r T a, okT n x = true := h.ownA _ _
theorem VR.dsc {n : Nat} {r : Row} (h : VR n r) (t a : Nat) : J.dsc (ownAt r t a) = ownAt r t a := by
  unfold ownAt
  cases q : r[t]? with
  | none => simp [J.dsc, srt]
  | some b =>
    simp only [Option.getD_some]
    cases q2 : b[a]? with
    | none => simp [J.dsc, srt]
    | some o =>
      simp only [Option.getD_some]
      exact ((h.beats b (List.mem_of_getElem? q)).2 o (List.mem_of_getElem? q2)).2.2
end J

namespace J
open PySem PySem.Spec PyProof.Rows L2
/-! ## refusals -/
@[simp] theorem und_exn (m : Nat) (x : Str) : (D.exn x).und m = true := Eq.trans rfl rfl
@[simp] theorem gc_str {S : Sto} {b : Str} : gc S (.ok (.str b) S) = .ok (.str b) S := gc_same rfl
@[simp] theorem gc_strG {S G : Sto} {b : Str} : gc S (.ok (.str b) (S ++ G)) = .ok (.str b) S := gc_pure (.str b)
@[simp] theorem isNon_exn (x : Str) : isNon (.exn x) = false := Eq.trans rfl rfl
@[simp] theorem isNon_str (x : Str) : isNon (.str x) = false := Eq.trans rfl rfl
@[simp] theorem isSub_BadNumber_BadNumber : isSub "BadNumber" "BadNumber" = true := by decide
@[simp] theorem isSub_BadNumber_BadRow : isSub "BadNumber" "BadRow" = false := by decide
@[simp] theorem isSub_BadNumber_BadState : isSub "BadNumber" "BadState" = false := by decide
@[simp] theorem isSub_BadNumber_BadText : isSub "BadNumber" "BadText" = false := by decide
@[simp] theorem isSub_BadNumber_Clash : isSub "BadNumber" "Clash" = false := by decide
@[simp] theorem isSub_BadNumber_NoWay : isSub "BadNumber" "NoWay" = false := by decide
@[simp] theorem isSub_BadNumber_ArcError : isSub "BadNumber" "ArcError" = true := by decide
@[simp] theorem isSub_BadRow_BadNumber : isSub "BadRow" "BadNumber" = false := by decide
@[simp] theorem isSub_BadRow_BadRow : isSub "BadRow" "BadRow" = true := by decide
@[simp] theorem isSub_BadRow_BadState : isSub "BadRow" "BadState" = false := by decide
@[simp] theorem isSub_BadRow_BadText : isSub "BadRow" "BadText" = false := by decide
@[simp] theorem isSub_BadRow_Clash : isSub "BadRow" "Clash" = false := by decide
@[simp] theorem isSub_BadRow_NoWay : isSub "BadRow" "NoWay" = false := by decide
@[simp] theorem isSub_BadRow_ArcError : isSub "BadRow" "ArcError" = true := by decide
@[simp] theorem isSub_BadState_BadNumber : isSub "BadState" "BadNumber" = false := by decide
@[simp] theorem isSub_BadState_BadRow : isSub "BadState" "BadRow" = false := by decide
@[simp] theorem isSub_BadState_BadState : isSub "BadState" "BadState" = true := by decide
@[simp] theorem isSub_BadState_BadText : isSub "BadState" "BadText" = false := by decide
@[simp] theorem isSub_BadState_Clash : isSub "BadState" "Clash" = false := by decide
@[simp] theorem isSub_BadState_NoWay : isSub "BadState" "NoWay" = false := by decide
@[simp] theorem isSub_BadState_ArcError : isSub "BadState" "ArcError" = true := by decide
@[simp] theorem isSub_BadText_BadNumber : isSub "BadText" "BadNumber" = false := by decide
@[simp] theorem isSub_BadText_BadRow : isSub "BadText" "BadRow" = false := by decide
@[simp] theorem isSub_BadText_BadState : isSub "BadText" "BadState" = false := by decide
@[simp] theorem isSub_BadText_BadText : isSub "BadText" "BadText" = true := by decide
@[simp] theorem isSub_BadText_Clash : isSub "BadText" "Clash" = false := by decide
@[simp] theorem isSub_BadText_NoWay : isSub "BadText" "NoWay" = false := by decide
@[simp] theorem isSub_BadText_ArcError : isSub "BadText" "ArcError" = true := by decide
@[simp] theorem isSub_Clash_BadNumber : isSub "Clash" "BadNumber" = false := by decide
@[simp] theorem isSub_Clash_BadRow : isSub "Clash" "BadRow" = false := by decide
@[simp] theorem isSub_Clash_BadState : isSub "Clash" "BadState" = false := by decide
@[simp] theorem isSub_Clash_BadText : isSub "Clash" "BadText" = false := by decide
@[simp] theorem isSub_Clash_Clash : isSub "Clash" "Clash" = true := by decide
@[simp] theorem isSub_Clash_NoWay : isSub "Clash" "NoWay" = false := by decide
@[simp] theorem isSub_Clash_ArcError : isSub "Clash" "ArcError" = true := by decide
@[simp] theorem isSub_NoWay_BadNumber : isSub "NoWay" "BadNumber" = false := by decide
@[simp] theorem isSub_NoWay_BadRow : isSub "NoWay" "BadRow" = false := by decide
@[simp] theorem isSub_NoWay_BadState : isSub "NoWay" "BadState" = false := by decide
@[simp] theorem isSub_NoWay_BadText : isSub "NoWay" "BadText" = false := by decide
@[simp] theorem isSub_NoWay_Clash : isSub "NoWay" "Clash" = false := by decide
@[simp] theorem isSub_NoWay_NoWay : isSub "NoWay" "NoWay" = true := by decide
@[simp] theorem isSub_NoWay_ArcError : isSub "NoWay" "ArcError" = true := by decide
@[simp] theorem lstTy_new (xs : List D) (S : Sto) : lstTy (.new xs) S = .ok (.new xs) S := Eq.trans rfl rfl
/-! ## numbers refused -/
@[simp] theorem ok_number : PyData.strOk "number" = true := by decide +kernel
@[simp] theorem ok_row : PyData.strOk "row" = true := by decide +kernel
@[simp] theorem ok_state : PyData.strOk "state" = true := by decide +kernel
@[simp] theorem ok_clash : PyData.strOk "clash" = true := by decide +kernel
@[simp] theorem ok_noway : PyData.strOk "no way" = true := by decide +kernel
@[simp] theorem ok_told : PyData.strOk "told" = true := by decide +kernel
end J

namespace J
open PySem PySem.Spec PyProof.Rows L2
theorem VR.hd {n : Nat} {r : Row} (h : VR n r) : (r.head?.getD []).length = n := by obtain ⟨b, r', rfl, hb'⟩ := h.ne; simpa using hb'
end J

namespace J
open PySem PySem.Spec PyProof.Rows L2
/-! ## one throw at once -/
def Sgl (r : Row) : Prop := ∀ b ∈ r, ∀ o ∈ b, o.length ≤ 1
/-! ## one line, one throw at once: heights -/
def h1 (o : Own) : Int := match o with | [] => 0 | x :: _ => x.1
def hN (r : Row) (t : Nat) : Int := h1 (ownAt r t 0)
theorem Sgl.own {r : Row} (hs : Sgl r) (t a : Nat) : (ownAt r t a).length ≤ 1 := by
  unfold ownAt
  cases q : r[t]? with
  | none => simp
  | some b =>
    simp only [Option.getD_some]
    cases q2 : b[a]? with
    | none => simp
    | some o => exact hs b (List.mem_of_getElem? q) o (List.mem_of_getElem? q2)
/-! ## holes -/
def hK (L m t : Nat) : Nat := ((-((t : Int) + m)) % L).toNat
def hP (r : Row) (m t : Nat) : List (Nat × Thr) := if hN r t < m then [(hK r.length m t, ((m : Int) - hN r t, 0))] else []
def hA (r : Row) (m : Nat) (pre : List Nat) : Bool := pre.all fun t => decide (hN r t ≤ m)
def hE (r : Row) (m : Nat) (S : Sto) : Exn → Env → Sto → Prop := fun x _ S' => x = ⟨"NoWay", []⟩ ∧ hA r m (List.range r.length) = false ∧ ∃ G, S' = S ++ G
/-! ### what holes are -/
theorem neg_mod {L : Nat} {x b : Int} (hL : 1 ≤ L) (b0 : 0 ≤ b) (b1 : b < L) : (-x) % L = b ↔ (x + b) % L = 0 := by
  constructor
  · intro e
    rw [← e, Int.add_comm, Int.emod_add_emod]
    have : -x + x = 0 := by omega
    rw [this]
    simp
  · intro e
    have : -x = b - (x + b) := by omega
    rw [this, Int.sub_emod, e, Int.sub_zero, Int.emod_emod_of_dvd _ (Int.dvd_refl _)]
    exact Int.emod_eq_of_lt b0 b1
theorem isum_const (c : Int) : ∀ n : Nat, ((List.range n).map fun _ => c).sum = n * c
  | 0 => by simp
  | n + 1 => by
    rw [List.range_succ, List.map_append, List.sum_append, isum_const c n]
    have : ((n + 1 : Nat) : Int) = n + 1 := by omega
    rw [this, Int.add_mul]
    simp
end J

namespace J
open PySem PySem.Spec PyProof.Rows L2
/-! ## the least common length -/
def rgOk (i j c : Int) (n : Nat) : Bool := decide (c ≠ 0) && (decide (c.natAbs < 1073741824) && (Builtin.Range.small i j c && decide (Builtin.Range.rangeSize i j c = n)))
theorem rng3_of {i j c : Int} {n : Nat} (h : rgOk i j c n = true) (S : Sto) : rng3 [.int i, .int j, .int c] S = .ok (.fix (rangeCD i c n)) S := by
  unfold rgOk at h
  simp only [Bool.and_eq_true, decide_eq_true_eq] at h
  obtain ⟨h1, h2, h3, h4⟩ := h
  unfold rng3
  simp only
  rw [if_pos ⟨h1, h2, h3, by rw [h4]; omega⟩, h4]
  simp
/-! ## two rows at once -/
end J

namespace J
open PySem PySem.Spec PyProof.Rows L2
/-! ## two rows at once: throws, landings, balls -/
section
variable {n1 n2 : Nat} {r1 r2 : Row}
/-! ### balls -/
end
end J

namespace J
open PySem PySem.Spec PyProof.Rows L2
/-! ## one throw at once: places -/
def pl (r : Row) (p : Nat × Nat) : Thr := match ownAt r p.1 p.2 with | [] => (0, (p.2 : Int)) | x :: _ => x
/-! ## rows by their places -/
section
variable {L n : Nat} {f : Nat × Nat → Thr}
end
end J

namespace J
open PySem PySem.Spec PyProof.Rows L2
/-! ## a place's throw as the program reads it -/
/-! ## raised -/
def rf (r : Row) (by_ : Int) (p : Nat × Nat) : Thr := ((pl r p).1 + by_, (pl r p).2)
def rO (r : Row) (by_ : Int) (p : Nat × Nat) : Bool := (decide (0 ≤ (rf r by_ p).1) && decide ((rf r by_ p).1 ≤ 15)) && (decide ((rf r by_ p).1 ≠ 0) || decide ((rf r by_ p).2 = p.2))
end J

namespace J
open PySem PySem.Spec PyProof.Rows L2
/-! ## raised: what it is -/
section
variable {n : Nat} {r : Row} {by_ : Int}
end
/-! ## beats in the store -/
def rfs (m L : Nat) : D := .new ((List.range L).map fun t => .ref (m + t))
theorem rfs_ix {m L t : Nat} (ht : t < L) (S : Sto) : gIx (rfs m L) (.int (t : Nat)) S = .ok (.ref (m + t)) S := gIx_n (atI_nat _ t (by simp [ht]))
theorem cGo_ref {nn : Nat} {S : Sto} {ds : List D} (hS : S[nn]? = some (.lst ds)) {g : CG} {elt : CE} {env : Env} (f : D → D) (he : ∀ d ∈ ds, ∃ env1, g d env S = .ok env1 S ∧ elt env1 S = .ok (f d) S) : ∀ (k i : Nat) (acc : List D), k + i = ds.length → acc.length + k ≤ sLim →
    cGo (.lst nn) g tYesD (cElt elt) k i env acc S = .ok (acc ++ (ds.drop i).map f) S
  | 0, i, acc, h, _ => by
    unfold cGo
    have : ds[i]? = none := by simp; omega
    simp only [Src.at, hS, this]
    rw [List.drop_eq_nil_of_le (by omega)]
    simp
  | k + 1, i, acc, h, hl => by
    have hi : i < ds.length := by omega
    obtain ⟨env1, e1, e2⟩ := he ds[i] (List.getElem_mem hi)
    unfold cGo
    simp only [Src.at, hS, List.getElem?_eq_getElem hi, e1, R.nox_ok, R.bind_ok, tYesD_d, if_true]
    have e3 : cElt elt env1 acc S = .ok (acc ++ [f ds[i]]) S := by
      have := cTurn_elt (g := g) (ts := tYesD) (elt := elt) (env := env) (d := ds[i]) (acc := acc) e1 rfl e2 (by omega)
      unfold cTurn at this
      simp only [e1, R.nox_ok, R.bind_ok, tYesD_d, if_true] at this
      exact this
    rw [e3, R.bind_ok, cGo_ref hS f he k (i + 1) (acc ++ [f ds[i]]) (by omega) (by simp; omega), List.drop_eq_getElem_cons hi, List.map_cons]
    simp only [List.append_assoc, List.singleton_append]
theorem comp_ref {nn : Nat} {S : Sto} {ds : List D} (hS : S[nn]? = some (.lst ds)) {fI : CE} {g : CG} {elt : CE} {vs : List Nat} {env : Env} (hI : fI env S = .ok (.ref nn) S) (f : D → D) (hl : ds.length ≤ sLim) (he : ∀ d ∈ ds, ∃ env1, g d (wipeE env vs) S = .ok env1 S ∧ elt env1 S = .ok (f d) S) :
    aComp (cFor (iSeq fI) g tYesD vs (cElt elt)) env S = .ok (ds.map f) S := by
  rw [aComp_d]
  unfold cFor
  rw [iSeq_d, hI, R.bind_ok]
  show ((R.ok (Src.lst nn) S).bind fun src S => (cGo src g tYesD (cElt elt) (src.len S) 0 (wipeE env vs) [] S).nox) = _
  rw [R.bind_ok]
  have e : Src.len (.lst nn) S = ds.length := by simp [Src.len, hS]
  rw [e, cGo_ref hS f he ds.length 0 [] (by omega) (by simpa using hl)]
  simp
def gRow (L n : Nat) (g : Nat × Nat → Own) : Row := (List.range L).map fun t => (List.range n).map fun a => dsc (g (t, a))
end J

namespace J
open PySem PySem.Spec PyProof.Rows L2
/-! ## landings of two exchanged -/
section
variable {n : Nat} {r : Row} {one two : Nat × Nat}
end
/-! ## put -/
end J

namespace J
open PySem PySem.Spec PyProof.Rows L2
/-! ## time turned round -/
def bK (L n : Nat) (t : Nat) (x : Thr) : Nat := ((-((t : Int) + x.1)) % L).toNat * n + x.2.toNat
def bP (r : Row) (n : Nat) (p : Nat × Nat) : List (Nat × Thr) := (ownAt r p.1 p.2).map fun x => (bK r.length n p.1 x, (x.1, (p.2 : Int)))
def bC (r : Row) (n : Nat) (pre : List (Nat × Nat)) : Cells := putsC (pre.flatMap (bP r n)) (noC (r.length * n))
theorem bT_lt {L : Nat} (hL : 1 ≤ L) (y : Int) : ((-y) % L).toNat < L ∧ ((((-y) % L).toNat : Nat) : Int) = (-y) % L := by
  have h1 := Int.emod_nonneg (-y) (b := L) (by omega)
  have h2 := Int.emod_lt_of_pos (-y) (b := L) (by omega)
  omega
theorem bP_lt {n : Nat} {r : Row} (h : VR n r) (p : Nat × Nat) : ∀ q ∈ bP r n p, q.1 < r.length * n := by
  intro q hq
  obtain ⟨x, hx, rfl⟩ := List.mem_map.mp hq
  have := (h.ownA p.1 p.2).2 x hx
  simp [okT] at this
  exact cell_lt (bT_lt h.l1 _).1 (by omega)
/-! ### what it is -/
theorem count_puts {ps : List (Nat × Thr)} {N : Nat} (h : ∀ p ∈ ps, p.1 < N) (k : Nat) (y : Thr) : (cAt (putsC ps (noC N)) k).count y = ps.countP fun p => decide (p = (k, y)) := by
  rw [cAt_puts ps _ (by simpa [noC] using h), cAt_no, List.nil_append, List.count_eq_countP, List.countP_map, List.countP_filter]
  apply List.countP_congr
  rintro ⟨a, b⟩ _
  simp only [Function.comp, Bool.and_eq_true, beq_iff_eq, decide_eq_true_eq, Prod.mk.injEq]
  exact ⟨fun z => ⟨z.2, z.1⟩, fun z => ⟨z.2, z.1⟩⟩
theorem countP_prsF {α : Type} {L n : Nat} (q : α → Bool) (f : Nat → Nat → List α) : ((prs L n).flatMap fun p => f p.1 p.2).countP q = sm L fun t => sm n fun a => (f t a).countP q := by
  rw [prs_flat, countP_flatMap_sm]
  exact sm_congr fun t _ => countP_flatMap_sm q n (f t)
theorem b_count {n : Nat} {r : Row} (h : VR n r) {T b a : Nat} (hT : T < r.length) (hb : b < n) (ha : a < n) (g : Int) : (cAt (bC r n (prs r.length n)) (T * n + b)).count (g, (a : Int)) = (ownZ r (-(T : Int) - g) a).count (g, (b : Int)) := by
  have hL := h.l1
  have hk : ∀ p ∈ (prs r.length n).flatMap (bP r n), p.1 < r.length * n := fun p hp => by
    obtain ⟨p', _, z⟩ := List.mem_flatMap.mp hp
    exact bP_lt h p' p z
  unfold bC
  rw [count_puts hk]
  refine (countP_prsF (L := r.length) (n := n) (fun p : Nat × Thr => decide (p = (T * n + b, (g, (a : Int))))) fun t a => (ownAt r t a).map fun x => (bK r.length n t x, (x.1, (a : Int)))).trans ?_
  have b1 := Int.emod_nonneg (-(T : Int) - g) (b := r.length) (by omega)
  have b2 := Int.emod_lt_of_pos (-(T : Int) - g) (b := r.length) (by omega)
  have e1 : ∀ t, t < r.length → (sm n fun a' => ((ownAt r t a').map fun x => (bK r.length n t x, (x.1, (a' : Int)))).countP fun p => decide (p = (T * n + b, (g, (a : Int))))) = if t = ((-(T : Int) - g) % r.length).toNat then (ownAt r t a).count (g, (b : Int)) else 0 := by
    intro t ht
    rw [sm_congr (g := fun a' => if a' = a then (if t = ((-(T : Int) - g) % r.length).toNat then (ownAt r t a').count (g, (b : Int)) else 0) else 0) fun a' ha' => ?_]
    · exact sm_ite ha fun a' => if t = ((-(T : Int) - g) % r.length).toNat then (ownAt r t a').count (g, (b : Int)) else 0
    · rw [List.countP_map]
      by_cases c : a' = a
      · subst c
        rw [if_pos rfl]
        have q1 := neg_mod (L := r.length) (x := (t : Int) + g) (b := (T : Int)) hL (by omega) (by omega)
        have q2 := neg_mod (L := r.length) (x := (T : Int) + g) (b := (t : Int)) hL (by omega) (by omega)
        have ee : (t : Int) + g + T = (T : Int) + g + t := by omega
        rw [ee] at q1
        have q := q1.trans q2.symm
        have e3 : -((T : Int) + g) = -(T : Int) - g := by omega
        rw [e3] at q
        by_cases c2 : t = ((-(T : Int) - g) % r.length).toNat
        · rw [if_pos c2, List.count_eq_countP]
          apply List.countP_congr
          intro x hx
          have := (h.ownA t a').2 x hx
          simp [okT] at this
          obtain ⟨x1, x2⟩ := x
          simp only [Function.comp, decide_eq_true_eq, Prod.mk.injEq, beq_iff_eq, and_true]
          simp only at this
          constructor
          · rintro ⟨z1, z2⟩
            subst z2
            obtain ⟨_, z3⟩ := cell_inj (L := r.length) (by omega) hb z1
            exact ⟨rfl, by omega⟩
          · rintro ⟨z1, z2⟩
            subst z1
            refine ⟨?_, rfl⟩
            unfold bK
            have : ((-((t : Int) + x1)) % r.length).toNat = T := by
              have := q.mpr (by omega)
              omega
            simp only
            rw [this, z2]
            simp
        · rw [if_neg c2, List.countP_eq_zero]
          intro x hx
          have := (h.ownA t a').2 x hx
          simp [okT] at this
          obtain ⟨x1, x2⟩ := x
          simp only [Function.comp, decide_eq_true_eq, Prod.mk.injEq]
          simp only at this
          rintro ⟨z1, z2, _⟩
          subst z2
          obtain ⟨z4, _⟩ := cell_inj (L := r.length) (by omega) hb z1
          apply c2
          have w := (bT_lt (L := r.length) hL ((t : Int) + x1)).2
          have z5 : ((-((t : Int) + x1)) % r.length).toNat = T := z4
          have := q.mp (by omega)
          omega
      · rw [if_neg c, List.countP_eq_zero]
        intro x hx
        simp only [Function.comp, decide_eq_true_eq, Prod.mk.injEq]
        rintro ⟨_, _, z⟩
        exact c (by omega)
  rw [sm_congr fun t ht => e1 t ht]
  rw [sm_ite (k := ((-(T : Int) - g) % r.length).toNat) (by omega) fun t => (ownAt r t a).count (g, (b : Int))]
  rfl
/-! ### its throws, one by one -/
theorem len_counts {n : Nat} {o : Own} (h : ∀ x ∈ o, okT n x = true) : o.length = sm 15 fun k => sm n fun a => o.count ((k : Int) + 1, (a : Int)) := by
  induction o with
  | nil => symm; exact sm_zero fun k _ => sm_zero fun a _ => rfl
  | cons x o ih =>
    have hx := h x (by simp)
    simp [okT] at hx
    have e : ∀ k a : Nat, (x :: o).count ((k : Int) + 1, (a : Int)) = o.count ((k : Int) + 1, (a : Int)) + if a = x.2.toNat then (if k = x.1.toNat - 1 then 1 else 0) else 0 := by
      intro k a
      rw [List.count_cons]
      congr 1
      obtain ⟨x1, x2⟩ := x
      simp only at hx
      by_cases c1 : a = x2.toNat
      · by_cases c2 : k = x1.toNat - 1
        · rw [if_pos c1, if_pos c2, if_pos]
          simp only [beq_iff_eq, Prod.mk.injEq]
          omega
        · rw [if_pos c1, if_neg c2, if_neg]
          simp only [beq_iff_eq, Prod.mk.injEq]
          omega
      · rw [if_neg c1, if_neg]
        simp only [beq_iff_eq, Prod.mk.injEq]
        omega
    have e2 : (sm 15 fun k => sm n fun a => (x :: o).count ((k : Int) + 1, (a : Int))) = (sm 15 fun k => sm n fun a => o.count ((k : Int) + 1, (a : Int))) + 1 := by
      rw [sm_congr (g := fun k => (sm n fun a => o.count ((k : Int) + 1, (a : Int))) + if k = x.1.toNat - 1 then 1 else 0) fun k _ => ?_]
      · rw [sm_add, sm_ite (k := x.1.toNat - 1) (by omega) fun _ => 1]
      · rw [sm_congr (g := fun a => o.count ((k : Int) + 1, (a : Int)) + if a = x.2.toNat then (if k = x.1.toNat - 1 then 1 else 0) else 0) fun a _ => e k a, sm_add, sm_ite (k := x.2.toNat) (by omega) fun _ => if k = x.1.toNat - 1 then 1 else 0]
    rw [e2, ← ih fun y hy => h y (by simp [hy])]
    simp
section
variable {n : Nat} {r : Row}
theorem b_ok (h : VR n r) (k : Nat) : ∀ x ∈ cAt (bC r n (prs r.length n)) k, okT n x = true := by
  intro x hx
  unfold bC at hx
  rw [cAt_puts _ _ (by
    intro p hp
    obtain ⟨p', _, z⟩ := List.mem_flatMap.mp hp
    simpa [noC] using bP_lt h p' p z), cAt_no, List.nil_append] at hx
  obtain ⟨q, hq, rfl⟩ := List.mem_map.mp hx
  obtain ⟨p, hp, hq⟩ := List.mem_flatMap.mp (List.mem_filter.mp hq).1
  obtain ⟨y, hy, rfl⟩ := List.mem_map.mp hq
  have := (h.ownA p.1 p.2).2 y hy
  have hp2 := prs_mem (t := p.1) (a := p.2) |>.mp hp
  simp [okT] at this ⊢
  omega
theorem b_len (h : VR n r) (hf : clashOf n r = none) {T b : Nat} (hT : T < r.length) (hb : b < n) : (cAt (bC r n (prs r.length n)) (T * n + b)).length = (ownZ r (-(T : Int)) b).length := by
  rw [len_counts (b_ok h _), (fits_iff h).mp hf _ b hb]
  unfold landZ
  refine sm_congr fun k _ => sm_congr fun a ha => ?_
  exact b_count h hT hb ha _
end
end J

namespace J
open PySem PySem.Spec PyProof.Rows L2
/-! ## what is in the air -/
abbrev Q4 := Int × Int × Int × Int
def eQ (q : Q4) : D := .tup [.int q.1, .int q.2.1, .int q.2.2.1, .int q.2.2.2]
def leQ (x y : Q4) : Bool := decide (x.1 < y.1) || (decide (x.1 = y.1) && (decide (x.2.1 < y.2.1) || (decide (x.2.1 = y.2.1) && (decide (x.2.2.1 < y.2.2.1) || (decide (x.2.2.1 = y.2.2.1) && decide (x.2.2.2 ≤ y.2.2.2))))))
def srQ (xs : List Q4) : List Q4 := xs.mergeSort leQ
/-- the throws of one beat, one line -/
def airO (o : Own) (t : Int) (a : Nat) (k : Nat) : List Q4 := (o.filter fun x => decide ((k : Int) < x.1)).map fun x => (t, (a : Int), x.1, x.2)
def airK (r : Row) (n : Nat) (beat : Int) (k : Nat) : List Q4 := (List.range n).flatMap fun a => airO (ownZ r (beat - k) a) (beat - k) a k
def air (r : Row) (n : Nat) (beat : Int) : List Q4 := (List.range 15).flatMap (airK r n beat)
theorem iadd_r {m : Nat} {S : Sto} {xs ys : List D} (h : S[m]? = some (.lst xs)) (hl : xs.length + ys.length ≤ 1000000) : gIAdd (.ref m) (.new ys) S = .ok (.ref m) (S.set m (.lst (xs ++ ys))) := by
  unfold gIAdd
  have : xs.length + ys.length ≤ sLim := by rw [sLim_eq]; omega
  simp [onRef_ref h, this]
end J

namespace J
open PySem PySem.Spec PyProof.Rows L2
/-! ## the air, time turned round -/
section
variable {n : Nat} {r : Row}
/-- all heights in the air -/
def hS (r : Row) (n : Nat) (beat : Int) : Int := ((air r n beat).map fun q => q.2.2.1).sum
end
/-! ## sorted whole numbers -/
/-! ## waits -/
/-! ## shares -/
end J

namespace J
open PySem PySem.Spec PyProof.Rows L2
/-! ## passes -/
def bumps (g : Grid) (ps : List (Nat × Nat)) : Grid := ps.foldl (fun g p => bump g p.1 p.2) g
theorem bumps_one (g : Grid) (ps : List (Nat × Nat)) (i j : Nat) : bumps g (ps ++ [(i, j)]) = bump (bumps g ps) i j := by simp [bumps]
theorem dim_bumps {l n : Nat} : ∀ (ps : List (Nat × Nat)) {g : Grid}, Dim l n g → Dim l n (bumps g ps)
  | [], _, h => h
  | p :: ps, _, h => dim_bumps ps (h.bump _ _)
theorem cell_bumps {l n i j : Nat} (hi : i < l) (hj : j < n) : ∀ (ps : List (Nat × Nat)) (g : Grid), Dim l n g → cellN (bumps g ps) i j = cellN g i j + (ps.countP fun p => decide (p = (i, j)) : Nat)
  | [], g, _ => by simp [bumps]
  | p :: ps, g, hd => by
    have e : bumps g (p :: ps) = bumps (bump g p.1 p.2) ps := rfl
    rw [e, cell_bumps hi hj ps _ (hd.bump _ _), cellN_bump hd _ _ hi hj, List.countP_cons]
    by_cases q : p = (i, j)
    · simp [q]; omega
    · have : ¬ (p.1, p.2) = (i, j) := q
      simp [q, this]
/-! ### entries -/
/-! ## round the clock -/
section
variable {n : Nat} {r : Row}
end
end J

namespace J
open PySem PySem.Spec PyProof.Rows L2
/-! ## states: what is due -/
section
variable {n : Nat} {r : Row}
end
end J

namespace J
open PySem PySem.Spec PyProof.Rows L2
/-! ## states as data -/
abbrev St := List (List Int)
def eL (c : List Int) : D := .tup (c.map .int)
def eS (s : St) : D := .tup (s.map eL)
def zr (c : List Int) : Bool := c.all (· == 0)
def trim (g : St) : St := (g.reverse.dropWhile zr).reverse
@[simp] theorem und_eL (m : Nat) (c : List Int) : (eL c).und m = true := und_tup (by intro x hx; obtain ⟨t, _, rfl⟩ := List.mem_map.mp hx; simp)
@[simp] theorem und_eS (m : Nat) (c : St) : (eS c).und m = true := und_tup (by intro x hx; obtain ⟨t, _, rfl⟩ := List.mem_map.mp hx; simp)
@[simp] theorem pl_eL (c : List Int) : (eL c).pl = true := pl_tup (by intro x hx; obtain ⟨t, _, rfl⟩ := List.mem_map.mp hx; simp)
@[simp] theorem pl_eS (c : St) : (eS c).pl = true := pl_tup (by intro x hx; obtain ⟨t, _, rfl⟩ := List.mem_map.mp hx; simp)
theorem dep_eL (c : List Int) : (eL c).dep ≤ 1 := dep_tup (by intro x hx; obtain ⟨t, _, rfl⟩ := List.mem_map.mp hx; simp)
theorem dep_eS (c : St) : (eS c).dep ≤ 2 := dep_tup (by intro x hx; obtain ⟨t, _, rfl⟩ := List.mem_map.mp hx; exact dep_eL _)
theorem eI_inj {a b : Int} (h : D.int a = D.int b) : a = b := by injection h
theorem eL_inj {a b : List Int} (h : eL a = eL b) : a = b := map_inj eI_inj (by simpa [eL] using h)
theorem eS_inj {a b : St} (h : eS a = eS b) : a = b := map_inj eL_inj (by simpa [eS] using h)
theorem eq_eS (a b : St) (S : Sto) : gEq (eS a) (eS b) S = .ok (.bl (decide (a = b))) S := gEq_pl S (by simp) (by simp) (Nat.le_trans (dep_eS _) (by omega)) (Nat.le_trans (dep_eS _) (by omega)) (by
  constructor
  · intro h; rw [of_decide_eq_true h]
  · intro h; exact decide_eq_true (eS_inj h))
theorem snoc_ind {α : Type} {P : List α → Prop} (h0 : P []) (h1 : ∀ g c, P g → P (g ++ [c])) (g : List α) : P g := by
  have : ∀ xs : List α, P xs.reverse := by
    intro xs
    induction xs with
    | nil => exact h0
    | cons x xs ih => rw [List.reverse_cons]; exact h1 _ _ ih
  have := this g.reverse
  rwa [List.reverse_reverse] at this
theorem trim_snoc (g : St) (c : List Int) : trim (g ++ [c]) = if zr c = true then trim g else g ++ [c] := by
  unfold trim
  rw [List.reverse_append, List.reverse_singleton, List.singleton_append, List.dropWhile_cons]
  by_cases h : zr c = true
  · simp [h]
  · simp [h]
@[simp] theorem trim_nil : trim [] = [] := rfl
/-! ### cells -/
theorem zr_cell {c : List Int} (h : zr c = true) (a : Nat) : (c[a]?).getD 0 = 0 := by
  unfold zr at h
  rw [List.all_eq_true] at h
  cases e : c[a]? with
  | none => rfl
  | some x => simpa using h x (List.mem_of_getElem? e)
theorem cellN_snoc (g : St) (c : List Int) (k a : Nat) : cellN (g ++ [c]) k a = if k = g.length then (c[a]?).getD 0 else cellN g k a := by
  unfold cellN
  by_cases h : k = g.length
  · subst h; simp
  · rw [if_neg h]
    by_cases h2 : k < g.length
    · rw [List.getElem?_append_left h2]
    · have e1 : (g ++ [c])[k]? = none := by simp; omega
      have e2 : g[k]? = none := by simp; omega
      rw [e1, e2]
theorem cellN_out {g : St} {k : Nat} (h : g.length ≤ k) (a : Nat) : cellN g k a = 0 := by
  unfold cellN
  have e2 : g[k]? = none := by simp; omega
  rw [e2]; rfl
theorem cellN_trim (g : St) (k a : Nat) : cellN (trim g) k a = cellN g k a := by
  induction g using snoc_ind with
  | h0 => rfl
  | h1 g c ih =>
    rw [trim_snoc]
    split
    · rename_i h
      rw [ih, cellN_snoc]
      split
      · rename_i e
        rw [zr_cell h, cellN_out (by omega)]
      · rfl
    · rfl
theorem trim_mem {g : St} {c : List Int} (h : c ∈ trim g) : c ∈ g := by
  unfold trim at h
  rw [List.mem_reverse] at h
  exact List.mem_reverse.mp ((List.dropWhile_sublist _).mem h)
theorem trim_len (g : St) : (trim g).length ≤ g.length := by
  unfold trim
  rw [List.length_reverse]
  exact Nat.le_trans (List.dropWhile_sublist _).length_le (by simp)
/-- no noughts at the end -/
def Tr (s : St) : Prop := ∀ g c, s = g ++ [c] → zr c = false
theorem tr_trim (g : St) : Tr (trim g) := by
  induction g using snoc_ind with
  | h0 => intro g c h; simp at h
  | h1 g c ih =>
    rw [trim_snoc]
    split
    · exact ih
    · rename_i h
      intro g' c' e
      have := List.append_inj' e rfl
      simp at this
      rw [← this.2]
      simpa using h
theorem Tr.trim {s : St} (h : Tr s) : trim s = s := by
  induction s using snoc_ind with
  | h0 => rfl
  | h1 g c ih => rw [trim_snoc, h g c rfl]; rfl
theorem zr_false {c : List Int} (h : zr c = false) : ∃ a, a < c.length ∧ (c[a]?).getD 0 ≠ 0 := by
  unfold zr at h
  rw [List.all_eq_false] at h
  obtain ⟨x, hx, hn⟩ := h
  obtain ⟨a, ha, e⟩ := List.getElem_of_mem hx
  exact ⟨a, ha, by simpa [ha, e] using hn⟩
theorem st_len {n : Nat} {s s' : St} (t : Tr s) (e : ∀ k a, cellN s k a = cellN s' k a) : s.length ≤ s'.length := by
  induction s using snoc_ind with
  | h0 => simp
  | h1 g c _ =>
    obtain ⟨a, _, ha⟩ := zr_false (t g c rfl)
    have := e g.length a
    rw [cellN_snoc, if_pos rfl] at this
    by_cases h : g.length < s'.length
    · rw [List.length_append, List.length_singleton]; exact h
    · rw [cellN_out (by omega)] at this
      exact absurd this ha
theorem st_ext {n : Nat} {s s' : St} (w : ∀ c ∈ s, c.length = n) (w' : ∀ c ∈ s', c.length = n) (t : Tr s) (t' : Tr s') (e : ∀ k a, cellN s k a = cellN s' k a) : s = s' := by
  have l1 := st_len (n := n) t e
  have l2 := st_len (n := n) t' fun k a => (e k a).symm
  apply List.ext_getElem
  · omega
  · intro k h1 h2
    have n1 := w _ (List.getElem_mem h1)
    have n2 := w' _ (List.getElem_mem h2)
    apply List.ext_getElem
    · omega
    · intro a h3 h4
      have := e k a
      unfold cellN at this
      simpa [h1, h2, h3, h4] using this
theorem grid_ext {l n : Nat} {g g' : Grid} (d : Dim l n g) (d' : Dim l n g') (e : ∀ k a, k < l → a < n → cellN g k a = cellN g' k a) : g = g' := by
  apply List.ext_getElem
  · rw [d.1, d'.1]
  · intro k h1 h2
    have n1 := d.2 _ (List.getElem_mem h1)
    have n2 := d'.2 _ (List.getElem_mem h2)
    apply List.ext_getElem
    · omega
    · intro a h3 h4
      have := e k a (by rw [← d.1]; exact h1) (by omega)
      unfold cellN at this
      simpa [h1, h2, h3, h4] using this
/-! ### rows of numbers -/
def RowsOf (S : Sto) (d : D) (g : St) : Prop := ∃ f : Nat → D, d = .new ((List.range g.length).map f) ∧ ∀ i (h : i < g.length), gTuple [f i] S = .ok (eL g[i]) S
theorem RowsOf.grid {S : Sto} {g : Grid} {l : Nat} (h : g.length = l) : RowsOf (S ++ stG g) (rfs S.length l) g :=
  ⟨fun t => .ref (S.length + t), by rw [h]; rfl, fun i hi => by rw [gTuple_r (stG_at hi)]; rfl⟩
theorem RowsOf.data {S : Sto} {g : St} : RowsOf S (.new (g.map fun c => .new (c.map .int))) g :=
  ⟨fun i => .new ((g[i]?.getD []).map .int), by
    congr 1
    apply List.ext_getElem
    · simp
    · intro i h1 h2
      simp at h1
      simp [h1], fun i hi => by simp [hi, eL]⟩
theorem rows_comp {S : Sto} {d : D} {g : St} (h : RowsOf S d g) (hl : g.length ≤ 1000) {i j : Nat} {env : Env} (hi : env[i]? = some (some d)) (hj : j < env.length) :
    cFor (iSeq (eVar i)) (gName j) tYesD [j] (cElt (eCall gTuple (aCons (eVar j) aNil))) env [] S = .ok (g.map eL) S := by
  obtain ⟨f, rfl, hf⟩ := h
  rw [cFor_fix (ds := (List.range g.length).map f) (S1 := S) (by simp [hi]), cL_map f (fun i => eL (g[i]?.getD [])) (List.range g.length) [] (by rw [sLim_eq]; simp; omega) ?_]
  · simp only [List.nil_append, R.nox_ok]
    congr 1
    apply List.ext_getElem
    · simp
    · intro k h1 h2
      simp at h1 h2
      simp [h2]
  · intro k hk
    have hk : k < g.length := by simpa using hk
    have hj' : j < (wipeE env [j]).length := by rw [wipeE_length]; exact hj
    refine ⟨(wipeE env [j]).set j (some (f k)), by simp, by simp, ?_⟩
    have := hf k hk
    simp [hj', this, hk]
theorem gAny_t (c : List Int) (S : Sto) : gAny [eL c] S = .ok (.bl (!zr c)) S := by
  have : c.any (· != 0) = !zr c := by
    unfold zr
    rw [List.not_all_eq_any_not]
    rfl
  simp [gAny, eL, onTup_tup, this]
theorem last_ix {α : Type} (g : List α) (c : α) : atI (g ++ [c]) (-1) = some c := by
  have : ixN (g ++ [c]).length (-1) = some g.length := by
    unfold ixN
    simp
    omega
  unfold atI
  rw [this]
  simp
theorem ne_nil_r {n : Nat} {S : Sto} {g : St} (h : S[n]? = some (.lst (g.map eL))) : gNe (.ref n) (.new []) S = .ok (.bl (!g.isEmpty)) S := by
  unfold gNe
  have e : derf S (.ref n) = .new (g.map eL) := by simp [derf, h]
  have e2 : derf S (.new []) = .new [] := rfl
  rw [e, e2, if_pos ⟨Nat.le_trans (dep_new (k := 1) (by intro x hx; obtain ⟨c, _, rfl⟩ := List.mem_map.mp hx; exact dep_eL c)) (by omega), by simp [D.dep, D.deps]⟩]
  cases g with
  | nil => simp [D.eqv, D.eqvs]
  | cons c g => simp [D.eqv, D.eqvs]
theorem ne_nil_n (g : St) (S : Sto) : gNe (.new (g.map eL)) (.new []) S = .ok (.bl (!g.isEmpty)) S := by
  unfold gNe
  have e : derf S (.new (g.map eL)) = .new (g.map eL) := rfl
  have e2 : derf S (.new []) = .new [] := rfl
  rw [e, e2, if_pos ⟨Nat.le_trans (dep_new (k := 1) (by intro x hx; obtain ⟨c, _, rfl⟩ := List.mem_map.mp hx; exact dep_eL c)) (by omega), by simp [D.dep, D.deps]⟩]
  cases g with
  | nil => simp [D.eqv, D.eqvs]
  | cons c g => simp [D.eqv, D.eqvs]
/-! ### trimmed -/
theorem trim_while (S : Sto) (d0 : D) (o2 : Option D) : ∀ (g : St) (fuel : Nat), g.length < fuel →
    whGo (tAndD (tBool (eOp gNe (eVar 1) (eNew (aCall gDisp aNil)))) (tNotD (tBool (eCall gAny (aCons (eOp gIx (eVar 1) (eUn gNeg (eC (.int 1)))) aNil))))) (sExpr (eMethL gPop (eVar 1) aNil)) fuel [some d0, some (.ref S.length), o2] (S ++ [.lst (g.map eL)]) =
      .nx [some d0, some (.ref S.length), o2] (S ++ [.lst ((trim g).map eL)]) := by
  intro g
  have z0 : (0 : Nat) ≤ sLim := Nat.zero_le _
  induction g using snoc_ind with
  | h0 =>
    intro fuel hf
    obtain ⟨fuel, rfl⟩ : ∃ k, fuel = k + 1 := ⟨fuel - 1, by omega⟩
    unfold whGo
    have e := ne_nil_r (S := S ++ [.lst []]) (n := S.length) (g := []) (by simp)
    simp at e
    simp [z0, e]
  | h1 g c ih =>
    intro fuel hf
    simp at hf
    obtain ⟨fuel, rfl⟩ : ∃ k, fuel = k + 1 := ⟨fuel - 1, by omega⟩
    unfold whGo
    have hat : (S ++ [O.lst ((g ++ [c]).map eL)])[S.length]? = some (.lst ((g ++ [c]).map eL)) := by simp
    have e1 := ne_nil_r hat
    have e2 : gIx (.ref S.length) (.int (-1)) (S ++ [O.lst ((g ++ [c]).map eL)]) = .ok (eL c) (S ++ [O.lst ((g ++ [c]).map eL)]) := gIx_r hat (by rw [List.map_append]; exact last_ix _ _)
    rw [trim_snoc]
    have en : (g ++ [c]).isEmpty = false := by simp
    rw [en] at e1
    simp only [tAndD_d, tBool_d, eOp_d, eVar_d, List.getElem?_cons_succ, List.getElem?_cons_zero, R.bind_ok, eNew_d, aCall_d, aNil_d, gDisp_d, List.length_nil, z0, if_true, e1, toB_bl, Bool.not_false, tNotD_d, eCall_d, aCons_d, eUn_d, eC_d, gNeg_i, e2, gAny_t, Bool.not_not, R.st_ok]
    by_cases hz : zr c = true
    · simp only [hz, if_true]
      obtain ⟨d, e3⟩ := gPop_r (n := S.length) (S := S ++ [O.lst ((g ++ [c]).map eL)]) hat (by simp)
      have e4 : (S ++ [O.lst ((g ++ [c]).map eL)]).set S.length (.lst ((g ++ [c]).map eL).dropLast) = S ++ [.lst (g.map eL)] := by simp
      rw [e4] at e3
      simp only [sExpr_d, eMethL_d, eVar_d, List.getElem?_cons_succ, List.getElem?_cons_zero, R.bind_ok, lstTy_ref, aNil_d, e3, R.st_ok, RS.loop_nx]
      exact ih fuel (by omega)
    · simp only [hz, if_false]
      simp
theorem trimmed_ok {S : Sto} {d : D} {g : St} (h : RowsOf S d g) (hl : g.length ≤ 100) : G_trimmed [d] S = .ok (eS (trim g)) S := by
  rw [G_trimmed_eq, F_trimmed]
  have c := rows_comp h (by omega) (i := 0) (j := 2) (env := [some d, none, none]) rfl (by simp)
  simp only [sSeq_d, sAsg_d, eAlloc_d, aComp_d, c, R.bind_ok, R.st_ok, gName_d, gSt_ok, RS.next_nx, List.set_cons_succ, List.set_cons_zero]
  unfold sWhile
  rw [trim_while S d none g 200 (by omega)]
  have hat : (S ++ [O.lst ((trim g).map eL)])[S.length]? = some (.lst ((trim g).map eL)) := by simp
  simp only [RS.next_nx, sRet_d, eCall_d, aCons_d, eVar_d, List.getElem?_cons_succ, List.getElem?_cons_zero, R.bind_ok, aNil_d, gTuple_r hat, R.st_ok, fnR_rt]
  exact gc_pure (Frz.of_below (und_eS _ _))
theorem max_zr {c : List Int} (h0 : 0 < c.length) (hp : ∀ x ∈ c, 0 ≤ x) : decide (maxI c = 0) = zr c := by
  rw [Bool.eq_iff_iff]
  unfold zr
  rw [List.all_eq_true]
  simp only [decide_eq_true_eq, beq_iff_eq]
  constructor
  · intro e x hx
    have := maxI_ge hx
    have := hp x hx
    omega
  · intro e
    exact e _ (maxI_mem h0)
theorem gMax_t (c : List Int) (S : Sto) (h0 : 0 < c.length) : gMax [eL c] S = .ok (.int (maxI c)) S := by
  simp [gMax, eL, onTup_tup, h0]
theorem law_state_while (S : Sto) (d0 : D) (o2 : Option D) : ∀ (g : St) (fuel : Nat), g.length < fuel → (∀ c ∈ g, 0 < c.length ∧ ∀ x ∈ c, 0 ≤ x) →
    whGo (tAndD (tBool (eOp gNe (eVar 1) (eNew (aCall gDisp aNil)))) (tBool (eOp gEq (eCall gMax (aCons (eOp gIx (eVar 1) (eUn gNeg (eC (.int 1)))) aNil)) (eC (.int 0))))) (sAsg (eSl (eVar 1) pNone (pSome (eUn gNeg (eC (.int 1))))) (gName 1)) fuel [some d0, some (.new (g.map eL)), o2] S =
      .nx [some d0, some (.new ((trim g).map eL)), o2] S := by
  intro g
  have z0 : (0 : Nat) ≤ sLim := Nat.zero_le _
  induction g using snoc_ind with
  | h0 =>
    intro fuel hf _
    obtain ⟨fuel, rfl⟩ : ∃ k, fuel = k + 1 := ⟨fuel - 1, by omega⟩
    unfold whGo
    have e := ne_nil_n [] S
    simp at e
    simp [z0, e]
  | h1 g c ih =>
    intro fuel hf hp
    simp at hf
    obtain ⟨fuel, rfl⟩ : ∃ k, fuel = k + 1 := ⟨fuel - 1, by omega⟩
    unfold whGo
    have e1 := ne_nil_n (g ++ [c]) S
    have e2 : gIx (.new ((g ++ [c]).map eL)) (.int (-1)) S = .ok (eL c) S := gIx_n (by rw [List.map_append]; exact last_ix _ _)
    rw [trim_snoc]
    have en : (g ++ [c]).isEmpty = false := by simp
    rw [en] at e1
    have hc := hp c (by simp)
    simp only [tAndD_d, tBool_d, eOp_d, eVar_d, List.getElem?_cons_succ, List.getElem?_cons_zero, R.bind_ok, eNew_d, aCall_d, aNil_d, gDisp_d, List.length_nil, z0, if_true, e1, toB_bl, Bool.not_false, eCall_d, aCons_d, eUn_d, eC_d, gNeg_i, e2, gMax_t c S hc.1, gEq_i, max_zr hc.1 hc.2, R.st_ok]
    by_cases hz : zr c = true
    · simp only [hz, if_true]
      have e3 : cutD ((g ++ [c]).map eL) none (some (-1)) = g.map eL := by
        unfold cutD HT.sIx
        simp
        rw [show (-1 + ((g.length : Int) + 1)).toNat = (g.map eL).length by simp; omega, List.take_left]
      simp only [sAsg_d, eSl_d, eVar_d, List.getElem?_cons_succ, List.getElem?_cons_zero, R.bind_ok, pNone_d, pSome_d, eUn_d, eC_d, gNeg_i, toI_int, gSl, lstOf_new, e3, R.st_ok, gName_d, gSt_ok, RS.loop_nx, List.set_cons_succ, List.set_cons_zero]
      exact ih fuel (by omega) fun c hc => hp c (by simp [hc])
    · simp only [hz, if_false]
      simp
theorem law_state_ok {S : Sto} {d : D} {g : St} (h : RowsOf S d g) (hl : g.length ≤ 100) (hp : ∀ c ∈ g, 0 < c.length ∧ ∀ x ∈ c, 0 ≤ x) : G_law_state [d] S = .ok (eS (trim g)) S := by
  rw [G_law_state_eq, F_law_state]
  have c := rows_comp h (by omega) (i := 0) (j := 2) (env := [some d, none, none]) rfl (by simp)
  simp only [sSeq_d, sAsg_d, eNew_d, aComp_d, c, R.bind_ok, R.st_ok, gName_d, gSt_ok, RS.next_nx, List.set_cons_succ, List.set_cons_zero]
  unfold sWhile
  rw [law_state_while S d none g 200 (by omega) hp]
  simp only [RS.next_nx, sRet_d, eCall_d, aCons_d, eVar_d, List.getElem?_cons_succ, List.getElem?_cons_zero, R.bind_ok, aNil_d, gTuple_n, R.st_ok, fnR_rt]
  exact gc_same (und_eS _ _)
end J

namespace J
open PySem PySem.Spec PyProof.Rows L2
/-! ## the state ahead of a row -/
def bO (c : Int) (o : Own) : List (Nat × Nat) := (o.filter fun x => decide (c ≤ x.1)).map fun x => ((x.1 - c).toNat, x.2.toNat)
def zeG (l n : Nat) : Grid := List.replicate l (List.replicate n 0)
theorem bO_count {n : Nat} {o : Own} (h : ∀ x ∈ o, okT n x = true) (c : Int) (k a : Nat) : (bO c o).countP (fun p => decide (p = (k, a))) = o.count (c + (k : Int), (a : Int)) := by
  unfold bO
  rw [List.countP_map, List.countP_filter, List.count_eq_countP]
  refine List.countP_congr fun x hx => ?_
  have := h x hx
  simp [okT] at this
  obtain ⟨x1, x2⟩ := x
  simp only at this
  simp only [Function.comp, Bool.and_eq_true, decide_eq_true_eq, Prod.mk.injEq, beq_iff_eq]
  omega
theorem bounds_bO {n : Nat} {o : Own} (h : ∀ x ∈ o, okT n x = true) {c : Int} (hc : 1 ≤ c) {x : Thr} (hx : x ∈ o) (hcx : c ≤ x.1) : (x.1 - c).toNat < 15 ∧ x.2.toNat < n ∧ (((x.1 - c).toNat : Nat) : Int) = x.1 - c ∧ ((x.2.toNat : Nat) : Int) = x.2 := by
  have := h x hx
  simp [okT] at this
  omega
end J

namespace J
open PySem PySem.Spec PyProof.Rows L2
/-! ### states of a row -/
end J

namespace J
open PySem PySem.Spec PyProof.Rows L2
structure IsSt (n : Nat) (s : St) : Prop where
  w : ∀ c ∈ s, c.length = n
  p : ∀ c ∈ s, ∀ x ∈ c, 0 ≤ x
  m : ∀ c ∈ s, ∀ x ∈ c, x ≤ 4
  l : s.length ≤ 15
  t : Tr s
theorem cell_mem {s : St} {k a : Nat} (h : cellN s k a ≠ 0) : ∃ c ∈ s, cellN s k a ∈ c := by
  unfold cellN at h ⊢
  cases e : s[k]? with
  | none => rw [e] at h; simp at h
  | some c =>
    rw [e] at h
    simp only [Option.getD_some] at h ⊢
    cases e2 : c[a]? with
    | none => rw [e2] at h; simp at h
    | some x => exact ⟨c, List.mem_of_getElem? e, by simpa using List.mem_of_getElem? e2⟩
theorem IsSt.cell {n : Nat} {s : St} (h : IsSt n s) (k a : Nat) : 0 ≤ cellN s k a ∧ cellN s k a ≤ 4 := by
  by_cases q : cellN s k a = 0
  · omega
  · obtain ⟨c, hc, hx⟩ := cell_mem q
    exact ⟨h.p c hc _ hx, h.m c hc _ hx⟩
theorem cell_at {s : St} {n k a : Nat} (w : ∀ c ∈ s, c.length = n) (hk : k < s.length) (ha : a < n) (S : Sto) : gIx (eS s) (.int (k : Nat)) S = .ok (eL (s[k]?.getD [])) S ∧ gIx (eL (s[k]?.getD [])) (.int (a : Nat)) S = .ok (.int (cellN s k a)) S := by
  have h2 : a < s[k].length := by rw [w _ (List.getElem_mem hk)]; exact ha
  refine ⟨gIx_t (atI_nat _ k (by simp [hk])), gIx_t (atI_nat _ a ?_)⟩
  unfold cellN
  simp [hk, h2]
theorem due_at_ok {n : Nat} {s : St} (w : ∀ c ∈ s, c.length = n) (k a : Nat) (ha : a < n) (S : Sto) : G_due_at [eS s, .int (k : Nat), .int (a : Nat)] S = .ok (.int (cellN s k a)) S := by
  rw [G_due_at_eq, F_due_at]
  have hl : gLen [eS s] S = .ok (.int s.length) S := by simp [eS]
  by_cases hk : k < s.length
  · obtain ⟨c1, c2⟩ := cell_at w hk ha S
    have : ((k : Int) < s.length) := by omega
    simp [hl, this, c1, c2]
  · have : ¬ ((k : Int) < s.length) := by omega
    rw [cellN_out (by omega)]
    simp [hl, this]
/-! ### is_state -/
theorem all_whole {c : List Int} {S : Sto} {env : Env} {i j : Nat} (hi : env[i]? = some (some (eL c))) (hj : j < env.length) (hc : c.length ≤ 1000) :
    cFor (iSeq (eVar i)) (gName j) tYesD [j] (cElt (eCall (fnG 3 G_is_whole) (aCons (eVar j) (aCons (eC (.int 0)) (aCons (eC (.int 4)) aNil))))) env [] S = .ok (c.map fun x => .bl (decide (0 ≤ x) && decide (x ≤ 4))) S := by
  rw [cFor_fix (ds := c.map .int) (S1 := S) (by simp [hi, eL]), cL_map D.int (fun x => .bl (decide (0 ≤ x) && decide (x ≤ 4))) c [] (by rw [sLim_eq]; simp; omega) ?_]
  · simp
  · intro x hx
    have hj' : j < (wipeE env [j]).length := by rw [wipeE_length]; exact hj
    refine ⟨(wipeE env [j]).set j (some (.int x)), by simp, by simp, ?_⟩
    simp [hj', is_whole_int]
def okC (c : List Int) : Bool := c.all fun x => decide (0 ≤ x) && decide (x ≤ 4)
theorem is_state_eq {n : Nat} {s : St} (hn : 1 ≤ n) (hn6 : n ≤ 6) (w : ∀ c ∈ s, c.length = n) (hl : s.length ≤ 15) (t : Tr s) (hp : ∀ c ∈ s, ∀ x ∈ c, 0 ≤ x) (S : Sto) : G_is_state [eS s, .int (n : Nat)] S = .ok (.bl (s.all okC)) S := by
  rw [G_is_state_eq, F_is_state]
  have hwn := is_whole_int (n : Int) 1 6 S
  have h1 : (1 : Int) ≤ n := by omega
  have h6 : (n : Int) ≤ 6 := by omega
  have hlen : gLen [eS s] S = .ok (.int s.length) S := by simp [eS]
  have h15 : ¬ (15 : Int) < s.length := by omega
  have hty : gIsi "tuple" (eS s) S = .ok (.bl true) S := by simp [eS]
  simp [hwn, h1, h6, hty, hlen, h15]
  rw [sFor_fix (ds := s.map eL) (S1 := S) (by simp [eS])]
  refine forL_find (fun z => gc S (fnR (RS.next z _)) = _) eL (fun c => if okC c = true then none else some ()) (fun _ => .bl false) (fun env => ∃ o2 o3, env = [some (eS s), some (.int (n : Nat)), o2, o3]) S s _ ⟨_, _, rfl⟩ ?_ ?_
  · rintro c hc env ⟨o2, o3, rfl⟩
    refine ⟨[some (eS s), some (.int (n : Nat)), some (eL c), o3], by simp, ?_⟩
    have hw := w c hc
    have aw := all_whole (c := c) (S := S) (env := [some (eS s), some (.int (n : Nat)), some (eL c), o3]) (i := 2) (j := 3) rfl (by simp) (by omega)
    have hlc : gLen [eL c] S = .ok (.int (n : Nat)) S := by simp [eL, hw]
    have htc : gIsi "tuple" (eL c) S = .ok (.bl true) S := by simp [eL]
    have ga : gAll [.new (c.map fun x => .bl (decide (0 ≤ x) && decide (x ≤ 4)))] S = .ok (.bl (okC c)) S := gAll_f c _ S
    simp only [sIf_d, tOrD_d, tNotD_d, tBool_d, eUn_d, eVar_d, List.getElem?_cons_succ, List.getElem?_cons_zero, R.bind_ok, htc, toB_bl, Bool.not_true, Bool.false_eq_true, if_false, eOp_d, eCall_d, aCons_d, aNil_d, hlc, gNe_i, decide_true, eNew_d, aComp_d, aw, ga, R.st_ok]
    by_cases q : okC c = true
    · simp [q, Fd]
    · simp [q, Fd]
  · intro r' hr
    have hfs : s.findSome? (fun c => if okC c = true then none else some ()) = if s.all okC = true then none else some () := by
      clear hr w hl t hp hlen h15 hty
      induction s with
      | nil => rfl
      | cons c s ih =>
        rw [List.findSome?_cons, List.all_cons]
        by_cases q : okC c = true
        · simp [q, ih]
        · simp [q]
    rw [hfs] at hr
    by_cases q : s.all okC = true
    · simp only [q, if_true] at hr ⊢
      obtain ⟨env, rfl, o2, o3, rfl⟩ := hr
      have et : eTup aNil [some (eS s), some (.int (n : Nat)), o2, o3] S = .ok (.tup []) S := by simp
      have eqn : gEq (eS s) (.tup []) S = .ok (.bl (decide (s = []))) S := eq_eS s [] S
      by_cases e : s = []
      · subst e
        simp [et, eqn]
      · obtain ⟨g, c, rfl⟩ : ∃ g c, s = g ++ [c] := ⟨s.dropLast, s.getLast e, (List.dropLast_concat_getLast e).symm⟩
        have lx : gIx (eS (g ++ [c])) (.int (-1)) S = .ok (eL c) S := gIx_t (by rw [List.map_append]; exact last_ix _ _)
        have hz := t g c rfl
        have hw := w c (by simp)
        have cf : cFor (iSeq (eOp gIx (eVar 0) (eUn gNeg (eC (.int 1))))) (gName 3) tYesD [3] (cElt (eOp gGt (eVar 3) (eC (.int 0)))) [some (eS (g ++ [c])), some (.int (n : Nat)), o2, o3] [] S = .ok (c.map fun x => .bl (decide (0 < x))) S := by
          rw [cFor_fix (ds := c.map .int) (S1 := S) (by simp only [iSeq_d, eOp_d, eVar_d, eUn_d, eC_d, List.getElem?_cons_zero, R.bind_ok, gNeg_i, lx]; simp [eL]), cL_map D.int (fun x => .bl (decide (0 < x))) c [] (by rw [sLim_eq]; simp; omega) ?_]
          · simp
          · intro x hx
            exact ⟨[some (eS (g ++ [c])), some (.int (n : Nat)), o2, some (.int x)], by simp [wipeE], by simp, by simp⟩
        have ga : gAny [.new (c.map fun x => .bl (decide (0 < x)))] S = .ok (.bl (c.any fun x => decide (0 < x))) S := gAny_f c _ S
        have hany : (c.any fun x => decide (0 < x)) = true := by
          obtain ⟨a, ha, hx⟩ := zr_false hz
          rw [List.any_eq_true]
          refine ⟨c[a], List.getElem_mem ha, ?_⟩
          have := hp c (by simp) c[a] (List.getElem_mem ha)
          simp [ha] at hx
          simp
          omega
        have e' : (g ++ [c] = []) = False := by simp
        simp only [RS.next_nx, sRet_d, eOr_d, eOp_d, eVar_d, List.getElem?_cons_zero, R.bind_ok, et, eqn, e', decide_false, toB_bl, Bool.false_eq_true, if_false, eCall_d, aCons_d, eNew_d, aComp_d, cf, aNil_d, ga, hany, R.st_ok, fnR_rt, gc_bl]
    · simp only [q, Bool.false_eq_true, if_false] at hr ⊢
      rw [hr]
      simp
theorem IsSt.okC {n : Nat} {s : St} (h : IsSt n s) : s.all okC = true := by
  rw [List.all_eq_true]
  intro c hc
  unfold J.okC
  rw [List.all_eq_true]
  intro x hx
  have := h.p c hc x hx
  have := h.m c hc x hx
  simp
  omega
theorem is_state_ok {n : Nat} {s : St} (hn : 1 ≤ n) (hn6 : n ≤ 6) (h : IsSt n s) (S : Sto) : G_is_state [eS s, .int (n : Nat)] S = .ok (.bl true) S := by
  rw [is_state_eq hn hn6 h.w h.l h.t h.p S, h.okC]
theorem look_state_ok {n : Nat} {s : St} (hn : 1 ≤ n) (hn6 : n ≤ 6) (h : IsSt n s) (S : Sto) : G_look_state [eS s, .int (n : Nat)] S = .ok .non S := by
  rw [G_look_state_eq, F_look_state]
  simp [is_state_ok hn hn6 h]
/-! ### the states of a row -/
end J

namespace J
open PySem PySem.Spec PyProof.Rows L2
/-! ## a beat thrown -/
def sfG (n : Nat) (s : St) : Grid := (List.range 15).map fun k => (List.range n).map fun a => cellN s (k + 1) a
def stpG (n : Nat) (s : St) (b : Beat) : Grid := bumps (sfG n s) (b.flatMap (bO 1))
def clA (s : St) (b : Beat) (a : Nat) : Option Nat := if (((b[a]?).getD []).length : Int) = cellN s 0 a then none else some a
def cl1 (n : Nat) (s : St) (b : Beat) : Option Nat := (List.range n).findSome? (clA s b)
def clK (g : Grid) (k a : Nat) : Option (Nat × Nat) := if cellN g k a ≤ 4 then none else some (k, a)
def cl2 (n : Nat) (g : Grid) : Option (Nat × Nat) := (List.range 15).findSome? fun k => (List.range n).findSome? (clK g k)
theorem dim_sfG (n : Nat) (s : St) : Dim 15 n (sfG n s) := ⟨by simp [sfG], fun c hc => by obtain ⟨k, _, rfl⟩ := List.mem_map.mp hc; simp⟩
theorem cell_sfG (n : Nat) (s : St) {k a : Nat} (hk : k < 15) (ha : a < n) : cellN (sfG n s) k a = cellN s (k + 1) a := by
  show ((((sfG n s)[k]?).getD [])[a]?).getD 0 = _
  simp [sfG, hk, ha]
theorem dim_stpG (n : Nat) (s : St) (b : Beat) : Dim 15 n (stpG n s b) := dim_bumps _ (dim_sfG n s)
theorem bOs_count {n : Nat} {b : Beat} (h : okB n b) (c : Int) (k a : Nat) : (b.flatMap (bO c)).countP (fun p => decide (p = (k, a))) = sm n fun a' => ((b[a']?).getD []).count (c + (k : Int), (a : Int)) := by
  rw [flatMap_range [] b (bO c), h.1, countP_flatMap_sm]
  refine sm_congr fun a' ha => bO_count (n := n) ?_ c k a
  have ha : a' < b.length := by rw [h.1]; exact ha
  simp only [List.getElem?_eq_getElem ha, Option.getD_some]
  exact (h.2 _ (List.getElem_mem ha)).2.1
@[simp] theorem enumSrc_r (n : Nat) (S : Sto) : enumSrc [.ref n] S = .ok (.enl n) S := Eq.trans rfl rfl
@[simp] theorem seqSrc_r (n : Nat) (S : Sto) : seqSrc (.ref n) S = .ok (.lst n) S := Eq.trans rfl rfl
/-- a loop over a list of the store that stays -/
theorem forGo_ref {g : CG} {body : CS} (src : Src) (ds : List D) (K : Sto → Prop) (hat : ∀ S, K S → ∀ i, src.at i S = some ds[i]?) (hg : ∀ d env S env1 S1, K S → g d env S = .ok env1 S1 → K S1)
    (hb : ∀ env S env' S', K S → (body env S = .nx env' S' ∨ body env S = .ct env' S') → K S') : ∀ (k i : Nat) (env : Env) (S : Sto), K S → k + i = ds.length → forGo src g body k i env S = forL g body (ds.drop i) env S
  | 0, i, env, S, hK, h => by
    have e : ds[i]? = none := List.getElem?_eq_none_iff.mpr (by omega)
    have e2 : ds.drop i = [] := List.drop_eq_nil_of_le (by omega)
    simp [forGo, hat S hK, e, e2, forL]
  | k + 1, i, env, S, hK, h => by
    have hi : i < ds.length := by omega
    have e : ds[i]? = some ds[i] := List.getElem?_eq_getElem hi
    rw [List.drop_eq_getElem_cons hi]
    simp only [forGo, hat S hK, e, forL]
    cases q : g ds[i] env S with
    | bad => rfl
    | exc x S1 => rfl
    | ok env1 S1 =>
      have hK1 := hg _ _ _ _ _ hK q
      simp only [RS.ofG_ok]
      cases q2 : body env1 S1 with
      | nx env2 S2 => simp only [RS.loop_nx]; exact forGo_ref src ds K hat hg hb k (i + 1) env2 S2 (hb _ _ _ _ hK1 (.inl q2)) (by omega)
      | ct env2 S2 => simp only [RS.loop_ct]; exact forGo_ref src ds K hat hg hb k (i + 1) env2 S2 (hb _ _ _ _ hK1 (.inr q2)) (by omega)
      | bk _ _ => rfl
      | rt _ _ => rfl
      | exc _ _ _ => rfl
      | bad => rfl
theorem sFor_enl {fi : CI} {g : CG} {body : CS} {env : Env} {S : Sto} {m : Nat} {xs : List D} (h : fi env S = .ok (.enl m) S) (hm : S[m]? = some (.lst xs)) (hg : ∀ d env env1 S1, g d env S = .ok env1 S1 → S1 = S)
    (hb : ∀ env env' S', (body env S = .nx env' S' ∨ body env S = .ct env' S') → S' = S) : sFor fi g body env S = forL g body (enumD xs) env S := by
  unfold sFor
  rw [h, R.st_ok]
  have hl : Src.len (.enl m) S = (enumD xs).length := by simp [Src.len, hm, enumD]
  rw [hl, forGo_ref (.enl m) (enumD xs) (fun S' => S' = S) (fun S' e i => by subst e; simp [Src.at, hm, enumD]) (fun d env S' env1 S1 e q => by subst e; exact hg _ _ _ _ q) (fun env S' env' S'' e q => by subst e; exact hb _ _ _ q) _ 0 env S rfl (by omega)]
  rfl
theorem cell_stpG {n : Nat} {b : Beat} (h : okB n b) (s : St) {k a : Nat} (hk : k < 15) (ha : a < n) : cellN (stpG n s b) k a = cellN s (k + 1) a + ((sm n fun a' => ((b[a']?).getD []).count ((k : Int) + 1, (a : Int)) : Nat) : Int) := by
  unfold stpG
  rw [cell_bumps hk ha _ _ (dim_sfG n s), cell_sfG n s hk ha, bOs_count h]
  congr 2
  refine sm_congr fun a' _ => ?_
  rw [Int.add_comm]
/-- the beat's own -/
theorem okB.own {n : Nat} {b : Beat} (h : okB n b) {a : Nat} (ha : a < n) : ∃ o, b[a]? = some o ∧ (b[a]?).getD [] = o ∧ okO n o := by
  have ha' : a < b.length := by rw [h.1]; exact ha
  exact ⟨b[a], List.getElem?_eq_getElem ha', by simp [ha'], h.2 _ (List.getElem_mem ha')⟩
theorem enum_beat' (b : Beat) : enumD (b.map eO) = (List.range b.length).map fun a => .tup [.int (a : Nat), eO ((b[a]?).getD [])] := by
  rw [enumD_map, zipIdx_range [] b, List.map_map]
  rfl
theorem flat_snoc {α β : Type} (f : α → List β) (xs : List α) (x : α) : (xs ++ [x]).flatMap f = xs.flatMap f ++ f x := by simp
theorem sf_comp {n : Nat} {s : St} (w : ∀ c ∈ s, c.length = n) (hn : n ≤ 6) (S : Sto) (d1 d2 : D) :
    cFor (iRng1D (aCons (eC (.int 15)) aNil)) (gName 7) tYesD [7] (cElt (eAlloc (aComp (cFor (iRng1D (aCons (eVar 3) aNil)) (gName 5) tYesD [5] (cElt (eCall (fnG 3 G_due_at) (aCons (eVar 0) (aCons (eOp gAdd (eVar 7) (eC (.int 1))) (aCons (eVar 5) aNil)))))))))
      [some (eS s), some d1, some d2, some (.int (n : Nat)), none, none, none, none, none, none, none, none] [] S = .ok ((List.range 15).map fun i => .ref (S.length + i)) (S ++ stG (sfG n s)) := by
  have hr : rng1 [.int 15] S = .ok (.fix ((List.range 15).map fun i => .int (i : Nat))) S := by simpa using rng1_n 15 S (by omega)
  rw [cFor_fix (ds := (List.range 15).map fun i => .int (i : Nat)) (S1 := S) (by simp [hr]), cL_alloc (fun i : Nat => .int (i : Nat)) (fun k => (List.range n).map fun a => .int (cellN s (k + 1) a)) (List.range 15) [] S (by rw [sLim_eq]; simp) ?_]
  · simp [stG, sfG, Function.comp_def]
  · intro k hk S
    refine ⟨[some (eS s), some d1, some d2, some (.int (n : Nat)), none, none, none, some (.int (k : Nat)), none, none, none, none], by simp [wipeE], ?_⟩
    refine comp_map (fun a : Nat => .int (a : Nat)) (fun a => .int (cellN s (k + 1) a)) (List.range n) (by simp only [iRng1_d, aCons_d, aNil_d, eVar_d, List.getElem?_cons_succ, List.getElem?_cons_zero, R.bind_ok, rng1_n n S (by omega)]) (by rw [sLim_eq]; simp; omega) fun a ha => ?_
    have ha : a < n := by simpa using ha
    refine ⟨[some (eS s), some d1, some d2, some (.int (n : Nat)), none, some (.int (a : Nat)), none, some (.int (k : Nat)), none, none, none, none], by simp [wipeE], ?_⟩
    have := due_at_ok w (k + 1) a ha S
    simp only [Int.natCast_add, Int.cast_ofNat_Int] at this
    simp [this]
def sE (n : Nat) (s : St) (b : Beat) (at_ : Int) (S : Sto) : Exn → Env → Sto → Prop := fun x _ S' => (∃ a, cl1 n s b = some a ∧ x = ⟨"Clash", [("line", .int (a : Nat)), ("beat", .int at_)]⟩) ∧ ∃ G, S' = S ++ G
theorem findSome_split {α β : Type} {f : α → Option β} {pre post : List α} {x : α} {y : β} (h : ∀ z ∈ pre, f z = none) (hx : f x = some y) : (pre ++ x :: post).findSome? f = some y := by
  rw [List.findSome?_append, List.findSome?_eq_none_iff.mpr h, Option.none_or, List.findSome?_cons, hx]
@[simp] theorem sRaiseC_d (f : CA) (env : Env) (S : Sto) : sRaiseC f env S = (f env S).st env fun ds S => match ds with | [x, y] => .exc ⟨"Clash", [("line", y), ("beat", x)]⟩ env S | _ => .bad := Eq.trans rfl rfl
theorem stepped_cps {n : Nat} {s : St} {b : Beat} (w : ∀ c ∈ s, c.length = n) (hn1 : 1 ≤ n) (hn : n ≤ 6) (hb : okB n b) (at_ : Int) (S : Sto) (P : R D → Prop)
    (h1 : ∀ a, cl1 n s b = some a → ∀ G, P (.exc ⟨"Clash", [("line", .int (a : Nat)), ("beat", .int at_)]⟩ (S ++ G)))
    (h2 : cl1 n s b = none → ∀ k a, cl2 n (stpG n s b) = some (k, a) → ∀ G, P (.exc ⟨"Clash", [("line", .int (a : Nat)), ("beat", .int (at_ + (k : Nat) + 1))]⟩ (S ++ G)))
    (h3 : cl1 n s b = none → cl2 n (stpG n s b) = none → P (.ok (eS (trim (stpG n s b))) S)) : P (G_stepped [eS s, eB b, .int at_] S) := by
  rw [G_stepped_eq, F_stepped]
  have hlb : gLen [eB b] S = .ok (.int (n : Nat)) S := by simp [eB, hb.1]
  have cz := sf_comp w hn S (eB b) (.int at_)
  simp only [sSeq_d, sAsg_d, eCall_d, aCons_d, eVar_d, aNil_d, List.getElem?_cons_succ, List.getElem?_cons_zero, R.bind_ok, hlb, R.st_ok, gName_d, gSt_ok, RS.next_nx, List.set_cons_succ, List.set_cons_zero, eNew_d, aComp_d]
  rw [cz]
  simp only [sSeq_d, R.bind_ok, R.st_ok, gName_d, gSt_ok, RS.next_nx, List.set_cons_succ, List.set_cons_zero]
  rw [sFor_fix (ds := enumD (b.map eO)) (S1 := S ++ stG (sfG n s)) (by simp [eB]), enum_beat', hb.1]
  refine forL_X (fun z => P (gc S (fnR (RS.next z _)))) (fun a : Nat => .tup [.int (a : Nat), eO ((b[a]?).getD [])]) (fun pre env S' => (∀ z ∈ pre, clA s b z = none) ∧ S' = S ++ stG (bumps (sfG n s) (pre.flatMap fun a => bO 1 ((b[a]?).getD []))) ∧ ∃ o5 o6 o7 o8 o9 o10 o11, env = [some (eS s), some (eB b), some (.int at_), some (.int (n : Nat)), some (rfs S.length 15), o5, o6, o7, o8, o9, o10, o11]) (sE n s b at_ S) (List.range n)
    ⟨fun z hz => (nomatch hz), rfl, _, _, _, _, _, _, _, rfl⟩ ?_ ?_ ?_
  · rintro pre a post env S' hx ⟨hpre, rfl, o5, o6, o7, o8, o9, o10, o11, rfl⟩
    have ha : a < n := by simpa using mem_of_split hx
    obtain ⟨o, ho, ho', hok⟩ := hb.own ha
    rw [ho']
    generalize hP : pre.flatMap (fun a => bO 1 ((b[a]?).getD [])) = P0
    refine ⟨[some (eS s), some (eB b), some (.int at_), some (.int (n : Nat)), some (rfs S.length 15), some (.int (a : Nat)), some (eO o), o7, o8, o9, o10, o11], S ++ stG (bumps (sfG n s) P0), by simp, ?_⟩
    have hlo : ∀ S, gLen [eO o] S = .ok (.int (o.length : Nat)) S := fun S => by simp [eO]
    have hdu := due_at_ok w 0 a ha (S ++ stG (bumps (sfG n s) P0))
    simp only [Int.ofNat_zero, Int.cast_ofNat_Int] at hdu
    by_cases c : ((o.length : Nat) : Int) = cellN s 0 a
    · have hcl : clA s b a = none := by unfold clA; rw [ho', if_pos c]
      have tst : sIf (tBool (eOp gNe (eCall gLen (aCons (eVar 6) aNil)) (eCall (fnG 3 G_due_at) (aCons (eVar 0) (aCons (eC (.int 0)) (aCons (eVar 5) aNil)))))) (sRaiseC (aCons (eVar 2) (aCons (eVar 5) aNil))) sNext [some (eS s), some (eB b), some (.int at_), some (.int (n : Nat)), some (rfs S.length 15), some (.int (a : Nat)), some (eO o), o7, o8, o9, o10, o11] (S ++ stG (bumps (sfG n s) P0)) = .nx [some (eS s), some (eB b), some (.int at_), some (.int (n : Nat)), some (rfs S.length 15), some (.int (a : Nat)), some (eO o), o7, o8, o9, o10, o11] (S ++ stG (bumps (sfG n s) P0)) := by
        simp [hlo, hdu, c]
      rw [sSeq_d, tst, RS.next_nx]
      refine own_loop (o := o) (by simp) (NE _ _) (fun q env S' => S' = S ++ stG (bumps (sfG n s) (P0 ++ bO 1 q)) ∧ ∃ o9 o10, env = [some (eS s), some (eB b), some (.int at_), some (.int (n : Nat)), some (rfs S.length 15), some (.int (a : Nat)), some (eO o), o7, o8, o9, o10, o11]) (fun _ _ _ => False) ⟨by simp [bO], _, _, rfl⟩ ?_ ?_ ?_
      · rintro q x q3 env S' hq ⟨rfl, o9, o10, rfl⟩
        have hd : Dim 15 n (bumps (sfG n s) (P0 ++ bO 1 q)) := dim_bumps _ (dim_sfG n s)
        have hxm : x ∈ o := by rw [hq]; simp
        have hx1 : (1 : Int) ≤ x.1 := by have := hok.2.1 x hxm; simp [okT] at this; omega
        obtain ⟨b1, b2, b3, b4⟩ := bounds_bO hok.2.1 (c := 1) (by omega) hxm hx1
        have eb : bumps (sfG n s) (P0 ++ bO 1 (q ++ [x])) = bump (bumps (sfG n s) (P0 ++ bO 1 q)) (x.1 - 1).toNat x.2.toNat := by
          have : bO 1 (q ++ [x]) = bO 1 q ++ [((x.1 - 1).toNat, x.2.toNat)] := by simp [bO, hx1]
          rw [this, ← List.append_assoc, bumps_one]
        generalize (x.1 - 1).toNat = kk at b1 b3 eb
        rw [eb]
        generalize bumps (sfG n s) (P0 ++ bO 1 q) = G at hd
        obtain ⟨hk2, hj2, l1, l2⟩ := ld_grid (S := S) hd b1 b2
        have ixg := rfs_ix (m := S.length) (L := 15) b1 (S ++ stG G)
        rw [b4] at l1 l2
        rw [b3] at ixg
        refine NE.nx (env := [some (eS s), some (eB b), some (.int at_), some (.int (n : Nat)), some (rfs S.length 15), some (.int (a : Nat)), some (eO o), o7, o8, some (.int x.1), some (.int x.2), o11]) (S := S ++ stG (bump G kk x.2.toNat)) ?_ ⟨rfl, _, _, rfl⟩
        rw [← bump_eq hk2 hj2]
        simp [ixg, l1, l2]
      · rintro env S' ⟨rfl, o9, o10, rfl⟩
        refine .inl (Nx.mk ⟨fun z hz => ?_, ?_, _, _, _, _, _, _, _, rfl⟩)
        · rcases List.mem_append.mp hz with hz | hz
          · exact hpre z hz
          · rw [List.mem_singleton.mp hz]; exact hcl
        · rw [flat_snoc, hP, ho']
      · rintro x env S' hx
        exact hx.elim
    · have hcl : clA s b a = some a := by unfold clA; rw [ho', if_neg c]
      refine NE.exc (x := ⟨"Clash", [("line", .int (a : Nat)), ("beat", .int at_)]⟩) (env := [some (eS s), some (eB b), some (.int at_), some (.int (n : Nat)), some (rfs S.length 15), some (.int (a : Nat)), some (eO o), o7, o8, o9, o10, o11]) (S := S ++ stG (bumps (sfG n s) P0)) ?_ ⟨⟨a, ?_, rfl⟩, _, rfl⟩
      · simp [hlo, hdu, c]
      · unfold cl1
        rw [hx]
        exact findSome_split hpre hcl
  · rintro env S' ⟨hall, rfl, o5, o6, o7, o8, o9, o10, o11, rfl⟩
    have hc1 : cl1 n s b = none := List.findSome?_eq_none_iff.mpr hall
    have eg : bumps (sfG n s) ((List.range n).flatMap fun a => bO 1 ((b[a]?).getD [])) = stpG n s b := by
      unfold stpG
      rw [flatMap_range [] b (bO 1), hb.1]
    rw [eg]
    have hd := dim_stpG n s b
    generalize stpG n s b = G at hd h2 h3 ⊢
    simp only [RS.next_nx, sSeq_d]
    have en15 : enumD ((List.range 15).map fun t => D.ref (S.length + t)) = (List.range 15).map fun k => .tup [.int (k : Nat), .ref (S.length + k)] := by
      unfold enumD
      apply List.ext_getElem
      · simp
      · intro i h1 h2; simp
    rw [sFor_fix (ds := (List.range 15).map fun k => .tup [.int (k : Nat), .ref (S.length + k)]) (S1 := S ++ stG G) (by
      simp only [iEnumD_d, aCons_d, aNil_d, eVar_d, List.getElem?_cons_succ, List.getElem?_cons_zero, R.bind_ok, rfs, enumSrc_n, en15])]
    refine forL_X (fun z => P (gc S (fnR (RS.next z _)))) (fun k : Nat => .tup [.int (k : Nat), .ref (S.length + k)]) (fun pre env S' => (∀ z ∈ pre, (List.range n).findSome? (clK G z) = none) ∧ S' = S ++ stG G ∧ ∃ o5 o6 o7 o8 o9 o10 o11, env = [some (eS s), some (eB b), some (.int at_), some (.int (n : Nat)), some (rfs S.length 15), o5, o6, o7, o8, o9, o10, o11])
      (fun x _ S' => (∃ k a, cl2 n G = some (k, a) ∧ x = ⟨"Clash", [("line", .int (a : Nat)), ("beat", .int (at_ + (k : Nat) + 1))]⟩) ∧ S' = S ++ stG G) (List.range 15) ⟨fun z hz => (nomatch hz), rfl, _, _, _, _, _, _, _, rfl⟩ ?_ ?_ ?_
    · rintro pre k post env S' hx ⟨hpre, rfl, o5, o6, o7, o8, o9, o10, o11, rfl⟩
      have hk : k < 15 := by simpa using mem_of_split hx
      have hkl : k < G.length := by rw [hd.1]; exact hk
      have hgl : G[k].length = n := hd.2 _ (List.getElem_mem hkl)
      refine ⟨[some (eS s), some (eB b), some (.int at_), some (.int (n : Nat)), some (rfs S.length 15), o5, o6, some (.int (k : Nat)), some (.ref (S.length + k)), o9, o10, o11], S ++ stG G, by simp, ?_⟩
      rw [sFor_enl (m := S.length + k) (xs := G[k].map .int) (by simp) (stG_at hkl) (fun d env env1 S1 q => ?_) (fun env env' S' q => ?_)]
      · have en : enumD (G[k].map .int) = (List.range n).map fun a => .tup [.int (a : Nat), .int (cellN G k a)] := by
          unfold enumD
          apply List.ext_getElem
          · simp [hgl]
          · intro i h1 h2
            have hi : i < G[k].length := by simpa using h1
            simp [cellN, hkl, hi]
        rw [en]
        refine forL_X (NE _ _) (fun a : Nat => .tup [.int (a : Nat), .int (cellN G k a)]) (fun p2 env S' => (∀ z ∈ p2, clK G k z = none) ∧ S' = S ++ stG G ∧ ∃ o5 o11, env = [some (eS s), some (eB b), some (.int at_), some (.int (n : Nat)), some (rfs S.length 15), o5, o6, some (.int (k : Nat)), some (.ref (S.length + k)), o9, o10, o11])
          (fun x _ S' => (∃ a, (List.range n).findSome? (clK G k) = some (k, a) ∧ x = ⟨"Clash", [("line", .int (a : Nat)), ("beat", .int (at_ + (k : Nat) + 1))]⟩) ∧ S' = S ++ stG G) (List.range n) ⟨fun z hz => (nomatch hz), rfl, _, _, rfl⟩ ?_ ?_ ?_
        · rintro p2 a q2 env S' hx2 ⟨hp2, rfl, o5, o11, rfl⟩
          refine ⟨[some (eS s), some (eB b), some (.int at_), some (.int (n : Nat)), some (rfs S.length 15), some (.int (a : Nat)), o6, some (.int (k : Nat)), some (.ref (S.length + k)), o9, o10, some (.int (cellN G k a))], S ++ stG G, by simp, ?_⟩
          by_cases c : cellN G k a ≤ 4
          · refine NE.nx (env := [some (eS s), some (eB b), some (.int at_), some (.int (n : Nat)), some (rfs S.length 15), some (.int (a : Nat)), o6, some (.int (k : Nat)), some (.ref (S.length + k)), o9, o10, some (.int (cellN G k a))]) (S := S ++ stG G) ?_ ⟨fun z hz => ?_, rfl, _, _, rfl⟩
            · have c' : ¬ 4 < cellN G k a := by omega
              simp [c']
            · rcases List.mem_append.mp hz with hz | hz
              · exact hp2 z hz
              · rw [List.mem_singleton.mp hz]; unfold clK; rw [if_pos c]
          · refine NE.exc (x := ⟨"Clash", [("line", .int (a : Nat)), ("beat", .int (at_ + (k : Nat) + 1))]⟩) (env := [some (eS s), some (eB b), some (.int at_), some (.int (n : Nat)), some (rfs S.length 15), some (.int (a : Nat)), o6, some (.int (k : Nat)), some (.ref (S.length + k)), o9, o10, some (.int (cellN G k a))]) (S := S ++ stG G) ?_ ⟨⟨a, ?_, rfl⟩, rfl⟩
            · have c' : 4 < cellN G k a := by omega
              simp [c']
            · rw [hx2]
              exact findSome_split hp2 (by unfold clK; rw [if_neg c])
        · rintro env S' ⟨hall2, rfl, o5, o11, rfl⟩
          refine .inl (Nx.mk ⟨fun z hz => ?_, rfl, _, _, _, _, _, _, _, rfl⟩)
          rcases List.mem_append.mp hz with hz | hz
          · exact hpre z hz
          · rw [List.mem_singleton.mp hz]; exact List.findSome?_eq_none_iff.mpr hall2
        · rintro x env S' ⟨⟨a, hfs, rfl⟩, rfl⟩
          refine .inr ⟨_, env, _, rfl, ⟨k, a, ?_, rfl⟩, rfl⟩
          unfold cl2
          rw [hx]
          exact findSome_split hpre hfs
      · have := q
        cases d with
        | tup ds =>
          match ds, q with
          | [x, y], q => simp at q; exact q.2.symm
          | [], q => simp at q
          | [_], q => simp at q
          | _ :: _ :: _ :: _, q => simp at q
        | _ => simp [gTup] at q
      · simp only [sIf_d, tBool_d, eOp_d, eVar_d, eC_d] at q
        cases e : env[11]? with
        | none => rw [e] at q; simp at q
        | some o =>
          cases o with
          | none => rw [e] at q; simp at q
          | some d =>
            rw [e] at q
            simp only [R.bind_ok] at q
            cases d with
            | int i =>
              simp only [gGt_i, R.bind_ok, toB_bl, R.st_ok] at q
              by_cases c : 4 < i
              · simp only [c, decide_true, if_true, sRaiseC_d, aCons_d, eOp_d, eVar_d, eC_d] at q
                cases e2 : env[2]? with
                | none => rw [e2] at q; simp at q
                | some o2 =>
                  cases o2 with
                  | none => rw [e2] at q; simp at q
                  | some d2 =>
                    rw [e2] at q
                    simp only [R.bind_ok] at q
                    cases e7 : env[7]? with
                    | none => rw [e7] at q; simp at q
                    | some o7 =>
                      cases o7 with
                      | none => rw [e7] at q; simp at q
                      | some d7 =>
                        rw [e7] at q
                        simp only [R.bind_ok] at q
                        cases e3 : gAdd d2 d7 (S ++ stG G) with
                        | bad => rw [e3] at q; simp at q
                        | exc _ _ => rw [e3] at q; simp at q
                        | ok d3 S3 =>
                          rw [e3] at q
                          simp only [R.bind_ok] at q
                          cases e4 : gAdd d3 (.int 1) S3 with
                          | bad => rw [e4] at q; simp at q
                          | exc _ _ => rw [e4] at q; simp at q
                          | ok d4 S4 =>
                            rw [e4] at q
                            simp only [R.bind_ok] at q
                            cases e5 : env[5]? with
                            | none => rw [e5] at q; simp at q
                            | some o5 =>
                              cases o5 with
                              | none => rw [e5] at q; simp at q
                              | some d5 => rw [e5] at q; simp at q
              · simp [c] at q; exact q.2.symm
            | _ => simp [gGt, int2] at q
    · rintro env S' ⟨hall2, rfl, o5, o6, o7, o8, o9, o10, o11, rfl⟩
      have hc2 : cl2 n G = none := List.findSome?_eq_none_iff.mpr hall2
      have tr := trimmed_ok (RowsOf.grid (S := S) (g := G) (l := 15) hd.1) (by rw [hd.1]; omega)
      have e : gc S (.ok (eS (trim G)) (S ++ stG G)) = .ok (eS (trim G)) S := gc_pure (Frz.of_below (und_eS _ _))
      simp only [RS.next_nx, sRet_d, eCall_d, aCons_d, eVar_d, List.getElem?_cons_succ, List.getElem?_cons_zero, R.bind_ok, aNil_d, fnG_d, List.length_cons, List.length_nil, if_true, tr, R.st_ok, fnR_rt, e]
      exact h3 hc1 hc2
    · rintro x env S' ⟨⟨k, a, hc, rfl⟩, rfl⟩
      simp
      exact h2 hc1 k a hc _
  · rintro x env S' ⟨⟨a, hc, rfl⟩, G, rfl⟩
    simp
    exact h1 a hc G
end J

namespace J
open PySem PySem.Spec PyProof.Rows L2
theorem step_cps {n : Nat} {s : St} {b : Beat} (h : IsSt n s) (hn1 : 1 ≤ n) (hn : n ≤ 6) (hb : okB n b) (S : Sto) (P : R D → Prop)
    (h1 : ∀ a, cl1 n s b = some a → ∀ G, P (.exc ⟨"Clash", [("line", .int (a : Nat)), ("beat", .int 0)]⟩ (S ++ G)))
    (h2 : cl1 n s b = none → ∀ k a, cl2 n (stpG n s b) = some (k, a) → ∀ G, P (.exc ⟨"Clash", [("line", .int (a : Nat)), ("beat", .int (0 + (k : Nat) + 1))]⟩ (S ++ G)))
    (h3 : cl1 n s b = none → cl2 n (stpG n s b) = none → P (.ok (eS (trim (stpG n s b))) S)) : P (G_step [eS s, eB b, .int (n : Nat)] S) := by
  rw [G_step_eq, F_step]
  have ln := look_number_ok (i := (n : Int)) (lo := 1) (hi := 6) ⟨by omega, by omega⟩ S
  simp only [sSeq_d, sExpr_d, eCall_d, aCons_d, eVar_d, eC_d, aNil_d, List.getElem?_cons_succ, List.getElem?_cons_zero, R.bind_ok, fnG_d, List.length_cons, List.length_nil, if_true, ln, R.st_ok, RS.next_nx, look_state_ok hn1 hn h, sIf_d, tNotD_d, tBool_d, is_beat_ok hb, toB_bl, Bool.not_true, Bool.false_eq_true, if_false, sNext_d, sRet_d]
  have e3 : gc S (.ok (eS (trim (stpG n s b))) S) = .ok (eS (trim (stpG n s b))) S := gc_same (und_eS _ _)
  refine stepped_cps h.w hn1 hn hb 0 S (fun z => P (gc S (fnR (z.st [some (eS s), some (eB b), some (.int (n : Nat))] fun d S => RS.rt d S)))) ?_ ?_ ?_
  · intro a ha G
    simp only [R.st_exc, fnR_exc, gc_exc]
    exact h1 a ha G
  · intro hc k a ha G
    simp only [R.st_exc, fnR_exc, gc_exc]
    exact h2 hc k a ha G
  · intro hc hc2
    simp only [R.st_ok, fnR_rt, e3]
    exact h3 hc hc2
/-! ### steps of a row -/
theorem VR.okB {n : Nat} {r : Row} (h : VR n r) {t : Nat} (ht : t < r.length) : okB n (r[t]?.getD []) := by
  simp only [List.getElem?_eq_getElem ht, Option.getD_some]
  exact h.beats _ (List.getElem_mem ht)
/-! ### run -/
/-! ### balls_in, ends_with -/
theorem flat_sum_trim (g : St) : (trim g).flatten.sum = g.flatten.sum := by
  induction g using snoc_ind with
  | h0 => rfl
  | h1 g c ih =>
    rw [trim_snoc]
    split
    · rename_i hz
      rw [ih, List.flatten_append, isum_append]
      have : ([c] : St).flatten.sum = 0 := by
        simp
        unfold zr at hz
        rw [List.all_eq_true] at hz
        clear ih
        induction c with
        | nil => rfl
        | cons x c ih2 =>
          rw [List.sum_cons, ih2 fun y hy => hz y (by simp [hy])]
          have := hz x (by simp)
          simp at this
          omega
      omega
    · rfl
theorem balls_in_ok {n : Nat} {s : St} (h : IsSt n s) (hn1 : 1 ≤ n) (hn : n ≤ 6) (S : Sto) : G_balls_in [eS s, .int (n : Nat)] S = .ok (.int s.flatten.sum) S := by
  rw [G_balls_in_eq, F_balls_in]
  have ln := look_number_ok (i := (n : Int)) (lo := 1) (hi := 6) ⟨by omega, by omega⟩ S
  have hl := h.l
  have len : ∀ s : St, (∀ c ∈ s, c.length = n) → s.flatten.length = s.length * n := by
    intro s
    induction s with
    | nil => intro _; simp
    | cons c s ih =>
      intro hw
      rw [List.flatten_cons, List.length_append, ih fun c hc => hw c (by simp [hc]), hw c (by simp), List.length_cons, Nat.succ_mul]
      omega
  have hfl := len s h.w
  have hfl2 : s.flatten.length ≤ 90 := by
    rw [hfl]
    exact Nat.mul_le_mul hl hn
  have cf : cFor (iSeq (eVar 0)) (gName 2) tYesD [2, 3] (cForI (iSeq (eVar 2)) (gName 3) tYesD [3] (cElt (eVar 3))) [some (eS s), some (.int (n : Nat)), none, none] [] S = .ok (s.flatten.map .int) S := by
    have e0 : s.flatten.map D.int = s.flatMap fun c => c.map D.int := by
      rw [List.map_flatten, List.flatMap_def]
    rw [cFor_fix (ds := s.map eL) (S1 := S) (by simp [eS]), cL_pure eL (fun c => c.map D.int) s [] (by rw [← e0, sLim_eq, List.length_nil, List.length_map]; omega) ?_]
    · simp [e0]
    · intro c hc acc hac
      have hcl := h.w c hc
      rw [cTurn_in (env1 := [some (eS s), some (.int (n : Nat)), some (eL c), none]) (ds := c.map .int) (by simp [wipeE]) (by simp [eL]), cL_map D.int D.int c acc (by simpa using hac) ?_]
      intro x hx
      exact ⟨[some (eS s), some (.int (n : Nat)), some (eL c), some (.int x)], by simp [wipeE], by simp, by simp⟩
  simp only [sSeq_d, sExpr_d, eCall_d, aCons_d, eVar_d, eC_d, aNil_d, List.getElem?_cons_succ, List.getElem?_cons_zero, R.bind_ok, fnG_d, List.length_cons, List.length_nil, if_true, ln, R.st_ok, RS.next_nx, look_state_ok hn1 hn h, sRet_d, eNew_d, aComp_d, cf, gSum_m, fnR_rt, gc_int]
end J

namespace J
open PySem PySem.Spec PyProof.Rows L2
/-! ## loops that may return -/
def NR (I : Env → Sto → Prop) (T : D → Sto → Prop) (rs : RS) : Prop := Nx I rs ∨ ∃ d S, rs = .rt d S ∧ T d S
theorem NR.nx {I : Env → Sto → Prop} {T : D → Sto → Prop} {rs : RS} {env : Env} {S : Sto} (h : rs = .nx env S) (hi : I env S) : NR I T rs := .inl (Nx.of h hi)
theorem NR.rt {I : Env → Sto → Prop} {T : D → Sto → Prop} {rs : RS} {d : D} {S : Sto} (h : rs = .rt d S) (hi : T d S) : NR I T rs := .inr ⟨d, S, h, hi⟩
theorem forL_preR {α : Type} {g : CG} {body : CS} (e : α → D) (I : List α → Env → Sto → Prop) (T : D → Sto → Prop) : ∀ (xs pre : List α) (env : Env) (S : Sto),
    (∀ a x b env S, pre ++ xs = a ++ x :: b → I a env S → ∃ env1 S1, g (e x) env S = .ok env1 S1 ∧ NR (I (a ++ [x])) T (body env1 S1)) → I pre env S →
    (∃ env' S', forL g body (xs.map e) env S = .nx env' S' ∧ I (pre ++ xs) env' S') ∨ ∃ d S', forL g body (xs.map e) env S = .rt d S' ∧ T d S'
  | [], pre, env, S, _, h => .inl ⟨env, S, rfl, by simpa using h⟩
  | x :: xs, pre, env, S, st, h => by
    obtain ⟨env1, S1, e1, hn⟩ := st pre x xs env S rfl h
    rcases hn with ⟨env2, S2, e2, h2⟩ | ⟨y, S2, e2, h2⟩
    · have ih := forL_preR e I T xs (pre ++ [x]) env2 S2 (fun a y b env S e => st a y b env S (by simpa using e)) h2
      have ee : forL g body ((x :: xs).map e) env S = forL g body (xs.map e) env2 S2 := by
        rw [List.map_cons]
        conv => lhs; unfold forL
        rw [e1, RS.ofG_ok]
        rcases e2 with e2 | e2 <;> rw [e2] <;> simp
      rw [ee]
      simpa using ih
    · refine .inr ⟨y, S2, ?_, h2⟩
      rw [List.map_cons]
      unfold forL
      rw [e1, RS.ofG_ok, e2]
      rfl
theorem forL_R {α : Type} {g : CG} {body : CS} {env : Env} {S : Sto} (P : RS → Prop) (e : α → D) (I : List α → Env → Sto → Prop) (T : D → Sto → Prop) (xs : List α) (h0 : I [] env S)
    (st : ∀ a x b env S, xs = a ++ x :: b → I a env S → ∃ env1 S1, g (e x) env S = .ok env1 S1 ∧ NR (I (a ++ [x])) T (body env1 S1))
    (hP : ∀ env' S', I xs env' S' → P (.nx env' S')) (hT : ∀ d S', T d S' → P (.rt d S')) : P (forL g body (xs.map e) env S) := by
  rcases forL_preR e I T xs [] env S (fun a x b env S e => st a x b env S (by simpa using e)) h0 with ⟨env', S', e3, h3⟩ | ⟨d, S', e3, h3⟩
  · rw [e3]; exact hP env' S' (by simpa using h3)
  · rw [e3]; exact hT d S' h3
/-! ## the law's step -/
theorem RowsOf.drop {S : Sto} {g : Grid} {l : Nat} (h : g.length = l) : RowsOf (S ++ stG g) (.new (((List.range l).map fun t => D.ref (S.length + t)).drop 1)) (g.drop 1) := by
  refine ⟨fun t => .ref (S.length + (t + 1)), ?_, fun i hi => ?_⟩
  · congr 1
    apply List.ext_getElem
    · simp [h]
    · intro i h1 h2
      simp
  · have hi' : i + 1 < g.length := by simp at hi; omega
    rw [gTuple_r (stG_at hi')]
    simp [eL, Nat.add_comm]
end J

namespace J
open PySem PySem.Spec PyProof.Rows L2
/-! ## counts in a dict -/
theorem dIx_cons (y : D) (ys : List D) (k : D) : dIx (y :: ys) k = if y.nk = k.nk then some 0 else (dIx ys k).map (· + 1) := by
  unfold dIx
  rw [List.findIdx?_cons]
  by_cases h : y.nk = k.nk <;> simp [h]
@[simp] theorem eDic0_d (env : Env) (S : Sto) : eDic0 env S = .ok (.rdc S.length) (S ++ [.dic [] []]) := Eq.trans rfl rfl
@[simp] theorem eMethD_d (g : D → List D → Sto → R D) (o : CE) (a : CA) (env : Env) (S : Sto) : eMethD g o a env S = (o env S).bind fun d S => (dicTy d S).bind fun d S => (a env S).bind fun xs S => g d xs S := Eq.trans rfl rfl
theorem dicTy_rd {n : Nat} {S : Sto} {ks vs : List D} (h : S[n]? = some (.dic ks vs)) : dicTy (.rdc n) S = .ok (.rdc n) S := by simp [dicTy, dicOf, h]
end J

namespace J
open PySem PySem.Spec PyProof.Rows L2
/-! ## rows of one line, one ball at a time: told by their heights -/
theorem Sgl.rot {r : Row} (h : Sgl r) (k : Nat) : Sgl (rot r k) := fun b hb => h b (mem_rot hb)
section
variable {r : Row}
/-! ### backwards -/
/-! ### holes -/
/-! ### counts of heights -/
end
end J

namespace J
open PySem PySem.Spec PyProof.Rows L2
/-! ## dicts whose keys are coded -/
section
variable {α : Type} [DecidableEq α]
def dd (xs : List α) : List α := xs.foldl (fun ks x => if x ∈ ks then ks else ks ++ [x]) []
theorem dd_snoc (xs : List α) (x : α) : dd (xs ++ [x]) = if x ∈ dd xs then dd xs else dd xs ++ [x] := by
  unfold dd
  rw [List.foldl_append]
  rfl
theorem mem_dd (xs : List α) : ∀ k, k ∈ dd xs ↔ k ∈ xs := by
  induction xs using snoc_ind with
  | h0 => simp [dd]
  | h1 g c ih =>
    intro k
    rw [dd_snoc]
    by_cases h : c ∈ dd g
    · rw [if_pos h, ih]
      have hc := (ih c).mp h
      constructor
      · intro z; simp [z]
      · intro z
        rcases List.mem_append.mp z with z | z
        · exact z
        · rw [List.mem_singleton.mp z]; exact hc
    · rw [if_neg h]
      simp [ih]
theorem nodup_dd (xs : List α) : (dd xs).Nodup := by
  induction xs using snoc_ind with
  | h0 => simp [dd]
  | h1 g c ih =>
    rw [dd_snoc]
    by_cases h : c ∈ dd g
    · rw [if_pos h]; exact ih
    · rw [if_neg h, List.nodup_append]
      refine ⟨ih, by simp, fun a ha b hb => ?_⟩
      rw [List.mem_singleton.mp hb]
      intro z
      exact h (z ▸ ha)
theorem dd_len (xs : List α) : (dd xs).length ≤ xs.length := by
  induction xs using snoc_ind with
  | h0 => simp [dd]
  | h1 g c ih =>
    rw [dd_snoc]
    split <;> simp <;> omega
/-- a code of keys -/
structure Ke (e : α → D) : Prop where
  inj : ∀ a b, (e a).nk = (e b).nk ↔ a = b
  ok : ∀ (ks : List α) (a : α), kOk (ks.map e) (e a) = true
variable {e : α → D}
theorem dIx_none (he : Ke e) : ∀ {ks : List α} {x : α}, x ∉ ks → dIx (ks.map e) (e x) = none
  | [], x, _ => rfl
  | k :: ks, x, h => by
    rw [List.map_cons, dIx_cons, if_neg (fun z => h (by rw [(he.inj k x).mp z]; simp)), dIx_none he fun z => h (by simp [z])]
    rfl
theorem dIx_some (he : Ke e) : ∀ {ks : List α} {x : α}, x ∈ ks → ∃ i, dIx (ks.map e) (e x) = some i ∧ ks[i]? = some x
  | k :: ks, x, h => by
    by_cases c : k = x
    · exact ⟨0, by rw [List.map_cons, dIx_cons, if_pos (by rw [c])], by simp [c]⟩
    · obtain ⟨i, e1, e2⟩ := dIx_some he (ks := ks) (x := x) (by rcases List.mem_cons.mp h with z | z; exact absurd z.symm c; exact z)
      exact ⟨i + 1, by rw [List.map_cons, dIx_cons, if_neg (fun z => c ((he.inj k x).mp z)), e1]; rfl, by simpa using e2⟩
theorem dGet_e (he : Ke e) (ks : List α) (f : α → D) (x : α) : dGet (ks.map e) (ks.map f) (e x) = if x ∈ ks then some (f x) else none := by
  unfold dGet
  by_cases h : x ∈ ks
  · obtain ⟨i, e1, e2⟩ := dIx_some he h
    rw [e1, if_pos h]
    simp [e2]
  · rw [dIx_none he h, if_neg h]
    rfl
theorem dPut_e (he : Ke e) (xs : List α) (f : α → D) (x : α) (v : D) : dKs ((dd xs).map e) (e x) = (dd (xs ++ [x])).map e ∧ dVs ((dd xs).map e) ((dd xs).map f) (e x) v = (dd (xs ++ [x])).map fun k => if k = x then v else f k := by
  have hN := nodup_dd xs
  unfold dKs dVs
  by_cases h : x ∈ dd xs
  · obtain ⟨i, e1, e2⟩ := dIx_some he h
    rw [e1]
    simp only
    have e3 : dd (xs ++ [x]) = dd xs := by rw [dd_snoc, if_pos h]
    refine ⟨by rw [e3], ?_⟩
    rw [e3]
    apply List.ext_getElem
    · simp
    · intro j h1 h2
      have hj : j < (dd xs).length := by simpa using h2
      obtain ⟨hi, e2⟩ := List.getElem?_eq_some_iff.mp e2
      rw [List.getElem_set, List.getElem_map, List.getElem_map]
      by_cases c : i = j
      · subst c
        rw [if_pos rfl, if_pos e2]
      · rw [if_neg c, if_neg]
        intro z
        exact c ((List.getElem_inj (h₀ := hi) (h₁ := hj) hN).mp (e2.trans z.symm))
  · rw [dIx_none he h]
    simp only
    have e3 : dd (xs ++ [x]) = dd xs ++ [x] := by rw [dd_snoc, if_neg h]
    refine ⟨by rw [e3]; simp, ?_⟩
    rw [e3, List.map_append, List.map_cons, List.map_nil, if_pos rfl]
    refine congrArg (· ++ _) (List.map_congr_left fun k hk => ?_)
    have hn : ¬ k = x := fun z => h (z ▸ hk)
    rw [if_neg hn]
end
/-! ### pairs and triples of whole numbers as keys -/
def e2 (p : Int × Int) : D := .tup [.int p.1, .int p.2]
def e3 (p : Int × Int × Int) : D := .tup [.int p.1, .int p.2.1, .int p.2.2]
theorem nk_e2 (p : Int × Int) : (e2 p).nk = some (.tup [.num p.1, .num p.2]) := by simp [e2, D.nk, D.nks]
theorem nk_e3 (p : Int × Int × Int) : (e3 p).nk = some (.tup [.num p.1, .num p.2.1, .num p.2.2]) := by simp [e3, D.nk, D.nks]
theorem deps_map {α : Type} {e : α → D} {n : Nat} (h : ∀ a, (e a).dep ≤ n) : ∀ ks : List α, D.deps (ks.map e) ≤ n
  | [] => by simp [D.deps]
  | k :: ks => by
    have := h k
    have := deps_map h ks
    simp only [List.map_cons, D.deps]
    omega
theorem dep_e2 (p : Int × Int) : (e2 p).dep ≤ 1 := dep_tup (k := 0) (by simp)
theorem dep_e3 (p : Int × Int × Int) : (e3 p).dep ≤ 1 := dep_tup (k := 0) (by simp)
theorem kOk_of {α : Type} {e : α → D} (ht : ∀ a, (e a).isT = true) (hd : ∀ a, (e a).dep ≤ 1) (hn : ∀ a, (e a).nk.isSome = true) (ks : List α) (a : α) : kOk (ks.map e) (e a) = true := by
  unfold kOk
  have h1 : (ks.map e).all D.isT = true := by
    rw [List.all_eq_true]
    intro x hx
    obtain ⟨k, _, rfl⟩ := List.mem_map.mp hx
    exact ht k
  have h2 := deps_map hd ks
  have h3 := hd a
  rw [h1, ht a, hn a, decide_eq_true (show D.deps (ks.map e) ≤ 8 by omega), decide_eq_true (show (e a).dep ≤ 8 by omega)]
  rfl
theorem ke2 : Ke e2 := ⟨fun a b => by rw [nk_e2, nk_e2]; simp [Prod.ext_iff], kOk_of (fun _ => rfl) dep_e2 fun a => by rw [nk_e2]; rfl⟩
theorem ke3 : Ke e3 := ⟨fun a b => by rw [nk_e3, nk_e3]; simp [Prod.ext_iff], kOk_of (fun _ => rfl) dep_e3 fun a => by rw [nk_e3]; rfl⟩
end J

namespace J
open PySem PySem.Spec PyProof.Rows L2
/-! ## the throws by where they land -/
abbrev KQ := (Int × Int) × Q4
def ent (es : List KQ) (κ : Int × Int) : List Q4 := (es.filter fun x => decide (x.1 = κ)).map fun x => x.2
/-- the dict of lists in the store -/
structure Grp (S : Sto) (es : List KQ) (S' : Sto) (f : Int × Int → Nat) : Prop where
  pre : ∃ G, S' = S ++ G
  dic : S'[S.length]? = some (.dic ((dd (es.map (·.1))).map e2) ((dd (es.map (·.1))).map fun κ => .ref (f κ)))
  at_ : ∀ κ ∈ es.map (·.1), S.length < f κ ∧ S'[f κ]? = some (.lst ((ent es κ).map eQ))
  inj : ∀ κ ∈ es.map (·.1), ∀ κ' ∈ es.map (·.1), f κ = f κ' → κ = κ'
theorem pre_set {S S' : Sto} {i : Nat} {o : O} (h : ∃ G, S' = S ++ G) (hi : S.length ≤ i) : ∃ G, S'.set i o = S ++ G := by
  obtain ⟨G, rfl⟩ := h
  exact ⟨G.set (i - S.length) o, by rw [List.set_append_right _ _ hi]⟩
theorem pre_app {S S' T : Sto} (h : ∃ G, S' = S ++ G) : ∃ G, S' ++ T = S ++ G := by
  obtain ⟨G, rfl⟩ := h
  exact ⟨G ++ T, by simp⟩
theorem ent_snoc (es : List KQ) (κ κ' : Int × Int) (q : Q4) : ent (es ++ [(κ, q)]) κ' = if κ = κ' then ent es κ' ++ [q] else ent es κ' := by
  unfold ent
  rw [List.filter_append, List.map_append]
  by_cases c : κ = κ' <;> simp [c]
theorem gIx_rdc {n : Nat} {S : Sto} {ks vs : List D} (h : S[n]? = some (.dic ks vs) ∨ S[n]? = some (.fdic ks vs)) {k v : D} (hk : kOk ks k = true) (hv : dGet ks vs k = some v) : gIx (.rdc n) k S = .ok v S := by
  have e : dicOf S (.rdc n) = some (ks, vs) := by rcases h with h | h <;> simp [dicOf, h]
  unfold gIx gIxD onKey
  simp only [e, hk, if_true, hv]
theorem gSetd_ok {n : Nat} {S : Sto} {ks vs : List D} (h : S[n]? = some (.dic ks vs)) {k z : D} (hk : kOk ks k = true) (ht : k.isT = true) (hl : ks.length < sLim) : gSetd (.rdc n) [k, z] S = match dGet ks vs k with
    | some v => .ok v S
    | none => .ok z (S.set n (.dic (dKs ks k) (dVs ks vs k z))) := by
  unfold gSetd
  simp only [h, hk, ht, hl, and_self, if_true]
  all_goals (cases dGet ks vs k <;> rfl)
theorem Grp.nil (S : Sto) : Grp S [] (S ++ [.dic [] []]) fun _ => 0 := ⟨⟨_, rfl⟩, by simp [dd], fun κ h => (nomatch h), fun κ h => (nomatch h)⟩
/-- coming.setdefault(key, []); coming[key].append(q) -/
theorem Grp.step {S : Sto} {es : List KQ} {S' : Sto} {f : Int × Int → Nat} (g : Grp S es S' f) (hl : es.length < 1000000) (κ : Int × Int) (q : Q4) : ∃ (S1 S2 : Sto) (f' : Int × Int → Nat) (d : D),
    gSetd (.rdc S.length) [e2 κ, .ref S'.length] (S' ++ [.lst []]) = .ok d S1 ∧ dicTy (.rdc S.length) S' = .ok (.rdc S.length) S' ∧ gIx (.rdc S.length) (e2 κ) S1 = .ok (.ref (f' κ)) S1 ∧ gAppend (.ref (f' κ)) [eQ q] S1 = .ok .non S2 ∧ Grp S (es ++ [(κ, q)]) S2 f' := by
  have hm : S.length < S'.length := (List.getElem?_eq_some_iff.mp g.dic).1
  have hd : (S' ++ [O.lst []])[S.length]? = some (.dic ((dd (es.map (·.1))).map e2) ((dd (es.map (·.1))).map fun κ => .ref (f κ))) := by
    rw [List.getElem?_append_left hm]; exact g.dic
  have hkl : ((dd (es.map (·.1))).map e2).length < sLim := by
    have := dd_len (es.map (·.1))
    rw [List.length_map] at this ⊢
    rw [sLim_eq]; omega
  have gs := gSetd_ok (z := .ref S'.length) hd (ke2.ok _ κ) rfl hkl
  rw [dGet_e ke2] at gs
  have ty : dicTy (.rdc S.length) S' = .ok (.rdc S.length) S' := dicTy_rd g.dic
  obtain ⟨p1, p2⟩ := dPut_e ke2 (es.map (·.1)) (fun κ => .ref (f κ)) κ (.ref S'.length)
  have em : (es ++ [(κ, q)]).map (·.1) = es.map (·.1) ++ [κ] := by simp
  by_cases hκ : κ ∈ es.map (·.1)
  · rw [if_pos ((mem_dd _ _).mpr hκ)] at gs
    obtain ⟨a1, a2⟩ := g.at_ κ hκ
    have hlt : f κ < S'.length := (List.getElem?_eq_some_iff.mp a2).1
    have a3 : (S' ++ [O.lst []])[f κ]? = some (.lst ((ent es κ).map eQ)) := by rw [List.getElem?_append_left hlt]; exact a2
    have hel : (ent es κ).length ≤ es.length := by unfold ent; rw [List.length_map]; exact List.length_filter_le _ _
    have ap := gAppend_r (y := eQ q) a3 (by rw [List.length_map]; omega)
    have edd : dd (es.map (·.1) ++ [κ]) = dd (es.map (·.1)) := by rw [dd_snoc, if_pos ((mem_dd _ _).mpr hκ)]
    refine ⟨_, _, f, _, gs, ty, gIx_rdc (.inl hd) (ke2.ok _ κ) (by rw [dGet_e ke2, if_pos ((mem_dd _ _).mpr hκ)]), ap, ?_, ?_, ?_, ?_⟩
    · exact pre_set (pre_app g.pre) (by omega)
    · rw [List.getElem?_set_ne (by omega), em, edd]; exact hd
    · intro κ' hκ'
      have hκ2 : κ' ∈ es.map (·.1) := by
        rw [em] at hκ'
        rcases List.mem_append.mp hκ' with z | z
        · exact z
        · rw [List.mem_singleton.mp z]; exact hκ
      obtain ⟨b1, b2⟩ := g.at_ κ' hκ2
      have hlt' : f κ' < S'.length := (List.getElem?_eq_some_iff.mp b2).1
      refine ⟨b1, ?_⟩
      rw [ent_snoc]
      by_cases c : κ = κ'
      · subst c
        rw [if_pos rfl, List.getElem?_set_self (by simp; omega), List.map_append]
        rfl
      · rw [if_neg c, List.getElem?_set_ne (fun z => c (g.inj κ hκ κ' hκ2 z)), List.getElem?_append_left hlt']
        exact b2
    · intro κ' h' κ'' h''
      rw [em] at h' h''
      have m : ∀ x, x ∈ es.map (·.1) ++ [κ] → x ∈ es.map (·.1) := fun x z => by
        rcases List.mem_append.mp z with z | z
        · exact z
        · rw [List.mem_singleton.mp z]; exact hκ
      exact g.inj κ' (m _ h') κ'' (m _ h'')
  · have hκd : κ ∉ dd (es.map (·.1)) := fun z => hκ ((mem_dd _ _).mp z)
    rw [if_neg hκd] at gs
    rw [p1, p2] at gs
    simp only at gs
    have f' : Int × Int → Nat := fun k => if k = κ then S'.length else f k
    have hS1 : ((S' ++ [O.lst []]).set S.length (.dic ((dd (es.map (·.1) ++ [κ])).map e2) ((dd (es.map (·.1) ++ [κ])).map fun k => if k = κ then .ref S'.length else .ref (f k))))[S'.length]? = some (.lst []) := by
      rw [List.getElem?_set_ne (by omega), List.getElem?_append_right (Nat.le_refl _)]
      simp
    have hS0 : ((S' ++ [O.lst []]).set S.length (.dic ((dd (es.map (·.1) ++ [κ])).map e2) ((dd (es.map (·.1) ++ [κ])).map fun k => if k = κ then .ref S'.length else .ref (f k))))[S.length]? = some (.dic ((dd (es.map (·.1) ++ [κ])).map e2) ((dd (es.map (·.1) ++ [κ])).map fun k => if k = κ then .ref S'.length else .ref (f k))) := List.getElem?_set_self (by simp; omega)
    have ap := gAppend_r (y := eQ q) hS1 (by simp)
    have ef : (fun k : Int × Int => if k = κ then D.ref S'.length else .ref (f k)) = fun k => .ref (if k = κ then S'.length else f k) := by
      funext k
      by_cases c : k = κ <;> simp [c]
    refine ⟨_, _, fun k => if k = κ then S'.length else f k, _, gs, ty, ?_, by simp only [if_true]; exact ap, ?_, ?_, ?_, ?_⟩
    · simp only [if_true]
      refine gIx_rdc (.inl hS0) (ke2.ok _ κ) ?_
      rw [dGet_e ke2, if_pos ((mem_dd _ _).mpr (by simp)), if_pos rfl]
    · exact pre_set (pre_set (pre_app g.pre) (Nat.le_refl _)) (by omega)
    · rw [List.getElem?_set_ne (by omega), hS0, em, ef]
    · intro κ' hκ'
      rw [em] at hκ'
      by_cases c : κ' = κ
      · subst c
        simp only [if_true]
        refine ⟨hm, ?_⟩
        have e0 : ent es κ' = [] := by
          unfold ent
          rw [List.map_eq_nil_iff, List.filter_eq_nil_iff]
          intro x hx z
          exact hκ (List.mem_map.mpr ⟨x, hx, of_decide_eq_true z⟩)
        rw [ent_snoc, if_pos rfl, e0, List.getElem?_set_self (by simp)]
        rfl
      · have hκ2 : κ' ∈ es.map (·.1) := by
          rcases List.mem_append.mp hκ' with z | z
          · exact z
          · exact absurd (List.mem_singleton.mp z) c
        obtain ⟨b1, b2⟩ := g.at_ κ' hκ2
        have hlt' : f κ' < S'.length := (List.getElem?_eq_some_iff.mp b2).1
        rw [if_neg c]
        refine ⟨b1, ?_⟩
        rw [ent_snoc, if_neg (Ne.symm c), List.getElem?_set_ne (by omega), List.getElem?_set_ne (by omega), List.getElem?_append_left hlt']
        exact b2
    · intro κ' h' κ'' h'' z
      rw [em] at h' h''
      have m : ∀ x, x ∈ es.map (·.1) ++ [κ] → x ≠ κ → x ∈ es.map (·.1) := fun x z c => by
        rcases List.mem_append.mp z with z | z
        · exact z
        · exact absurd (List.mem_singleton.mp z) c
      by_cases c1 : κ' = κ
      · by_cases c2 : κ'' = κ
        · rw [c1, c2]
        · rw [if_pos c1, if_neg c2] at z
          have := (List.getElem?_eq_some_iff.mp (g.at_ κ'' (m _ h'' c2)).2).1
          omega
      · by_cases c2 : κ'' = κ
        · rw [if_neg c1, if_pos c2] at z
          have := (List.getElem?_eq_some_iff.mp (g.at_ κ' (m _ h' c1)).2).1
          omega
        · rw [if_neg c1, if_neg c2] at z
          exact g.inj κ' (m _ h' c1) κ'' (m _ h'' c2) z
end J

namespace J
open PySem PySem.Spec PyProof.Rows L2
/-! ## followers -/
def kq1 (L t a : Nat) (o : Own) (k : Nat) : KQ := ((((t : Int) + ((o[k]?).getD (0, 0)).1) % L, ((o[k]?).getD (0, 0)).2), (-((o[k]?).getD (0, 0)).1, (t : Int), (a : Int), (k : Int)))
def kqP (r : Row) (p : Nat × Nat) : List KQ := (List.range (ownAt r p.1 p.2).length).map (kq1 r.length p.1 p.2 (ownAt r p.1 p.2))
def kqR (r : Row) (n : Nat) : List KQ := (prs r.length n).flatMap (kqP r)
def p3 (q : Q4) : Int × Int × Int := (q.2.1, q.2.2.1, q.2.2.2)
def lnF (es : List KQ) (ks : List (Int × Int)) : List (Int × Int × Int) := ks.flatMap fun κ => (srQ (ent es κ)).map p3
def flK (r : Row) (n : Nat) : List (Int × Int × Int) := dd (lnF (kqR r n) (dd ((kqR r n).map (·.1))))
/-- the second part's store -/
structure Fol (S : Sto) (es : List KQ) (f : Int × Int → Nat) (m2 : Nat) (V : Int × Int × Int → D) (L : List (Int × Int × Int)) (S' : Sto) : Prop where
  pre : ∃ G, S' = S ++ G
  dic : S'[S.length]? = some (.fdic ((dd (es.map (·.1))).map e2) ((dd (es.map (·.1))).map fun κ => .ref (f κ)))
  at_ : ∀ κ ∈ es.map (·.1), f κ < m2 ∧ S'[f κ]? = some (.lst ((ent es κ).map eQ))
  m : S.length < m2
  fnd : S'[m2]? = some (.dic ((dd L).map e3) ((dd L).map V))
theorem Fol.set {S : Sto} {es : List KQ} {f : Int × Int → Nat} {m2 : Nat} {V : Int × Int × Int → D} {L : List (Int × Int × Int)} {S' : Sto} (g : Fol S es f m2 V L S') (p : Int × Int × Int) : Fol S es f m2 V (L ++ [p]) (S'.set m2 (.dic ((dd (L ++ [p])).map e3) ((dd (L ++ [p])).map V))) := by
  have hm := g.m
  have hl : m2 < S'.length := (List.getElem?_eq_some_iff.mp g.fnd).1
  refine ⟨pre_set g.pre (by omega), by rw [List.getElem?_set_ne (by omega)]; exact g.dic, fun κ hκ => ?_, hm, List.getElem?_set_self hl⟩
  obtain ⟨a1, a2⟩ := g.at_ κ hκ
  exact ⟨a1, by rw [List.getElem?_set_ne (by omega)]; exact a2⟩
end J

namespace J
open PySem PySem.Spec PyProof.Rows L2
/-! ## ways of a permutation -/
theorem nodup_sub {α : Type} [DecidableEq α] : ∀ {xs ys : List α}, xs.Nodup → (∀ x ∈ xs, x ∈ ys) → xs.length ≤ ys.length
  | [], _, _, _ => Nat.zero_le _
  | x :: xs, ys, hn, hs => by
    rw [List.nodup_cons] at hn
    have hx := hs x (by simp)
    have ih := nodup_sub (xs := xs) (ys := ys.erase x) hn.2 fun y hy => by
      have hne : y ≠ x := fun z => hn.1 (by rw [← z]; exact hy)
      exact (List.mem_erase_of_ne hne).mpr (hs y (by simp [hy]))
    have := List.length_erase_of_mem hx
    have := List.length_pos_of_mem hx
    simp only [List.length_cons]
    omega
theorem least {P : Nat → Prop} (n : Nat) : P n → ∃ k, k ≤ n ∧ P k ∧ ∀ j, j < k → ¬ P j := by
  induction n using Nat.strongRecOn with
  | _ n ih =>
    intro h
    by_cases c : ∃ j, j < n ∧ P j
    · obtain ⟨j, hj, hp⟩ := c
      obtain ⟨k, h1, h2, h3⟩ := ih j hj hp
      exact ⟨k, by omega, h2, h3⟩
    · exact ⟨n, Nat.le_refl _, h, fun j hj hp => c ⟨j, hj, hp⟩⟩
abbrev P3 := Int × Int × Int
def itr (σ : P3 → P3) : Nat → P3 → P3
  | 0, x => x
  | k + 1, x => σ (itr σ k x)
def cyc (σ : P3 → P3) (x : P3) (k : Nat) : List P3 := (List.range k).map fun i => itr σ i x
def per (σ : P3 → P3) (N : Nat) (x : P3) : Nat := ((List.range N).find? fun k => decide (itr σ (k + 1) x = x)).getD 0 + 1
structure Pm (σ : P3 → P3) (T : List P3) : Prop where
  to : ∀ p ∈ T, σ p ∈ T
  inj : ∀ p ∈ T, ∀ q ∈ T, σ p = σ q → p = q
section
variable {σ : P3 → P3} {T : List P3}
theorem Pm.itr (h : Pm σ T) {x : P3} (hx : x ∈ T) : ∀ k, itr σ k x ∈ T
  | 0 => hx
  | k + 1 => h.to _ (h.itr hx k)
theorem Pm.back (h : Pm σ T) {x : P3} (hx : x ∈ T) : ∀ i d, J.itr σ i x = J.itr σ (i + d) x → J.itr σ d x = x
  | 0, d, e => by rw [Nat.zero_add] at e; exact e.symm
  | i + 1, d, e => by
    rw [show i + 1 + d = i + d + 1 by omega] at e
    exact h.back hx i d (h.inj _ (h.itr hx _) _ (h.itr hx _) e)
theorem Pm.per (h : Pm σ T) {N : Nat} (hN : T.length ≤ N) {x : P3} (hx : x ∈ T) : 1 ≤ J.per σ N x ∧ J.per σ N x ≤ T.length ∧ J.itr σ (J.per σ N x) x = x ∧ ∀ j, 1 ≤ j → j < J.per σ N x → J.itr σ j x ≠ x := by
  have ex : ∃ k, k < T.length ∧ J.itr σ (k + 1) x = x := by
    by_cases c : ∃ k, k < T.length ∧ J.itr σ (k + 1) x = x
    · exact c
    · exfalso
      have hn : ((List.range (T.length + 1)).map fun i => J.itr σ i x).Nodup := by
        rw [List.Nodup, List.pairwise_map]
        refine List.Pairwise.imp_of_mem ?_ (List.pairwise_lt_range (n := T.length + 1))
        intro i j hi hj hij e
        have hj : j < T.length + 1 := by simpa using hj
        obtain ⟨d, rfl⟩ : ∃ d, j = i + (d + 1) := ⟨j - i - 1, by omega⟩
        exact c ⟨d, by omega, h.back hx i (d + 1) e⟩
      have := nodup_sub hn (ys := T) fun y hy => by
        obtain ⟨i, _, rfl⟩ := List.mem_map.mp hy
        exact h.itr hx i
      simp at this
      omega
  obtain ⟨k0, hk0, e0⟩ := ex
  obtain ⟨k, h1, h2, h3⟩ := least (P := fun k => J.itr σ (k + 1) x = x) k0 e0
  have hf : (List.range N).find? (fun k => decide (J.itr σ (k + 1) x = x)) = some k := by
    rw [List.find?_range_eq_some]
    refine ⟨by simpa using h2, by simp; omega, fun j hj => ?_⟩
    simpa using h3 j hj
  have ep : J.per σ N x = k + 1 := by unfold J.per; rw [hf]; rfl
  rw [ep]
  refine ⟨by omega, by omega, h2, fun j hj1 hj2 => ?_⟩
  obtain ⟨i, rfl⟩ : ∃ i, j = i + 1 := ⟨j - 1, by omega⟩
  exact h3 i (by omega)
def sH (h : P3 → Int) (ps : List P3) : Int := (ps.map h).sum
/-- all ways, from each list's first on -/
def orbL (σ : P3 → P3) (h : P3 → Int) (N : Nat) (L : Int) : Nat → List P3 → List (List P3 × Int)
  | 0, _ => []
  | _ + 1, [] => []
  | f + 1, x :: l => (cyc σ x (per σ N x), sH h (cyc σ x (per σ N x)) / L) :: orbL σ h N L f ((x :: l).filter fun y => !decide (y ∈ cyc σ x (per σ N x)))
end
end J

namespace J
open PySem PySem.Spec PyProof.Rows L2
section
variable {σ : P3 → P3} {h : P3 → Int} {T : List P3} {tb : D} {L : Int}
/-! ### the outer loop -/
structure Orb (S : Sto) (S' : Sto) (os : List (List P3 × Int)) (ws : List Nat) : Prop where
  pre : ∃ G, S' = S ++ G
  len : ws.length = os.length
  fnd : S'[S.length]? = some (.lst ((ws.zip os).map fun z => .tup [.ref z.1, .int z.2.2]))
  at_ : ∀ z ∈ ws.zip os, S.length < z.1 ∧ S'[z.1]? = some (.lst (z.2.1.map e3))
end
end J

namespace J
open PySem PySem.Spec PyProof.Rows L2
/-! ## orbits -/
def sr3 (ps : List P3) : List P3 := ps.mergeSort fun a b => leD (e3 a) (e3 b)
end J

namespace J
open PySem PySem.Spec PyProof.Rows L2
/-! ## whose ball is thrown next: a permutation -/
section
variable {n : Nat} {r : Row}
/-- the throw by which a throw's ball is thrown next -/
def plc (qs : List Q4) (q : Q4) : Nat := ((List.range qs.length).find? fun i => decide (qs[i]? = some q)).getD 0
def nxS (r : Row) (n : Nat) (p : P3) : P3 := match (kqR r n).find? (fun x => decide (p3 x.2 = p)) with
  | some x => (x.1.1, x.1.2, (plc (srQ (ent (kqR r n) x.1)) x.2 : Int))
  | none => p
def htS (r : Row) (n : Nat) (p : P3) : Int := match (kqR r n).find? (fun x => decide (p3 x.2 = p)) with
  | some x => -x.2.1
  | none => 0
/-- the ways of a row's balls -/
def ways (r : Row) (n : Nat) : List (List P3 × Int) := orbL (nxS r n) (htS r n) 699 r.length 700 (sr3 (flK r n))
end
end J

namespace J
open PySem PySem.Spec PyProof.Rows L2
/-! ## the ways cover all throws, each once -/
section
variable {σ : P3 → P3} {h : P3 → Int} {T : List P3} {N : Nat} {L : Int}
end
end J

namespace J
open PySem PySem.Spec PyProof.Rows L2
section
variable {n : Nat} {r : Row}
end
end J

namespace J
open PySem PySem.Spec PyProof.Rows L2
/-! ## two rows at once: room, the highest -/
section
variable {n : Nat} {r : Row}
end
section
variable {n1 n2 : Nat} {r1 r2 : Row}
end
end J

namespace J
open PySem PySem.Spec PyProof.Rows L2
/-! ## two rows at once, backwards -/
end J

namespace J
open PySem PySem.Spec PyProof.Rows L2
/-! ## two rows at once: what is due, passes -/
section
variable {n1 n2 : Nat} {r1 r2 : Row}
end
end J

namespace J
open PySem PySem.Spec PyProof.Rows L2
/-! ## relined -/
def odA (od : List Nat) (a : Nat) : Nat := (od[a]?).getD 0
def rlT (od : List Nat) (x : Thr) : Thr := (x.1, (odA od x.2.toNat : Int))
def rlS (r : Row) (od : List Nat) (pre : List (Nat × Nat)) : Nat × Nat → Own := pre.foldl (fun g q p => if p = (q.1, odA od q.2) then (ownAt r q.1 q.2).map (rlT od) else g p) fun _ => []
end J

namespace J
open PySem PySem.Spec PyProof.Rows L2
end J

namespace J
open PySem PySem.Spec PyProof.Rows L2
end J

namespace J
open PySem PySem.Spec PyProof.Rows L2
end J

namespace J
open PySem PySem.Spec PyProof.Rows L2
end J

namespace J
open PySem PySem.Spec PyProof.Rows L2
end J

namespace J
open PySem PySem.Spec PyProof.Rows L2
/-! ## the law's own table of followers (k06) -/
end J

namespace J
open PySem PySem.Spec PyProof.Rows L2
/-! ## rows of single ways -/
section
variable {n : Nat} {r : Row}
end
end J

namespace J
open PySem PySem.Spec PyProof.Rows L2
/-! ## own rows: what they hold -/
section
variable {n : Nat} {r : Row}
end
end J

namespace J
open PySem PySem.Spec PyProof.Rows L2
/-! ## sorted and min of coded data -/
section
variable {α : Type} {lt : α → α → Bool}
def leG (lt : α → α → Bool) (a b : α) : Bool := !lt b a
def srG (lt : α → α → Bool) (xs : List α) : List α := xs.mergeSort (leG lt)
theorem STO.le_trans (h : STO lt) (a b c : α) (h1 : leG lt a b = true) (h2 : leG lt b c = true) : leG lt a c = true := by
  unfold leG at *
  simp only [Bool.not_eq_true'] at *
  cases e : lt c a with
  | false => rfl
  | true =>
    rcases h.tri a b with z | z | z
    · have := h.tr _ _ _ e z; rw [this] at h2; cases h2
    · subst z; rw [e] at h2; cases h2
    · rw [z] at h1; cases h1
theorem STO.le_total (h : STO lt) (a b : α) : (leG lt a b || leG lt b a) = true := by
  unfold leG
  cases e : lt b a with
  | false => rfl
  | true => rw [h.asy e]; rfl
theorem STO.le_anti (h : STO lt) (a b : α) (h1 : leG lt a b = true) (h2 : leG lt b a = true) : a = b := by
  unfold leG at *
  simp only [Bool.not_eq_true'] at *
  rcases h.tri a b with z | z | z
  · rw [z] at h2; cases h2
  · exact z
  · rw [z] at h1; cases h1
theorem srG_perm (xs : List α) : (srG lt xs).Perm xs := List.mergeSort_perm _ _
theorem srG_pw (h : STO lt) (xs : List α) : (srG lt xs).Pairwise fun a b => leG lt a b = true := List.pairwise_mergeSort h.le_trans h.le_total xs
theorem srG_of (h : STO lt) {xs ys : List α} (e : xs.Perm ys) : srG lt xs = srG lt ys :=
  (((srG_perm xs).trans e).trans (srG_perm ys).symm).eq_of_pairwise (le := fun a b => leG lt a b = true) (fun a b _ _ h1 h2 => h.le_anti a b h1 h2) (srG_pw h xs) (srG_pw h ys)
/-- a code with its order -/
structure Co (e : α → D) (lt : α → α → Bool) : Prop where
  lt : ∀ a b, D.lt (e a) (e b) = lt a b
  alk : ∀ a b, D.alk (e a) (e b) = true
  dep : ∀ a, (e a).dep ≤ 60
  ne : ∀ a, neTup (e a) = true
variable {e : α → D}
theorem Co.sorted (c : Co e lt) (xs : List α) : (xs.map e).mergeSort leD = (srG lt xs).map e := (List.map_mergeSort fun a _ b _ => by unfold leG leD; rw [c.lt]).symm
theorem Co.ok (c : Co e lt) (xs : List α) : srtOk (xs.map e) = true := by
  unfold srtOk
  simp only [Bool.and_eq_true, Bool.or_eq_true, List.all_eq_true]
  refine ⟨⟨fun x hx y hy => ?_, .inl fun x hx => ?_⟩, fun x hx => ?_⟩
  · obtain ⟨a, _, rfl⟩ := List.mem_map.mp hx
    obtain ⟨b, _, rfl⟩ := List.mem_map.mp hy
    exact c.alk a b
  · obtain ⟨a, _, rfl⟩ := List.mem_map.mp hx
    exact c.ne a
  · obtain ⟨a, _, rfl⟩ := List.mem_map.mp hx
    have := c.dep a
    simp
    omega
theorem Co.gSorted (c : Co e lt) {d : D} {xs : List α} {S : Sto} (h : seqOf S d = some (xs.map e)) : gSorted [d] S = .ok ((srG lt xs).map e) S := by
  unfold J.gSorted
  simp only [h, c.ok, if_true, c.sorted]
end
/-! ### triples -/
def lt3 (a b : P3) : Bool := decide (a.1 < b.1 ∨ a.1 = b.1 ∧ (a.2.1 < b.2.1 ∨ a.2.1 = b.2.1 ∧ a.2.2 < b.2.2))
end J

namespace J
open PySem PySem.Spec PyProof.Rows L2
/-! ## each way is a cycle from its least throw on -/
section
variable {σ : P3 → P3} {h : P3 → Int} {T : List P3} {N : Nat} {L : Int}
structure IsWay (σ : P3 → P3) (T : List P3) (ps : List P3) (x : P3) (k : Nat) : Prop where
  mem : x ∈ T
  eq : ps = cyc σ x (k + 1)
  back : itr σ (k + 1) x = x
  least : ∀ j, 1 ≤ j → j < k + 1 → itr σ j x ≠ x
  min : ∀ y ∈ ps, leG lt3 x y = true
def hd3 (o : List P3 × Int) : P3 := (o.1[0]?).getD (0, 0, 0)
end
section
variable {n : Nat} {r : Row}
/-! ### one throw at a time: an own row has one way -/
end
end J

namespace J
open PySem PySem.Spec PyProof.Rows L2
/-! ## a row is its ways together -/
section
variable {n : Nat} {r : Row}
end
/-! ### grids by their cells -/
end J

namespace J
open PySem PySem.Spec PyProof.Rows L2
/-! ## dicts of numbers -/
end J

namespace J
open PySem PySem.Spec PyProof.Rows L2
open TL (tl joinL tl_join join_eq)
/-! ## texts -/
@[simp] theorem eMethS_d (g : D → List D → Sto → R D) (o : CE) (a : CA) (env : Env) (S : Sto) : eMethS g o a env S = (o env S).bind fun d S => (strTy d S).bind fun d S => (a env S).bind fun xs S => g d xs S := Eq.trans rfl rfl
@[simp] theorem strTy_s (x : Str) (S : Sto) : strTy (.str x) S = .ok (.str x) S := Eq.trans rfl rfl
/-! ### chart -/
section
variable {n : Nat} {r : Row}
end
end J

namespace J
open PySem PySem.Spec PyProof.Rows L2
/-! ## ladder -/
section
variable {n : Nat} {r : Row}
/-! ## as many in the air as there are balls -/
/-! ## as many thrown to a line as from it -/
end
end J

namespace J
open PySem PySem.Spec PyProof.Rows L2
end J

namespace J
open PySem PySem.Spec PyProof.Rows L2
/-! ## the law's table, heights and shares (k21) -/
section
variable {T : Sto} {n : Nat} {f : Nat → Nat → Int} {h : O} {o : List D}
end
end J

namespace J
open PySem PySem.Spec PyProof.Rows L2
open TL (tl joinL tl_join join_eq)
/-! ## crossings (k36) -/
section
variable {n : Nat} {r : Row}
/-! ### the chart's signs -/
end
end J

namespace J
open PySem PySem.Spec PyProof.Rows L2
/-! ## backwards: heights, room, period -/
section
variable {n : Nat} {r : Row}
end
end J

namespace J
open PySem PySem.Spec PyProof.Rows L2
/-! ## the ways of a row turned round (one throw at a time) -/
section
variable {n : Nat} {r : Row}
end
end J

namespace J
open PySem PySem.Spec PyProof.Rows L2
/-! ## lines named otherwise -/
def rl (r : Row) (n : Nat) (od : List Nat) : Row := gRow r.length n (rlS r od (prs r.length n))
section
variable {n : Nat} {od : List Nat}
end
section
variable {n : Nat} {r : Row} {od : List Nat}
end
/-! ### the inverse order -/
end J

namespace J
open PySem PySem.Spec PyProof.Rows L2
/-! ## loops of k08 -/
/-! ### an order drawn -/
end J

namespace J
open PySem PySem.Spec PyProof.Rows L2
/-! ## chains: each throw behind the one it follows -/
def stepC (nx : P3 → P3) (cs : List (List P3)) (p : P3) : List (List P3) := match cs.findIdx? (fun c => decide (c.getLast?.map nx = some p)) with
  | some i => cs.set i ((cs[i]?).getD [] ++ [p])
  | none => cs ++ [[p]]
/-- what is known of chains -/
structure Chn (nx : P3 → P3) (ps : List P3) (cs : List (List P3)) : Prop where
  has : ∀ q ∈ ps, ∃ (i : Nat) (c : List P3), cs[i]? = some c ∧ q ∈ c
  sub : ∀ c ∈ cs, ∀ q ∈ c, q ∈ ps
  ne : ∀ c ∈ cs, c ≠ []
  chain : ∀ c ∈ cs, ∀ (j : Nat) (x y : P3), c[j]? = some x → c[j + 1]? = some y → y = nx x
  disj : ∀ (i i' : Nat) (c c' : List P3) (q : P3), cs[i]? = some c → cs[i']? = some c' → q ∈ c → q ∈ c' → i = i'
theorem Chn.nil (nx : P3 → P3) : Chn nx [] [] := ⟨fun _ h => (nomatch h), fun _ h => (nomatch h), fun _ h => (nomatch h), fun _ h => (nomatch h), fun i _ c _ _ h => by simp at h⟩
section
variable {nx : P3 → P3} {ps : List P3} {cs : List (List P3)} {p : P3}
/-- which chain goes on -/
theorem Chn.last (g : Chn nx ps cs) (hp : p ∉ ps) {i : Nat} {c : List P3} {q : P3} (hi : cs[i]? = some c) (hq : q ∈ c) (e : nx q = p) : c.getLast? = some q := by
  obtain ⟨j, hj, eq⟩ := List.getElem_of_mem hq
  have hc := List.mem_of_getElem? hi
  by_cases hl : j + 1 < c.length
  · have := g.chain c hc j q c[j + 1] (by rw [List.getElem?_eq_getElem hj, eq]) (by rw [List.getElem?_eq_getElem hl])
    exact absurd (g.sub c hc _ (List.getElem_mem hl)) (by rw [this, e]; exact hp)
  · rw [List.getLast?_eq_getElem?]
    have : c.length - 1 = j := by omega
    rw [this, List.getElem?_eq_getElem hj, eq]
theorem Chn.find (g : Chn nx ps cs) (hp : p ∉ ps) (hin : ∀ x ∈ ps, ∀ y ∈ ps, nx x = nx y → x = y) {i : Nat} {c : List P3} {q : P3} (hi : cs[i]? = some c) (hq : q ∈ c) (e : nx q = p) : cs.findIdx? (fun c => decide (c.getLast?.map nx = some p)) = some i := by
  have hc := List.mem_of_getElem? hi
  have hl := g.last hp hi hq e
  rw [List.findIdx?_eq_some_iff_getElem]
  obtain ⟨hil, hie⟩ := List.getElem?_eq_some_iff.mp hi
  refine ⟨hil, by rw [hie, hl]; simp [e], fun j hj => ?_⟩
  have hjl : j < cs.length := by omega
  simp only [decide_eq_true_eq]
  intro z
  obtain ⟨q', h1, h2⟩ := Option.map_eq_some_iff.mp z
  have hq' : q' ∈ cs[j] := List.mem_of_getLast? h1
  have e2 : q' = q := hin q' (g.sub _ (List.getElem_mem hjl) _ hq') q (g.sub c hc q hq) (h2.trans e.symm)
  subst e2
  have := g.disj j i cs[j] c q' (by simp [hjl]) hi hq' hq
  omega
theorem Chn.findN (g : Chn nx ps cs) (hn : ∀ q ∈ ps, nx q ≠ p) : cs.findIdx? (fun c => decide (c.getLast?.map nx = some p)) = none := by
  rw [List.findIdx?_eq_none_iff]
  intro c hc
  simp only [decide_eq_false_iff_not]
  intro z
  obtain ⟨q, h1, h2⟩ := Option.map_eq_some_iff.mp z
  exact hn q (g.sub c hc q (List.mem_of_getLast? h1)) h2
theorem Chn.step1 (g : Chn nx ps cs) (hp : p ∉ ps) {i : Nat} {c : List P3} {q : P3} (hi : cs[i]? = some c) (hl : c.getLast? = some q) (e : nx q = p) : Chn nx (ps ++ [p]) (cs.set i (c ++ [p])) := by
  have hc := List.mem_of_getElem? hi
  obtain ⟨hil, hie⟩ := List.getElem?_eq_some_iff.mp hi
  have at_ : ∀ (j : Nat) (d : List P3), (cs.set i (c ++ [p]))[j]? = some d → (j = i ∧ d = c ++ [p]) ∨ (j ≠ i ∧ cs[j]? = some d) := by
    intro j d hd
    by_cases hj : j = i
    · subst hj
      rw [List.getElem?_set_self hil] at hd
      exact .inl ⟨rfl, (Option.some.inj hd).symm⟩
    · rw [List.getElem?_set_ne (Ne.symm hj)] at hd
      exact .inr ⟨hj, hd⟩
  have mem : ∀ d ∈ cs.set i (c ++ [p]), d = c ++ [p] ∨ d ∈ cs := fun d hd => by
    obtain ⟨j, hj⟩ := List.getElem?_of_mem hd
    rcases at_ j d hj with ⟨_, h⟩ | ⟨_, h⟩
    · exact .inl h
    · exact .inr (List.mem_of_getElem? h)
  refine ⟨fun x hx => ?_, fun d hd x hx => ?_, fun d hd => ?_, fun d hd j x y h1 h2 => ?_, fun j j' d d' x h1 h2 h3 h4 => ?_⟩
  · rcases List.mem_append.mp hx with hx | hx
    · obtain ⟨j, d, h1, h2⟩ := g.has x hx
      by_cases hj : j = i
      · subst hj
        rw [hi] at h1; cases h1
        exact ⟨j, c ++ [p], List.getElem?_set_self hil, List.mem_append_left _ h2⟩
      · exact ⟨j, d, by rw [List.getElem?_set_ne (Ne.symm hj)]; exact h1, h2⟩
    · rw [List.mem_singleton.mp hx]
      exact ⟨i, c ++ [p], List.getElem?_set_self hil, by simp⟩
  · rcases mem d hd with rfl | hd
    · rcases List.mem_append.mp hx with hx | hx
      · exact List.mem_append_left _ (g.sub c hc x hx)
      · exact List.mem_append_right _ hx
    · exact List.mem_append_left _ (g.sub d hd x hx)
  · rcases mem d hd with rfl | hd
    · simp
    · exact g.ne d hd
  · rcases mem d hd with rfl | hd
    · by_cases hj : j + 1 < c.length
      · rw [List.getElem?_append_left (by omega)] at h1
        rw [List.getElem?_append_left hj] at h2
        exact g.chain c hc j x y h1 h2
      · by_cases hj2 : j + 1 = c.length
        · rw [List.getElem?_append_left (by omega)] at h1
          rw [List.getElem?_append_right (by omega)] at h2
          rw [List.getLast?_eq_getElem?, show c.length - 1 = j by omega, h1] at hl
          cases hl
          simp [hj2] at h2
          rw [← h2, e]
        · rw [List.getElem?_eq_none (by simp; omega)] at h2
          cases h2
    · exact g.chain d hd j x y h1 h2
  · have nd : ∀ (k : Nat) (d : List P3), cs[k]? = some d → p ∉ d := fun k d hk z => hp (g.sub d (List.mem_of_getElem? hk) p z)
    rcases at_ j d h1 with ⟨a1, rfl⟩ | ⟨a1, a2⟩ <;> rcases at_ j' d' h2 with ⟨b1, rfl⟩ | ⟨b1, b2⟩
    · omega
    · rcases List.mem_append.mp h3 with h3 | h3
      · have := g.disj i j' c d' x hi b2 h3 h4; omega
      · rw [List.mem_singleton.mp h3] at h4
        exact absurd h4 (nd _ _ b2)
    · rcases List.mem_append.mp h4 with h4 | h4
      · have := g.disj j i d c x a2 hi h3 h4; omega
      · rw [List.mem_singleton.mp h4] at h3
        exact absurd h3 (nd _ _ a2)
    · exact g.disj j j' d d' x a2 b2 h3 h4
theorem Chn.step0 (g : Chn nx ps cs) (hp : p ∉ ps) : Chn nx (ps ++ [p]) (cs ++ [[p]]) := by
  have at_ : ∀ (j : Nat) (d : List P3), (cs ++ [[p]])[j]? = some d → (j = cs.length ∧ d = [p]) ∨ cs[j]? = some d := by
    intro j d hd
    by_cases hj : j < cs.length
    · rw [List.getElem?_append_left hj] at hd; exact .inr hd
    · rw [List.getElem?_append_right (by omega)] at hd
      have : j - cs.length = 0 := by
        have := (List.getElem?_eq_some_iff.mp hd).1
        simp at this; omega
      rw [this] at hd
      simp at hd
      exact .inl ⟨by omega, hd.symm⟩
  have nd : ∀ (k : Nat) (d : List P3), cs[k]? = some d → p ∉ d := fun k d hk z => hp (g.sub d (List.mem_of_getElem? hk) p z)
  refine ⟨fun x hx => ?_, fun d hd x hx => ?_, fun d hd => ?_, fun d hd j x y h1 h2 => ?_, fun j j' d d' x h1 h2 h3 h4 => ?_⟩
  · rcases List.mem_append.mp hx with hx | hx
    · obtain ⟨j, d, h1, h2⟩ := g.has x hx
      exact ⟨j, d, by rw [List.getElem?_append_left (List.getElem?_eq_some_iff.mp h1).1]; exact h1, h2⟩
    · rw [List.mem_singleton.mp hx]
      exact ⟨cs.length, [p], by simp, by simp⟩
  · rcases List.mem_append.mp hd with hd | hd
    · exact List.mem_append_left _ (g.sub d hd x hx)
    · rw [List.mem_singleton.mp hd] at hx
      exact List.mem_append_right _ hx
  · rcases List.mem_append.mp hd with hd | hd
    · exact g.ne d hd
    · rw [List.mem_singleton.mp hd]; simp
  · rcases List.mem_append.mp hd with hd | hd
    · exact g.chain d hd j x y h1 h2
    · rw [List.mem_singleton.mp hd] at h2
      simp at h2
  · rcases at_ j d h1 with ⟨a1, rfl⟩ | a2 <;> rcases at_ j' d' h2 with ⟨b1, rfl⟩ | b2
    · omega
    · rw [List.mem_singleton.mp h3] at h4
      exact absurd h4 (nd _ _ b2)
    · rw [List.mem_singleton.mp h4] at h3
      exact absurd h3 (nd _ _ a2)
    · exact g.disj j j' d d' x a2 b2 h3 h4
/-- one step of both -/
theorem Chn.step (g : Chn nx ps cs) (hp : p ∉ ps) (hin : ∀ x ∈ ps, ∀ y ∈ ps, nx x = nx y → x = y) : Chn nx (ps ++ [p]) (stepC nx cs p) := by
  unfold stepC
  by_cases c : ∃ q ∈ ps, nx q = p
  · obtain ⟨q, hq, e⟩ := c
    obtain ⟨i, d, h1, h2⟩ := g.has q hq
    rw [g.find hp hin h1 h2 e]
    simp only [h1, Option.getD_some]
    exact g.step1 hp h1 (g.last hp h1 h2 e) e
  · rw [g.findN fun q hq e => c ⟨q, hq, e⟩]
    exact g.step0 hp
end
end J

namespace J
open PySem PySem.Spec PyProof.Rows L2
/-! ## ball_ways -/
section
variable {n : Nat} {r : Row}
end
/-! ### the store -/
structure BwS (S : Sto) (Q : P3 → D) (ks : List P3) (f : P3 → D) (cs : List (List P3)) (ws : List Nat) (S' : Sto) : Prop where
  pre : ∃ G, S' = S ++ G
  dic : S'[S.length]? = some (.dic ((dd ks).map e3) ((dd ks).map f))
  len : ws.length = cs.length
  fnd : S'[S.length + 1]? = some (.lst (ws.map .ref))
  at_ : ∀ (i : Nat) (c : List P3), cs[i]? = some c → ∃ w, ws[i]? = some w ∧ S.length + 1 < w ∧ S'[w]? = some (.lst (c.map Q))
  nd : ws.Nodup
theorem st_e3f {n : Nat} {S : Sto} {L : List P3} {V : P3 → D} (h : S[n]? = some (.dic ((dd L).map e3) ((dd L).map V))) (hl : L.length ≤ 1000000) (p : P3) (v : D) : stItem (.rdc n) (e3 p) v S = .ok .non (S.set n (.dic ((dd (L ++ [p])).map e3) ((dd (L ++ [p])).map fun k => if k = p then v else V k))) := by
  obtain ⟨e1, e2⟩ := dPut_e ke3 L V p v
  have hk : ((dd L).map e3).length < sLim := by have := dd_len L; rw [List.length_map, sLim_eq]; omega
  unfold stItem stItemD
  simp only [h, ke3.ok, hk, and_self, if_true, e1, e2]
theorem BwS.nil (S : Sto) (Q : P3 → D) : BwS S Q [] (fun _ => .non) [] [] (S ++ [.dic [] []] ++ [.lst []]) := ⟨⟨[.dic [] [], .lst []], by simp⟩, by simp [dd], rfl, by simp, fun i c h => by simp at h, List.nodup_nil⟩
/-- a further throw of a ball that is known -/
theorem BwS.add {S : Sto} {Q : P3 → D} {ks : List P3} {f : P3 → D} {cs : List (List P3)} {ws : List Nat} {S' : Sto} (g : BwS S Q ks f cs ws S') {i : Nat} {c : List P3} (hi : cs[i]? = some c) (p κ : P3) (v : D) (hl : ks.length ≤ 1000000) (hcl : c.length < 1000000) :
    ∃ (w : Nat) (S1 S2 : Sto), gIx (.ref (S.length + 1)) (.int (i : Nat)) S' = .ok (.ref w) S' ∧ lstTy (.ref w) S' = .ok (.ref w) S' ∧ gAppend (.ref w) [Q p] S' = .ok .non S1 ∧ stItem (.rdc S.length) (e3 κ) v S1 = .ok .non S2 ∧
      BwS S Q (ks ++ [κ]) (fun k => if k = κ then v else f k) (cs.set i (c ++ [p])) ws S2 := by
  obtain ⟨w, hw, hlt, hat⟩ := g.at_ i c hi
  have hwl := (List.getElem?_eq_some_iff.mp hat).1
  have hdl := (List.getElem?_eq_some_iff.mp g.dic).1
  have hfl := (List.getElem?_eq_some_iff.mp g.fnd).1
  have hil := (List.getElem?_eq_some_iff.mp hi).1
  have ap := gAppend_r (y := Q p) hat (by rw [List.length_map]; exact hcl)
  have d1 : (S'.set w (.lst (c.map Q ++ [Q p])))[S.length]? = some (.dic ((dd ks).map e3) ((dd ks).map f)) := by rw [List.getElem?_set_ne (by omega)]; exact g.dic
  have st := st_e3f d1 hl κ v
  refine ⟨w, _, _, gIx_r g.fnd (atI_nat _ i (by rw [List.getElem?_map, hw]; rfl)), lstTy_ref _ _, ap, st, ?_⟩
  refine ⟨pre_set (pre_set g.pre (by omega)) (Nat.le_refl _), List.getElem?_set_self (by simp; omega), by rw [List.length_set]; exact g.len, ?_, ?_, g.nd⟩
  · rw [List.getElem?_set_ne (by omega), List.getElem?_set_ne (by omega)]; exact g.fnd
  · intro j d hd
    by_cases hj : j = i
    · subst hj
      rw [List.getElem?_set_self hil] at hd
      cases hd
      refine ⟨w, hw, hlt, ?_⟩
      rw [List.getElem?_set_ne (by omega), List.getElem?_set_self hwl, List.map_append]
      rfl
    · rw [List.getElem?_set_ne (Ne.symm hj)] at hd
      obtain ⟨w', a1, a2, a3⟩ := g.at_ j d hd
      refine ⟨w', a1, a2, ?_⟩
      have : w ≠ w' := by
        intro z
        subst z
        have hjl := (List.getElem?_eq_some_iff.mp a1).1
        have hil' := (List.getElem?_eq_some_iff.mp hw).1
        have e1 := (List.getElem?_eq_some_iff.mp a1).2
        have e2 := (List.getElem?_eq_some_iff.mp hw).2
        exact hj ((List.getElem_inj (h₀ := hjl) (h₁ := hil') g.nd).mp (e1.trans e2.symm))
      rw [List.getElem?_set_ne (by omega), List.getElem?_set_ne this]
      exact a3
/-- a new ball -/
theorem BwS.more {S : Sto} {Q : P3 → D} {ks : List P3} {f : P3 → D} {cs : List (List P3)} {ws : List Nat} {S' : Sto} (g : BwS S Q ks f cs ws S') (hl : cs.length < 1000000) :
    ∃ S1, gLen [.ref (S.length + 1)] S' = .ok (.int (cs.length : Nat)) S' ∧ gAppend (.ref (S.length + 1)) [.ref S'.length] (S' ++ [.lst []]) = .ok .non S1 ∧ BwS S Q ks f (cs ++ [[]]) (ws ++ [S'.length]) S1 := by
  have hdl := (List.getElem?_eq_some_iff.mp g.dic).1
  have hfl := (List.getElem?_eq_some_iff.mp g.fnd).1
  have gl := gLen_r g.fnd
  rw [List.length_map, g.len] at gl
  have f1 : (S' ++ [O.lst []])[S.length + 1]? = some (.lst (ws.map .ref)) := by rw [List.getElem?_append_left hfl]; exact g.fnd
  have ap := gAppend_r (y := .ref S'.length) f1 (by rw [List.length_map, g.len]; exact hl)
  refine ⟨_, gl, ap, ?_⟩
  refine ⟨pre_set (pre_app g.pre) (by omega), ?_, by simp [g.len], ?_, ?_, ?_⟩
  · rw [List.getElem?_set_ne (by omega), List.getElem?_append_left hdl]; exact g.dic
  · rw [List.getElem?_set_self (by simp; omega), List.map_append]; rfl
  · intro j d hd
    by_cases hj : j < cs.length
    · rw [List.getElem?_append_left hj] at hd
      obtain ⟨w', a1, a2, a3⟩ := g.at_ j d hd
      have hw := (List.getElem?_eq_some_iff.mp a3).1
      exact ⟨w', by rw [List.getElem?_append_left (by rw [g.len]; exact hj)]; exact a1, a2, by rw [List.getElem?_set_ne (by omega), List.getElem?_append_left hw]; exact a3⟩
    · rw [List.getElem?_append_right (by omega)] at hd
      have h0 : j - cs.length = 0 := by
        have := (List.getElem?_eq_some_iff.mp hd).1
        simp at this; omega
      rw [h0] at hd
      simp at hd
      subst hd
      refine ⟨S'.length, by rw [List.getElem?_append_right (by rw [g.len]; omega), g.len, h0]; rfl, by omega, ?_⟩
      rw [List.getElem?_set_ne (by omega), List.getElem?_append_right (Nat.le_refl _)]
      simp
  · rw [List.nodup_append]
    refine ⟨g.nd, by simp, fun x hx y hy e => ?_⟩
    rw [List.mem_singleton.mp hy] at e
    obtain ⟨j, hj⟩ := List.getElem?_of_mem hx
    have hjl := (List.getElem?_eq_some_iff.mp hj).1
    have hjc : j < cs.length := by rw [← g.len]; exact hjl
    obtain ⟨w, b1, b2, b3⟩ := g.at_ j cs[j] (by simp [hjc])
    rw [hj] at b1
    cases b1
    have := (List.getElem?_eq_some_iff.mp b3).1
    omega
end J

namespace J
open PySem PySem.Spec PyProof.Rows L2
/-! ### the def -/
end J

namespace J
open PySem PySem.Spec PyProof.Rows L2
/-! ## rows said several times -/
section
variable {n : Nat} {r : Row} {m : Nat}
end
end J

namespace J
open PySem PySem.Spec PyProof.Rows L2
/-! ## the order of throws that land at once, of a row said several times -/
section
variable {n : Nat} {r : Row} {m : Nat}
end
end J

namespace J
open PySem PySem.Spec PyProof.Rows L2
/-! ## a dict by a comprehension -/
@[simp] theorem eDcN_d (fi : CI) (g : CG) (us : List Nat) (fk fv : CE) (env : Env) (S : Sto) : eDcN fi g us fk fv env S = (fi env S).bind fun src S => ((dGo src g fk fv (src.len S) 0 (wipeE env us) [] [] S).nox).bind fun p S => .ok (.dic p.1 p.2) S := Eq.trans rfl rfl
theorem dGo_fix {α : Type} [DecidableEq α] {e : α → D} (he : Ke e) {f : α → D} {i : Nat} {env : Env} {fk fv : CE} {S : Sto} (hi : i < env.length) {xs : List α} (hl : xs.length ≤ 1000000)
    (hk : ∀ x ∈ xs, fk (env.set i (some (e x))) S = .ok (e x) S) (hv : ∀ x ∈ xs, fv (env.set i (some (e x))) S = .ok (f x) S) :
    ∀ (post pre : List α), pre ++ post = xs → dGo (.fix (xs.map e)) (gName i) fk fv post.length pre.length env ((dd pre).map e) ((dd pre).map f) S = .ok ((dd xs).map e, (dd xs).map f) S
  | [], pre, hp => by
    rw [List.append_nil] at hp
    subst hp
    unfold dGo
    have : (Src.fix (pre.map e)).at pre.length S = some none := by unfold Src.at; simp
    simp only [List.length_nil, this]
  | x :: post, pre, hp => by
    have hx : x ∈ xs := by rw [← hp]; simp
    have hat : (Src.fix (xs.map e)).at pre.length S = some (some (e x)) := by unfold Src.at; rw [← hp]; simp
    have hpl : pre.length ≤ xs.length := by rw [← hp]; simp
    have hd := dd_len pre
    obtain ⟨p1, p2⟩ := dPut_e he pre f x (f x)
    have ev : (fun k => if k = x then f x else f k) = f := by
      funext k
      by_cases c : k = x
      · rw [if_pos c, c]
      · rw [if_neg c]
    rw [ev] at p2
    have ih := dGo_fix he hi hl hk hv post (pre ++ [x]) (by rw [← hp]; simp)
    rw [List.length_append] at ih
    simp only [List.length_singleton] at ih
    unfold dGo
    simp only [List.length_cons, hat, gName_d]
    simp only [R.nox_ok, R.bind_ok, hk x hx, hv x hx, he.ok, true_and]
    rw [if_pos (by rw [List.length_map, sLim_eq]; omega), p1, p2]
    exact ih
theorem nks_map {α : Type} (f : α → D) (g : α → NestedKey) (h : ∀ a, (f a).nk = some (g a)) : ∀ xs : List α, D.nks (xs.map f) = some (xs.map g)
  | [] => rfl
  | x :: xs => by simp only [List.map_cons, D.nks, h x, nks_map f g h xs]
theorem map_injG {α β : Type} {e : α → β} (he : ∀ {a b}, e a = e b → a = b) : ∀ {xs ys : List α}, xs.map e = ys.map e → xs = ys
  | [], [], _ => rfl
  | [], _ :: _, h => by simp at h
  | _ :: _, [], h => by simp at h
  | x :: xs, y :: ys, h => by
    simp only [List.map_cons, List.cons.injEq] at h
    rw [he h.1, map_injG he h.2]
def kS (s : St) : NestedKey := .tup (s.map fun c => .tup (c.map .num))
theorem nk_eS (s : St) : (eS s).nk = some (kS s) := by
  unfold eS kS
  simp only [D.nk]
  rw [nks_map eL (fun c => .tup (c.map .num)) fun c => ?_]
  · rfl
  · unfold eL
    simp only [D.nk]
    rw [nks_map D.int NestedKey.num fun _ => rfl]
    rfl
theorem kS_inj {a b : St} (h : kS a = kS b) : a = b := by
  unfold kS at h
  injection h with h
  refine map_injG (e := fun c : List Int => NestedKey.tup (c.map .num)) (fun {x y} e => ?_) h
  injection e with e
  exact map_injG (e := NestedKey.num) (fun {u v} e => by injection e) e
theorem keS : Ke eS := ⟨fun a b => by
  rw [nk_eS, nk_eS]
  constructor
  · intro h; exact kS_inj (Option.some.inj h)
  · intro h; rw [h], fun ks a => by
  unfold kOk
  have h1 : (ks.map eS).all D.isT = true := by rw [List.all_map]; exact List.all_eq_true.mpr fun x _ => rfl
  have h2 : (eS a).isT = true := rfl
  have h3 : D.deps (ks.map eS) ≤ 8 := Nat.le_trans (deps_map dep_eS ks) (by omega)
  have h4 : (eS a).dep ≤ 8 := Nat.le_trans (dep_eS a) (by omega)
  have h5 : (eS a).nk.isSome = true := by rw [nk_eS]; rfl
  simp [h1, h2, h3, h4, h5]⟩
section
variable {n : Nat} {r : Row}
theorem VR.take (h : VR n r) {p : Nat} (h1 : 1 ≤ p) (h2 : p ≤ r.length) : VR n (r.take p) := ⟨h.n1, h.n6, by simp; have := h.l1; omega, by simp; have := h.l24; omega, fun b hb => h.beats b (List.mem_of_mem_take hb)⟩
end
end J

namespace J
open PySem PySem.Spec PyProof.Rows L2
/-! ## k07: chains of throws -/
section
variable {nx : P3 → P3}
/-- heads: no throw leads to one -/
structure Hds (nx : P3 → P3) (ps : List P3) (cs : List (List P3)) : Prop where
  no : ∀ c ∈ cs, ∀ p, c.head? = some p → ∀ q ∈ ps, nx q ≠ p
  sub : (cs.map fun c => c.head?.getD (0, 0, 0)).Sublist ps
variable {ps : List P3} {cs : List (List P3)}
end
section
variable {n : Nat} {r : Row} {size : Nat}
end
end J

namespace J
open PySem PySem.Spec PyProof.Rows L2
/-! ## k07: the told order -/
section
variable {n : Nat} {r : Row} {size : Nat}
end
/-! ### as data -/
end J

namespace J
open PySem PySem.Spec PyProof.Rows L2
end J

namespace J
open PySem PySem.Spec PyProof.Rows L2
end J

namespace J
open PySem PySem.Spec PyProof.Rows L2
/-! ## dealt -/
abbrev Gl2 := Int × Int
def dnF (f : Gl2 → Int) (g : Gl2) : Gl2 → Int := fun x => if x = g then f x - 1 else f x
def dlK (rc : List Gl2 → (Gl2 → Int) → List (List Gl2)) (gs : List Gl2) (f : Gl2 → Int) (k : Nat) : List (List Gl2) := if 0 < f ((gs[k]?).getD (0, 0)) then (rc (gs.drop k) (dnF f ((gs[k]?).getD (0, 0)))).map (((gs[k]?).getD (0, 0)) :: ·) else []
def dl : Nat → List Gl2 → (Gl2 → Int) → List (List Gl2)
  | 0, _, _ => [[]]
  | m + 1, gs, f => (List.range gs.length).flatMap (dlK (dl m) gs f)
theorem dl_len : ∀ (m : Nat) (gs : List Gl2) (f : Gl2 → Int) {B : Nat}, gs.length ≤ B → (dl m gs f).length ≤ B ^ m
  | 0, _, _, _, _ => by simp [dl]
  | m + 1, gs, f, B, hB => by
    unfold dl
    have := flat_le (k := B ^ m) (f := dlK (dl m) gs f) (xs := List.range gs.length) fun k => by
      unfold dlK
      split
      · rw [List.length_map]
        exact dl_len m _ _ (by rw [List.length_drop]; omega)
      · simp
    rw [List.length_range] at this
    refine Nat.le_trans this ?_
    rw [Nat.pow_succ, Nat.mul_comm]
    exact Nat.mul_le_mul_left _ hB
theorem dl_row : ∀ (m : Nat) (gs : List Gl2) (f : Gl2 → Int) {r : List Gl2}, r ∈ dl m gs f → r.length = m
  | 0, _, _, r, h => by simp [dl] at h; simp [h]
  | m + 1, gs, f, r, h => by
    unfold dl at h
    obtain ⟨k, _, h⟩ := List.mem_flatMap.mp h
    unfold dlK at h
    split at h
    · obtain ⟨q, hq, rfl⟩ := List.mem_map.mp h
      rw [List.length_cons, dl_row m _ _ hq]
    · cases h
def eRw (r : List Gl2) : D := .tup (r.map e2)
theorem dd_id {α : Type} [DecidableEq α] {xs : List α} (h : xs.Nodup) : dd xs = xs := by
  induction xs using snoc_ind with
  | h0 => rfl
  | h1 xs x ih =>
    rw [List.nodup_append] at h
    rw [dd_snoc, ih h.1, if_neg fun z => h.2.2 x z x (by simp) rfl]
theorem dSet_e {α : Type} [DecidableEq α] {e : α → D} (he : Ke e) {ks : List α} (hn : ks.Nodup) {x : α} (hx : x ∈ ks) (f : α → D) (v : D) : dKs (ks.map e) (e x) = ks.map e ∧ dVs (ks.map e) (ks.map f) (e x) v = ks.map fun k => if k = x then v else f k := by
  have := dPut_e he ks f x v
  rw [dd_snoc, dd_id hn, if_pos hx] at this
  exact this
/-- a table of numbers -/
def TabD (ks : List Gl2) (f : Gl2 → Int) (S : Sto) (d : D) : Prop := dicOf S d = some (ks.map e2, ks.map fun g => .int (f g))
section
variable {ks : List Gl2} {f : Gl2 → Int} {S : Sto} {d : D}
theorem TabD.get (h : TabD ks f S d) {g : Gl2} (hg : g ∈ ks) (z : D) : gGet d [e2 g, z] S = .ok (.int (f g)) S := by
  unfold gGet onKey
  unfold TabD at h
  simp only [h, ke2.ok, if_true, dGet_e ke2, if_pos hg, Option.getD_some]
theorem TabD.copy (h : TabD ks f S d) (hc : cpOk (ks.map e2)) : gDictS [d] S = .ok (.rdc S.length) (S ++ [.dic (ks.map e2) (ks.map fun g => .int (f g))]) := by
  unfold gDictS one
  unfold TabD at h
  simp only [h]
  rw [if_pos hc]
theorem tab_rdc {n : Nat} (h : S[n]? = some (.dic (ks.map e2) (ks.map fun g => .int (f g)))) : TabD ks f S (.rdc n) := by simp [TabD, dicOf, h]
theorem tab_ld {n : Nat} (h : S[n]? = some (.dic (ks.map e2) (ks.map fun g => .int (f g)))) {g : Gl2} (hg : g ∈ ks) : ldItem (.rdc n) (e2 g) S = .ok (.int (f g)) S := by
  have : dicOf S (.rdc n) = some (ks.map e2, ks.map fun g => .int (f g)) := by simp [dicOf, h]
  unfold ldItem gIxD onKey
  simp only [this, ke2.ok, if_true, dGet_e ke2, if_pos hg]
theorem tab_st {n : Nat} (hn : ks.Nodup) (hl : ks.length ≤ 1000000) (h : S[n]? = some (.dic (ks.map e2) (ks.map fun g => .int (f g)))) {g : Gl2} (hg : g ∈ ks) : stItem (.rdc n) (e2 g) (.int (f g - 1)) S = .ok .non (S.set n (.dic (ks.map e2) (ks.map fun x => .int (dnF f g x)))) := by
  obtain ⟨p1, p2⟩ := dSet_e ke2 hn hg (fun g => .int (f g)) (.int (f g - 1))
  have hk : (ks.map e2).length < sLim := by rw [List.length_map, sLim_eq]; omega
  have ev : (ks.map fun k => if k = g then D.int (f g - 1) else .int (f k)) = ks.map fun x => .int (dnF f g x) := by
    refine List.map_congr_left fun k _ => ?_
    unfold dnF
    by_cases c : k = g
    · rw [if_pos c, if_pos c, c]
    · rw [if_neg c, if_neg c]
  unfold stItem stItemD
  simp only [h, ke2.ok, hk, and_self, if_true, p1, p2, ev]
theorem TabD.app (h : TabD ks f S d) (G : Sto) : TabD ks f (S ++ G) d := by
  unfold TabD at h ⊢
  cases d with
  | rdc n =>
    unfold dicOf at h ⊢
    cases e : S[n]? with
    | none => simp [e] at h
    | some o =>
      have e2 : (S ++ G)[n]? = S[n]? := List.getElem?_append_left (List.getElem?_eq_some_iff.mp e).1
      simp only [e2]
      exact h
  | _ => exact h
end
theorem enum_G (gs : List Gl2) : enumD (gs.map e2) = (List.range gs.length).map fun k => .tup [.int (k : Nat), e2 ((gs[k]?).getD (0, 0))] := by
  rw [enumD_map, zipIdx_range (0, 0) gs, List.map_map]
  rfl
theorem dealt_ok {ks : List Gl2} (hn : ks.Nodup) (hkl : ks.length ≤ 1000) (hc : cpOk (ks.map e2)) : ∀ (m fuel : Nat) (gs : List Gl2) (f : Gl2 → Int) (d : D) (S : Sto) {B : Nat}, m < fuel → (∀ g ∈ gs, g ∈ ks) → gs.length ≤ B → 1 ≤ B → B ^ m ≤ 100000 → m ≤ 1000 → TabD ks f S d →
    GR_dealt fuel [.int (m : Nat), .new (gs.map e2), d] S = .ok (.new ((dl m gs f).map eRw)) S := by
  intro m
  induction m with
  | zero =>
    intro fuel gs f d S B hf hg hB hB1 hBm _ ht
    obtain ⟨fuel, rfl⟩ : ∃ g, fuel = g + 1 := ⟨fuel - 1, by omega⟩
    rw [GR_dealt_eq, FR_dealt]
    have z0 : (0 : Nat) ≤ sLim := Nat.zero_le _
    have z1 : (1 : Nat) ≤ sLim := by rw [sLim_eq]; omega
    have e0 : decide (((0 : Nat) : Int) = 0) = true := rfl
    simp only [sSeq_d, sIf_d, tBool_d, eOp_d, eVar_d, eC_d, List.getElem?_cons_succ, List.getElem?_cons_zero, R.bind_ok, gEq_i, e0, toB_bl, R.st_ok, if_true, sRet_d, eNew_d, aCall_d, aCons_d, aNil_d, eTup_d, gTupD_d, gDisp_d, List.length_cons, List.length_nil, Nat.zero_add, z0, z1, RS.next_rt, fnR_rt]
    exact gc_same (und_new (by simp; exact und_tup (by simp)))
  | succ m ih =>
    intro fuel gs f d S B hf hg hB hB1 hBm hm ht
    obtain ⟨fuel, rfl⟩ : ∃ g, fuel = g + 1 := ⟨fuel - 1, by omega⟩
    rw [GR_dealt_eq, FR_dealt]
    have z0 : (0 : Nat) ≤ sLim := Nat.zero_le _
    have z1 : (1 : Nat) ≤ sLim := by rw [sLim_eq]; omega
    have hBm' : B ^ m ≤ 100000 := Nat.le_trans (Nat.pow_le_pow_right hB1 (by omega)) hBm
    have e0 : decide (((m + 1 : Nat) : Int) = 0) = false := decide_eq_false (by omega)
    have e1 : ((m + 1 : Nat) : Int) - 1 = (m : Int) := by omega
    simp only [sSeq_d, sIf_d, tBool_d, eOp_d, eVar_d, eC_d, List.getElem?_cons_succ, List.getElem?_cons_zero, R.bind_ok, gEq_i, e0, toB_bl, R.st_ok, Bool.false_eq_true, if_false, sNext_d, RS.next_nx, sAsg_d, eAlloc_d, aCall_d, aNil_d, gDisp_d, List.length_nil, z0, if_true, gName_d, gSt_ok, List.set_cons_succ, List.set_cons_zero]
    rw [sFor_fix (ds := (List.range gs.length).map fun k => .tup [.int (k : Nat), e2 ((gs[k]?).getD (0, 0))]) (S1 := S ++ [.lst []]) (by simp only [iEnumD_d, aCons_d, aNil_d, eVar_d, List.getElem?_cons_succ, List.getElem?_cons_zero, R.bind_ok, enumSrc_n, enum_G])]
    refine forL_preN (fun z => gc S (fnR z) = .ok (.new ((dl (m + 1) gs f).map eRw)) S) (fun k : Nat => .tup [.int (k : Nat), e2 ((gs[k]?).getD (0, 0))]) (fun pre env S' => (∃ G, S' = S ++ [.lst ((pre.flatMap (dlK (dl m) gs f)).map eRw)] ++ G) ∧ ∃ o4 o5 o6 : Option D, env = [some (.int ((m + 1 : Nat) : Int)), some (.new (gs.map e2)), some d, some (.ref S.length), o4, o5, o6, none]) (List.range gs.length) ?h0 ?_ ?_
    case h0 => exact ⟨⟨[], by simp⟩, _, _, _, rfl⟩
    · rintro pre k post env S' hx ⟨⟨G, rfl⟩, o4, o5, o6, rfl⟩
      have hk : k < gs.length := by simpa using mem_of_split hx
      have hpl : pre.length < gs.length := by have := split_le hx; simpa using this
      have hpB : (pre.flatMap (dlK (dl m) gs f)).length ≤ pre.length * B ^ m := flat_le fun k => by
        unfold dlK
        split
        · rw [List.length_map]; exact dl_len m _ _ (by rw [List.length_drop]; omega)
        · simp
      have hpB2 : (pre.flatMap (dlK (dl m) gs f)).length ≤ 100000 := by
        refine Nat.le_trans hpB (Nat.le_trans (Nat.mul_le_mul_right _ (show pre.length ≤ B by omega)) ?_)
        rw [Nat.mul_comm, ← Nat.pow_succ]; exact hBm
      have hdk : (gs[k]?).getD (0, 0) = gs[k] := by simp [hk]
      have hgk : gs[k] ∈ ks := hg _ (List.getElem_mem hk)
      have hdl := dl_len m (gs.drop k) (dnF f gs[k]) (B := B) (by rw [List.length_drop]; omega)
      have eK : dlK (dl m) gs f k = if 0 < f gs[k] then (dl m (gs.drop k) (dnF f gs[k])).map (gs[k] :: ·) else [] := by unfold dlK; rw [hdk]
      have hdg : ∀ g ∈ gs.drop k, g ∈ ks := fun g hg' => hg g (List.mem_of_mem_drop hg')
      have hdB : (gs.drop k).length ≤ B := by rw [List.length_drop]; omega
      rw [hdk]
      generalize gs[k] = g at *
      generalize hX : pre.flatMap (dlK (dl m) gs f) = X at hpB2
      generalize hS : S ++ [O.lst (X.map eRw)] ++ G = S'
      have hat : S'[S.length]? = some (.lst (X.map eRw)) := by rw [← hS]; simp
      have hlt : S.length < S'.length := (List.getElem?_eq_some_iff.mp hat).1
      have ht' : TabD ks f S' d := by rw [← hS, List.append_assoc]; exact ht.app _
      have hpre : ∃ G, S' = S ++ G := ⟨[O.lst (X.map eRw)] ++ G, by rw [← hS]; simp⟩
      refine ⟨[some (.int ((m + 1 : Nat) : Int)), some (.new (gs.map e2)), some d, some (.ref S.length), some (.int (k : Nat)), some (e2 g), o6, none], S', by simp, ?_⟩
      have gg := ht'.get hgk (.int 0)
      have dt : dicTy d S' = .ok d S' := by unfold dicTy; rw [show dicOf S' d = some _ from ht']
      by_cases c : 0 < f g
      · have cd : decide ((0 : Int) < f g) = true := decide_eq_true c
        have cp := ht'.copy hc
        have a1 : (S' ++ [O.dic (ks.map e2) (ks.map fun g => .int (f g))])[S'.length]? = some (.dic (ks.map e2) (ks.map fun g => .int (f g))) := by simp
        have ld := tab_ld a1 hgk
        have st := tab_st hn (by omega) a1 hgk
        generalize hS2 : (S' ++ [O.dic (ks.map e2) (ks.map fun g => .int (f g))]).set S'.length (.dic (ks.map e2) (ks.map fun x => .int (dnF f g x))) = S2 at st
        have eS2 : S2 = S' ++ [O.dic (ks.map e2) (ks.map fun x => .int (dnF f g x))] := by rw [← hS2]; simp
        have b1 : S2[S'.length]? = some (.dic (ks.map e2) (ks.map fun x => .int (dnF f g x))) := by rw [eS2]; simp
        have b2 : S2[S.length]? = some (.lst (X.map eRw)) := by rw [eS2, List.getElem?_append_left hlt]; exact hat
        have sl : gSl (.new (gs.map e2)) (some (k : Int)) none S2 = .ok (.new ((gs.drop k).map e2)) S2 := by
          have := cut_from (gs.map e2) k
          show R.ok (D.new (cutD (gs.map e2) (some ((k : Nat) : Int)) none)) S2 = _
          rw [this, List.map_drop]
        have rc := ih fuel (gs.drop k) (dnF f g) (.rdc S'.length) S2 (B := B) (by omega) hdg hdB hB1 hBm' (by omega) (tab_rdc b1)
        have cf : cFor (iSeq (eCall (fnG 3 (GR_dealt fuel)) (aCons (eOp gSub (eVar 0) (eC (.int 1))) (aCons (eSl (eVar 1) (pSome (eVar 4)) (pNone)) (aCons (eVar 6) (aNil)))))) (gName 7) (tYesD) [7] (cElt (eOp gAdd (eTup (aCons (eVar 5) (aNil))) (eVar 7))) [some (.int ((m + 1 : Nat) : Int)), some (.new (gs.map e2)), some d, some (.ref S.length), some (.int (k : Nat)), some (e2 g), some (.rdc S'.length), none] [] S2 = .ok (((dl m (gs.drop k) (dnF f g)).map (g :: ·)).map eRw) S2 := by
          rw [cFor_fix (ds := (dl m (gs.drop k) (dnF f g)).map eRw) (S1 := S2) (by simp only [iSeq_d, eCall_d, aCons_d, aNil_d, eOp_d, eVar_d, eC_d, List.getElem?_cons_succ, List.getElem?_cons_zero, R.bind_ok, gSub_i, e1, eSl_d, pSome_d, pNone_d, toI_int, sl, fnG_d, List.length_cons, List.length_nil, Nat.zero_add, Nat.reduceAdd, if_true, rc, seqSrc_n]), cL_map eRw (fun r => eRw (g :: r)) (dl m (gs.drop k) (dnF f g)) [] (by rw [sLim_eq]; simp; omega) ?_]
          · simp [Function.comp_def]
          · intro r hr
            have hrl : r.length ≤ 1000 := by rw [dl_row _ _ _ hr]; omega
            refine ⟨[some (.int ((m + 1 : Nat) : Int)), some (.new (gs.map e2)), some d, some (.ref S.length), some (.int (k : Nat)), some (e2 g), some (.rdc S'.length), some (eRw r)], by simp [wipeE], by simp, ?_⟩
            simp only [eOp_d, eTup_d, aCons_d, aNil_d, eVar_d, List.getElem?_cons_succ, List.getElem?_cons_zero, R.bind_ok, gTupD_d, List.length_cons, List.length_nil, Nat.zero_add, z1, if_true]
            have : gAdd (.tup [e2 g]) (eRw r) S2 = .ok (eRw (g :: r)) S2 := by
              unfold eRw
              rw [gAdd_t, if_pos (by rw [sLim_eq]; simp; omega)]
              rfl
            exact this
        have ia := iadd_r b2 (ys := ((dl m (gs.drop k) (dnF f g)).map (g :: ·)).map eRw) (by simp only [List.length_map]; omega)
        rw [if_pos c] at eK
        refine Nx.of (env := [some (.int ((m + 1 : Nat) : Int)), some (.new (gs.map e2)), some d, some (.ref S.length), some (.int (k : Nat)), some (e2 g), some (.rdc S'.length), none]) (S := S2.set S.length (.lst (X.map eRw ++ ((dl m (gs.drop k) (dnF f g)).map (g :: ·)).map eRw))) ?_ ⟨⟨G ++ [O.dic (ks.map e2) (ks.map fun x => .int (dnF f g x))], ?_⟩, _, _, _, rfl⟩
        · simp only [sIf_d, tBool_d, eOp_d, eMethD_d, eVar_d, eC_d, List.getElem?_cons_succ, List.getElem?_cons_zero, R.bind_ok, dt, aCons_d, aNil_d, gg, gGt_i, cd, toB_bl, R.st_ok, if_true, sSeq_d, sAsg_d, eCall_d, cp, gName_d, gSt_ok, List.set_cons_succ, List.set_cons_zero, RS.next_nx, sAugItem_d, ld, R.nox_ok, gSub_i, st, sAug_d, eNew_d, aComp_d, cf, ia]
        · rw [eS2, ← hS, flat_snoc, hX, eK]
          simp
      · have cd : decide ((0 : Int) < f g) = false := decide_eq_false c
        rw [if_neg c] at eK
        refine Nx.of (env := [some (.int ((m + 1 : Nat) : Int)), some (.new (gs.map e2)), some d, some (.ref S.length), some (.int (k : Nat)), some (e2 g), o6, none]) (S := S') ?_ ⟨⟨G, ?_⟩, _, _, _, rfl⟩
        · simp only [sIf_d, tBool_d, eOp_d, eMethD_d, eVar_d, eC_d, List.getElem?_cons_succ, List.getElem?_cons_zero, R.bind_ok, dt, aCons_d, aNil_d, gg, gGt_i, cd, toB_bl, R.st_ok, Bool.false_eq_true, if_false, sNext_d]
        · rw [← hS, flat_snoc, hX, eK]
          simp
    · rintro env S' ⟨⟨G, rfl⟩, o4, o5, o6, rfl⟩
      simp only [sRet_d, eVar_d, List.getElem?_cons_succ, List.getElem?_cons_zero, R.st_ok, fnR_rt]
      rw [List.append_assoc]
      refine gc_pure (.own (Nat.le_refl _) (xs := (dl (m + 1) gs f).map eRw) (by simp [dl]) ?_)
      exact Frzs.of_below (unds_of fun x hx => by
        obtain ⟨q, _, rfl⟩ := List.mem_map.mp hx
        exact und_tup (by intro y hy; obtain ⟨z, _, rfl⟩ := List.mem_map.mp hy; exact und_tup (by simp)))
end J

namespace J
open PySem PySem.Spec PyProof.Rows L2
/-! ## a loop over a list in the store that stays -/
theorem forGo_lst {α : Type} {g : CG} {body : CS} {m : Nat} (e : α → D) (I : List α → Env → Sto → Prop) (xs : List α) (hI : ∀ pre env S, I pre env S → S[m]? = some (.lst (xs.map e)))
    (st : ∀ a x b env S, xs = a ++ x :: b → I a env S → ∃ env1 S1, g (e x) env S = .ok env1 S1 ∧ Nx (I (a ++ [x])) (body env1 S1)) :
    ∀ (post pre : List α) (env : Env) (S : Sto), pre ++ post = xs → I pre env S → ∃ env' S', forGo (.lst m) g body post.length pre.length env S = .nx env' S' ∧ I xs env' S'
  | [], pre, env, S, hp, h => by
    rw [List.append_nil] at hp
    subst hp
    refine ⟨env, S, ?_, h⟩
    have : (Src.lst m).at pre.length S = some none := by unfold Src.at; simp [hI _ _ _ h]
    unfold forGo
    simp only [List.length_nil, this]
  | x :: post, pre, env, S, hp, h => by
    obtain ⟨env1, S1, e1, env2, S2, e2, h2⟩ := st pre x post env S hp.symm h
    obtain ⟨env', S', e3, h3⟩ := forGo_lst e I xs hI st post (pre ++ [x]) env2 S2 (by simpa using hp) h2
    refine ⟨env', S', ?_, h3⟩
    have hat : (Src.lst m).at pre.length S = some (some (e x)) := by unfold Src.at; simp [hI _ _ _ h, ← hp]
    rw [List.length_append] at e3
    simp only [List.length_singleton] at e3
    unfold forGo
    simp only [List.length_cons, hat]
    rw [e1, RS.ofG_ok]
    rcases e2 with e2 | e2 <;> rw [e2] <;> simpa using e3
theorem sFor_seq {α : Type} {f : CE} {g : CG} {body : CS} {env : Env} {S : Sto} {d : D} (hd : (∃ ds, d = .new ds) ∨ ∃ m, d = .ref m) (hf : f env S = .ok d S) (P : RS → Prop) (e : α → D) (I : List α → Env → Sto → Prop) (xs : List α) (hI : ∀ pre env S, I pre env S → lstOf S d = some (xs.map e)) (h0 : I [] env S)
    (st : ∀ a x b env S, xs = a ++ x :: b → I a env S → ∃ env1 S1, g (e x) env S = .ok env1 S1 ∧ Nx (I (a ++ [x])) (body env1 S1))
    (hP : ∀ env' S', I xs env' S' → P (.nx env' S')) : P (sFor (iSeq f) g body env S) := by
  rcases hd with ⟨ds, rfl⟩ | ⟨m, rfl⟩
  · have := hI _ _ _ h0
    rw [lstOf_new] at this
    cases this
    rw [sFor_fix (ds := xs.map e) (S1 := S) (by simp only [iSeq_d, hf, R.bind_ok, seqSrc_n])]
    exact forL_preE P e I xs h0 st hP
  · have hI' : ∀ pre env S, I pre env S → S[m]? = some (.lst (xs.map e)) := fun pre env S h => by
      have := hI pre env S h
      unfold lstOf at this
      cases q : S[m]? with
      | none => simp [q] at this
      | some o =>
        cases o <;> simp [q] at this
        rw [this]
    obtain ⟨env', S', e3, h3⟩ := forGo_lst e I xs hI' st xs [] env S rfl h0
    have e4 : sFor (iSeq f) g body env S = .nx env' S' := by
      unfold sFor
      rw [iSeq_d, hf, R.bind_ok]
      show (R.ok (Src.lst m) S).st env _ = _
      rw [R.st_ok]
      have : (Src.lst m).len S = xs.length := by unfold Src.len; simp [hI' _ _ _ h0]
      rw [this]
      exact e3
    rw [e4]
    exact hP env' S' h3
/-! ## choices -/
def gsL (most lines : Nat) : List Gl2 := (List.range most).flatMap fun h => (List.range lines).map fun a => (((most - h : Nat) : Int), ((lines - 1 - a : Nat) : Int))
abbrev Bt2 := List (List Gl2)
structure FB where
  b : Bt2
  f : Gl2 → Int
def chS1 (st : St) (gs : List Gl2) (line : Nat) (x : FB) : List FB := (dl (cellN st 0 line).toNat gs x.f).map fun own => ⟨x.b ++ [own], own.foldl dnF x.f⟩
def chA (st : St) (gs : List Gl2) (f : Gl2 → Int) : Nat → List FB
  | 0 => [⟨[], f⟩]
  | n + 1 => (chA st gs f n).flatMap (chS1 st gs n)
def eB2 (b : Bt2) : D := .tup (b.map eRw)
/-- what is found: beats with what is left -/
structure Fnd (ks : List Gl2) (S : Sto) (xs : List FB) (ds : List D) : Prop where
  len : ds.length = xs.length
  at_ : ∀ (i : Nat) (x : FB), xs[i]? = some x → ∃ d, ds[i]? = some d ∧ TabD ks x.f S d
theorem Fnd.nil (ks : List Gl2) (S : Sto) : Fnd ks S [] [] := ⟨rfl, fun i x h => by simp at h⟩
theorem Fnd.snoc {ks : List Gl2} {S : Sto} {xs : List FB} {ds : List D} (h : Fnd ks S xs ds) {x : FB} {d : D} (hd : TabD ks x.f S d) : Fnd ks S (xs ++ [x]) (ds ++ [d]) := by
  refine ⟨by simp [h.len], fun i y hy => ?_⟩
  by_cases c : i < xs.length
  · rw [List.getElem?_append_left c] at hy
    obtain ⟨d', h1, h2⟩ := h.at_ i y hy
    exact ⟨d', by rw [List.getElem?_append_left (by rw [h.len]; exact c)]; exact h1, h2⟩
  · rw [List.getElem?_append_right (by omega)] at hy
    have hi : i - xs.length = 0 := by
      have := (List.getElem?_eq_some_iff.mp hy).1
      simp at this
      omega
    rw [hi] at hy
    simp at hy
    subst hy
    exact ⟨d, by rw [List.getElem?_append_right (by rw [h.len]; omega), h.len, hi]; rfl, hd⟩
theorem Fnd.mono {ks : List Gl2} {S S' : Sto} {xs : List FB} {ds : List D} (h : Fnd ks S xs ds) (hS : ∀ d f, TabD ks f S d → TabD ks f S' d) : Fnd ks S' xs ds := ⟨h.len, fun i x hx => by
  obtain ⟨d, h1, h2⟩ := h.at_ i x hx
  exact ⟨d, h1, hS d _ h2⟩⟩
end J

namespace J
open PySem PySem.Spec PyProof.Rows L2
/-! ## choices: goals, the table, sorted beats -/
theorem rg_down : ∀ m : Fin 16, rgOk (m.val : Int) 0 (-1) m.val = true := by decide +kernel
theorem rg_down1 : ∀ m : Fin 8, rgOk ((m.val : Int) - 1) (-1) (-1) m.val = true := by decide +kernel
theorem mem_gsL {most lines : Nat} {g : Gl2} : g ∈ gsL most lines ↔ ∃ h a : Nat, 1 ≤ h ∧ h ≤ most ∧ a < lines ∧ g = ((h : Int), (a : Int)) := by
  unfold gsL
  constructor
  · intro hg
    obtain ⟨h, hh, hg⟩ := List.mem_flatMap.mp hg
    obtain ⟨a, ha, rfl⟩ := List.mem_map.mp hg
    have hh : h < most := by simpa using hh
    have ha : a < lines := by simpa using ha
    exact ⟨most - h, lines - 1 - a, by omega, by omega, by omega, rfl⟩
  · rintro ⟨h, a, h1, h2, h3, rfl⟩
    refine List.mem_flatMap.mpr ⟨most - h, by simp; omega, List.mem_map.mpr ⟨lines - 1 - a, by simp; omega, ?_⟩⟩
    refine Prod.ext ?_ ?_
    · show (((most - (most - h) : Nat)) : Int) = (h : Int)
      omega
    · show (((lines - 1 - (lines - 1 - a) : Nat)) : Int) = (a : Int)
      omega
theorem gsL_desc (most lines : Nat) : (gsL most lines).Pairwise fun x y => y.1 < x.1 ∨ y.1 = x.1 ∧ y.2 < x.2 := by
  unfold gsL
  rw [List.pairwise_flatMap]
  refine ⟨fun h hh => ?_, ?_⟩
  · rw [List.pairwise_map]
    refine List.Pairwise.imp_of_mem ?_ (List.pairwise_lt_range (n := lines))
    intro i j hi hj hij
    have hj : j < lines := by simpa using hj
    exact .inr ⟨rfl, by show (((lines - 1 - j : Nat)) : Int) < ((lines - 1 - i : Nat) : Int); omega⟩
  · refine List.Pairwise.imp_of_mem ?_ (List.pairwise_lt_range (n := most))
    intro i j hi hj hij x hx y hy
    obtain ⟨a, _, rfl⟩ := List.mem_map.mp hx
    obtain ⟨b, _, rfl⟩ := List.mem_map.mp hy
    have hj : j < most := by simpa using hj
    exact .inl (by show (((most - j : Nat)) : Int) < ((most - i : Nat) : Int); omega)
theorem gsL_nodup (most lines : Nat) : (gsL most lines).Nodup := by
  refine List.Pairwise.imp ?_ (gsL_desc most lines)
  intro x y h e
  subst e
  omega
theorem gsL_len (most lines : Nat) : (gsL most lines).length ≤ most * lines := by
  unfold gsL
  have := flat_le (k := lines) (f := fun h => (List.range lines).map fun a => (((most - h : Nat) : Int), ((lines - 1 - a : Nat) : Int))) (xs := List.range most) fun h => by simp
  simpa using this
theorem gSorted_B {xs : List Beat} (hn : ∀ x ∈ xs, x ≠ []) (S : Sto) : gSorted [.new (xs.map eB)] S = .ok ((srG ltB xs).map eB) S := by
  have hok : srtOk (xs.map eB) = true := by
    unfold srtOk
    simp only [Bool.and_eq_true, Bool.or_eq_true, List.all_eq_true]
    refine ⟨⟨fun a ha b hb => ?_, .inl fun a ha => ?_⟩, fun a ha => ?_⟩
    · obtain ⟨x, _, rfl⟩ := List.mem_map.mp ha
      obtain ⟨y, _, rfl⟩ := List.mem_map.mp hb
      exact alk_eB x y
    · obtain ⟨x, hx, rfl⟩ := List.mem_map.mp ha
      have := hn x hx
      cases x with
      | nil => exact absurd rfl this
      | cons _ _ => rfl
    · obtain ⟨x, _, rfl⟩ := List.mem_map.mp ha
      exact decide_eq_true (Nat.le_trans (dep_eB x) (by omega))
  have e : (xs.map eB).mergeSort leD = (srG ltB xs).map eB := (List.map_mergeSort fun a _ b _ => by unfold leG leD; rw [lt_eB]).symm
  unfold gSorted
  simp [seqOf, hok, e]
/-- the goals -/
theorem goals_comp {most lines : Nat} (hm : most ≤ 15) (hl : lines ≤ 6) (d0 d3 : D) (S : Sto) :
    cFor (iRng3D (aCons (eVar 2) (aCons (eC (.int 0)) (aCons (eUn gNeg (eC (.int 1))) (aNil))))) (gName 9) (tYesD) [9, 7] (cForI (iRng3D (aCons (eOp gSub (eVar 1) (eC (.int 1))) (aCons (eUn gNeg (eC (.int 1))) (aCons (eUn gNeg (eC (.int 1))) (aNil))))) (gName 7) (tYesD) [7] (cElt (eTup (aCons (eVar 9) (aCons (eVar 7) (aNil)))))) [some d0, some (.int (lines : Nat)), some (.int (most : Nat)), some d3, none, none, none, none, none, none, none, none, none, none, none] [] S = .ok ((gsL most lines).map e2) S := by
  have z2 : (2 : Nat) ≤ sLim := by rw [sLim_eq]; omega
  have r1 := rng3_of (rg_down ⟨most, by omega⟩) S
  have r2 := rng3_of (rg_down1 ⟨lines, by omega⟩) S
  simp only at r1 r2
  have q1 : rangeCD (most : Int) (-1) most = (List.range most).map fun h : Nat => .int ((most - h : Nat) : Int) := by
    unfold rangeCD
    refine List.map_congr_left fun h hh => ?_
    have : h < most := by simpa using hh
    exact congrArg D.int (by omega)
  have q2 : rangeCD ((lines : Int) - 1) (-1) lines = (List.range lines).map fun a : Nat => .int ((lines - 1 - a : Nat) : Int) := by
    unfold rangeCD
    refine List.map_congr_left fun h hh => ?_
    have : h < lines := by simpa using hh
    exact congrArg D.int (by omega)
  rw [q1] at r1
  rw [q2] at r2
  have hlen := gsL_len most lines
  have hml : most * lines ≤ 90 := Nat.mul_le_mul hm hl
  have ee : (gsL most lines).map e2 = (List.range most).flatMap fun h => (List.range lines).map fun a => e2 (((most - h : Nat) : Int), ((lines - 1 - a : Nat) : Int)) := by
    unfold gsL
    rw [List.map_flatMap]
    exact flatMap_congr' fun h _ => by rw [List.map_map]; rfl
  rw [cFor_fix (ds := (List.range most).map fun h : Nat => .int ((most - h : Nat) : Int)) (S1 := S) (by
    unfold iRng3D
    simp only [aCons_d, aNil_d, eVar_d, eC_d, eUn_d, List.getElem?_cons_succ, List.getElem?_cons_zero, R.bind_ok, gNeg_i, r1]), cL_pure (fun h : Nat => .int ((most - h : Nat) : Int)) (fun h => (List.range lines).map fun a => e2 (((most - h : Nat) : Int), ((lines - 1 - a : Nat) : Int))) (List.range most) [] (by rw [← ee, sLim_eq, List.length_map]; simp; omega) ?_]
  · simp [ee]
  · intro h hh acc hac
    rw [cTurn_in (env1 := [some d0, some (.int (lines : Nat)), some (.int (most : Nat)), some d3, none, none, none, none, none, some (.int ((most - h : Nat) : Int)), none, none, none, none, none]) (ds := (List.range lines).map fun a : Nat => .int ((lines - 1 - a : Nat) : Int)) (by simp [wipeE]) (by
      unfold iRng3D
      simp only [aCons_d, aNil_d, eVar_d, eC_d, eUn_d, eOp_d, List.getElem?_cons_succ, List.getElem?_cons_zero, R.bind_ok, gNeg_i, gSub_i, r2]), cL_map (fun a : Nat => .int ((lines - 1 - a : Nat) : Int)) (fun a => e2 (((most - h : Nat) : Int), ((lines - 1 - a : Nat) : Int))) (List.range lines) acc (by simpa using hac) ?_]
    intro a _
    exact ⟨[some d0, some (.int (lines : Nat)), some (.int (most : Nat)), some d3, none, none, none, some (.int ((lines - 1 - a : Nat) : Int)), none, some (.int ((most - h : Nat) : Int)), none, none, none, none, none], by simp [wipeE], by simp, by simp [z2, e2]⟩
end J

namespace J
open PySem PySem.Spec PyProof.Rows L2
/-- no two goals hash alike -/
def gH (g : Gl2) : NestedKey := .tup [.num g.1, .num g.2]
def h2 (g : Gl2) : Int := reduceHash (Builtin.Tuple.tupleHashOf [hashInt g.1, hashInt g.2])
theorem gH_h2 (w : World) (g : Gl2) : (gH g).hash w = h2 g := rfl
def gAllH : List Gl2 := (List.range 16).flatMap fun h : Nat => (List.range 6).map fun a : Nat => ((h : Int), (a : Int))
def hLits : List Int := [-8458139203682520985, -1950498447580522560, 7204814214171964562, -4734289103435588629, 1773351652666409796, -3119722376306286570, -5164621852614943976, 8389048192121911274, -3550055125485641917, -1440771752368011620, -6333845781340707986, 173794974761290439, 4685526799349444076, 6794810172467074373, 1901736143494378007, 8409376899596376432, 3516302870623680066, -8422800446983873125, 2248468952609198383, 8756109708711196808, 3863035679738500442, 5972319052856130739, 1079245023883434373, 7586885779985432798, -6348126469135965181, 159514286966033244, -9131917124991031250, -2624276368889032825, 3883364387212965600, -1009709641759730766, -3054609118068388172, 3453031638033610253, -5838399773923454241, 669240982178544184, -4223833046794152182, 2283807709307846243, -5491666964808633865, 8062003079928221385, -3877100237679331806, 2630540518422666619, -6660890893534397875, -153250137432399450, 4358481687155754187, -7580621630451799004, 5973048414285056246, 8082331787402686543, 3189257758429990177, -8749845559177563014, 1921423840415508494, 8429064596517506919, 3535990567544810553, -8403112750062742638, 752199911689744484, 7259840667791742909, -6675171581329655070, -167530825227656645, -5060604854200353011, -2951321481082722714, 3556319275019275711, -1336754753953420655, -3381654230262078061, 3125986525839920364, -1767087503132776002, 342195869984854295, -4550878158987842071, 1956762597114156354, 6468494421702309991, -5470608895905243200, 3684703765847243922, -8254399551760309269, 5299270492976545981, -6639832824631007210, 4031436574962064298, -7907666742645488893, 5646003302091366357, -6293100015516186834, 2862212646236300288, -9076890671371252903, 5992736111206186733, 8102019484323817030, 3208945455351120664, -8730157862256432527, 4823512182480422723, 6932795555598053020, -1271641495715522257, 5235999260386476168, 342925231413779802, 2452208604531410099, -2440865424441286267, 4066775331660712158, -3708699342455767950, 2798941413646230475, -2094132615326465891, 4413508140775532534, -479565888197163832, 1629717484920466465]
theorem h2_lits : gAllH.map h2 = hLits := by decide +kernel
theorem hLits_nd : hLits.Nodup := by decide +kernel
theorem h2_nodup : (gAllH.map h2).Nodup := by rw [h2_lits]; exact hLits_nd
theorem inj_nd {F : Gl2 → Int} {L : List Gl2} (nd : (L.map F).Nodup) {x y : Gl2} (hx : x ∈ L) (hy : y ∈ L) (e : F x = F y) : x = y := by
  obtain ⟨i, hi, ei⟩ := List.getElem_of_mem hx
  obtain ⟨j, hj, ej⟩ := List.getElem_of_mem hy
  have := (List.getElem_inj (h₀ := (by rw [List.length_map]; exact hi : i < (L.map F).length)) (h₁ := (by rw [List.length_map]; exact hj : j < (L.map F).length)) nd).mp (by rw [List.getElem_map, List.getElem_map, ei, ej, e])
  subst this
  exact ei.symm.trans ej
theorem map_hash {ks : List Gl2} {F : Gl2 → Int} {w : World} (hF : ∀ g : Gl2, NestedKey.hash w (gH g) = F g) : (ks.map gH).map (fun n => NestedKey.hash w n) = ks.map F := by
  induction ks with
  | nil => rfl
  | cons g ks ih => rw [List.map_cons, List.map_cons, List.map_cons, ih, hF g]
theorem nd_map {ks L : List Gl2} {F : Gl2 → Int} (nd : (L.map F).Nodup) (hs : ∀ z ∈ ks, z ∈ L) (hn : ks.Nodup) : (ks.map F).Nodup := by
  rw [List.Nodup, List.pairwise_map]
  refine List.Pairwise.imp_of_mem ?_ hn
  intro x y hx hy hxy e
  exact hxy (inj_nd nd (hs x hx) (hs y hy) e)
theorem cp_aux {ks L : List Gl2} {F : Gl2 → Int} (hF : ∀ (w : World) (g : Gl2), NestedKey.hash w (gH g) = F g) (nd : (L.map F).Nodup) (hs : ∀ z ∈ ks, z ∈ L) (hn : ks.Nodup) : cpOk (ks.map e2) :=
  ⟨List.all_eq_true.mpr fun x hx => by obtain ⟨g, _, rfl⟩ := List.mem_map.mp hx; rfl, Nat.le_trans (deps_map dep_e2 ks) (by omega), ks.map gH, nks_map e2 gH (fun g => by rw [nk_e2]; rfl) ks, fun w => by rw [map_hash (hF w)]; exact nd_map nd hs hn⟩
theorem mem_all {most lines : Nat} (hm : most ≤ 15) (hl : lines ≤ 6) : ∀ z ∈ gsL most lines, z ∈ gAllH := fun z hz => by
  obtain ⟨h, a, h1, h2', h3, rfl⟩ := mem_gsL.mp hz
  exact List.mem_flatMap.mpr ⟨h, List.mem_range.mpr (by omega), List.mem_map.mpr ⟨a, List.mem_range.mpr (by omega), rfl⟩⟩
theorem cp_goals {most lines : Nat} (hm : most ≤ 15) (hl : lines ≤ 6) : cpOk ((gsL most lines).map e2) := cp_aux gH_h2 h2_nodup (mem_all hm hl) (gsL_nodup most lines)
end J

namespace J
open PySem PySem.Spec PyProof.Rows L2
/-! ## choices: what is free -/
def frF (st : St) (room : Nat) (g : Gl2) : Int := (room : Int) - cellN st g.1.toNat g.2.toNat
theorem free_comp {st : St} {most lines room : Nat} (hw : ∀ c ∈ st, c.length = lines) (hm : most ≤ 15) (hl : lines ≤ 6) (S : Sto) :
    eDcN (iSeq (eVar 4)) (gName 10) [10] (eVar 10) (eOp gSub (eVar 3) (eCall (fnG 3 G_due_at) (aCons (eVar 0) (aCons (eOp gIx (eVar 10) (eC (.int 0))) (aCons (eOp gIx (eVar 10) (eC (.int 1))) (aNil)))))) [some (eS st), some (.int (lines : Nat)), some (.int (most : Nat)), some (.int (room : Nat)), some (.new ((gsL most lines).map e2)), none, none, none, none, none, none, none, none, none, none] S =
      .ok (.dic ((gsL most lines).map e2) ((gsL most lines).map fun g => .int (frF st room g))) S := by
  have hlen := gsL_len most lines
  have hml : most * lines ≤ 90 := Nat.mul_le_mul hm hl
  have mem := fun g (hg : g ∈ gsL most lines) => mem_gsL.mp hg
  have nd := gsL_nodup most lines
  generalize gsL most lines = gs at *
  have i0 : ∀ (g : Gl2) (S : Sto), gIx (e2 g) (.int 0) S = .ok (.int g.1) S := fun g S => gIx_t (by simp [atI, ixN])
  have i1 : ∀ (g : Gl2) (S : Sto), gIx (e2 g) (.int 1) S = .ok (.int g.2) S := fun g S => gIx_t (by simp [atI, ixN])
  have hwp : wipeE [some (eS st), some (.int (lines : Nat)), some (.int (most : Nat)), some (.int (room : Nat)), some (.new (gs.map e2)), none, none, none, none, none, none, none, none, none, none] [10] = [some (eS st), some (.int (lines : Nat)), some (.int (most : Nat)), some (.int (room : Nat)), some (.new (gs.map e2)), none, none, none, none, none, none, none, none, none, none] := rfl
  have hsl : (Src.fix (gs.map e2)).len S = gs.length := by unfold Src.len; simp
  have dg := dGo_fix ke2 (f := fun g => .int (frF st room g)) (i := 10) (env := [some (eS st), some (.int (lines : Nat)), some (.int (most : Nat)), some (.int (room : Nat)), some (.new (gs.map e2)), none, none, none, none, none, none, none, none, none, none]) (fk := eVar 10) (fv := eOp gSub (eVar 3) (eCall (fnG 3 G_due_at) (aCons (eVar 0) (aCons (eOp gIx (eVar 10) (eC (.int 0))) (aCons (eOp gIx (eVar 10) (eC (.int 1))) (aNil)))))) (S := S) (by simp) (xs := gs) (by omega) (fun x _ => by simp) (fun x hx => by
    obtain ⟨h, a, h1, h2', h3, rfl⟩ := mem x hx
    have du := due_at_ok hw h a h3 S
    simp only [List.set_cons_succ, List.set_cons_zero, eOp_d, eVar_d, eC_d, List.getElem?_cons_succ, List.getElem?_cons_zero, R.bind_ok, eCall_d, aCons_d, aNil_d, i0, i1, fnG_d, List.length_cons, List.length_nil, Nat.zero_add, Nat.reduceAdd, if_true, du, gSub_i]
    rfl) gs [] rfl
  have d0 : (dd ([] : List Gl2)) = [] := rfl
  simp only [d0, List.map_nil, List.length_nil, dd_id nd] at dg
  simp only [eDcN_d, iSeq_d, eVar_d, List.getElem?_cons_succ, List.getElem?_cons_zero, R.bind_ok, seqSrc_n, hwp, hsl, dg, R.nox_ok]
end J

namespace J
open PySem PySem.Spec PyProof.Rows L2
/-! ## choices: a line's throws taken from what is free -/
def tabO (ks : List Gl2) (f : Gl2 → Int) : O := .dic (ks.map e2) (ks.map fun g => .int (f g))
theorem down_loop {ks : List Gl2} (hn : ks.Nodup) (hkl : ks.length ≤ 1000) {own : List Gl2} (ho : ∀ g ∈ own, g ∈ ks) {f : Gl2 → Int} {m : Nat} {S : Sto} (hS : S[m]? = some (tabO ks f)) (d0 d1 d2 d3 d4 d5 d6 d7 d8 : D) (o9 o10 o11 o12 : Option D) :
    ∃ o10' : Option D, sFor (iSeq (eVar 13)) (gName 10) (sAugItem gSub (eVar 14) (eVar 10) (eC (.int 1))) [some d0, some d1, some d2, some d3, some d4, some d5, some d6, some d7, some d8, o9, o10, o11, o12, some (eRw own), some (.rdc m)] S =
      .nx [some d0, some d1, some d2, some d3, some d4, some d5, some d6, some d7, some d8, o9, o10', o11, o12, some (eRw own), some (.rdc m)] (S.set m (tabO ks (own.foldl dnF f))) := by
  have hm : m < S.length := (List.getElem?_eq_some_iff.mp hS).1
  rw [sFor_fix (ds := own.map e2) (S1 := S) (by simp only [iSeq_d, eVar_d, List.getElem?_cons_succ, List.getElem?_cons_zero, R.bind_ok]; rfl)]
  refine forL_preE (fun z => ∃ o10' : Option D, z = .nx [some d0, some d1, some d2, some d3, some d4, some d5, some d6, some d7, some d8, o9, o10', o11, o12, some (eRw own), some (.rdc m)] (S.set m (tabO ks (own.foldl dnF f)))) e2 (fun pre env S' => S' = S.set m (tabO ks (pre.foldl dnF f)) ∧ ∃ o10 : Option D, env = [some d0, some d1, some d2, some d3, some d4, some d5, some d6, some d7, some d8, o9, o10, o11, o12, some (eRw own), some (.rdc m)]) own ?h0 ?_ ?_
  case h0 =>
    refine ⟨?_, _, rfl⟩
    apply List.ext_getElem?
    intro i
    by_cases c : m = i
    · subst c; rw [List.getElem?_set_self hm]; exact hS
    · rw [List.getElem?_set_ne c]
  · rintro pre g post env S' hx ⟨rfl, o10, rfl⟩
    have hg : g ∈ ks := ho g (mem_of_split hx)
    have hat : (S.set m (tabO ks (pre.foldl dnF f)))[m]? = some (.dic (ks.map e2) (ks.map fun g => .int (pre.foldl dnF f g))) := List.getElem?_set_self hm
    have ld := tab_ld hat hg
    have st := tab_st hn (by omega) hat hg
    refine ⟨[some d0, some d1, some d2, some d3, some d4, some d5, some d6, some d7, some d8, o9, some (e2 g), o11, o12, some (eRw own), some (.rdc m)], S.set m (tabO ks (pre.foldl dnF f)), by simp, ?_⟩
    refine Nx.of (env := [some d0, some d1, some d2, some d3, some d4, some d5, some d6, some d7, some d8, o9, some (e2 g), o11, o12, some (eRw own), some (.rdc m)]) (S := (S.set m (tabO ks (pre.foldl dnF f))).set m (.dic (ks.map e2) (ks.map fun x => .int (dnF (pre.foldl dnF f) g x)))) ?_ ⟨?_, _, rfl⟩
    · simp only [sAugItem_d, eVar_d, eC_d, List.getElem?_cons_succ, List.getElem?_cons_zero, R.st_ok, ld, R.nox_ok, gSub_i, st]
    · rw [List.set_set, List.foldl_append]
      rfl
  · rintro env S' ⟨rfl, o10, rfl⟩
    exact ⟨_, rfl⟩
end J

namespace J
open PySem PySem.Spec PyProof.Rows L2

/-! ## what is no row -/
theorem sAsg_n {f : CE} {i : Nat} {env : Env} {S S' : Sto} {d : D} (h : f env S = .ok d S') : sAsg f (gName i) env S = .nx (env.set i (some d)) S' := by rw [sAsg_d, h]; rfl
theorem sIf_no {t : CT} {a : CS} {env : Env} {S : Sto} (h : t env S = .ok false S) : sIf t a sNext env S = .nx env S := by rw [sIf_d, h]; rfl
theorem sIf_yes {t : CT} {a b : CS} {env : Env} {S : Sto} (h : t env S = .ok true S) : sIf t a b env S = a env S := by rw [sIf_d, h]; rfl
/-! ### lines_of, is_row, is_beat of other things -/
end J

namespace J
open PySem PySem.Spec PyProof.Rows L2

/-! ## states refused -/
/-! ## ground -/
def grG (n balls : Nat) : St := (List.range 15).map fun k => (List.range n).map fun a => if k * n + a < balls then 1 else 0
theorem ground_of_ok {n : Nat} (hn : n ≤ 6) (balls : Nat) (S : Sto) : G_ground_of [.int (balls : Nat), .int (n : Nat)] S = .ok (eS (trim (grG n balls))) S := by
  rw [G_ground_of_eq, F_ground_of]
  have hr : rng1 [.int 15] S = .ok (.fix ((List.range 15).map fun i => .int (i : Nat))) S := by simpa using rng1_n 15 S (by omega)
  have c : cFor (iRng1D (aCons (eC (.int 15)) (aNil))) (gName 3) (tYesD) [3] (cElt (eNew (aComp (cFor (iRng1D (aCons (eVar 1) (aNil))) (gName 4) (tYesD) [4] (cElt (eIf (tBool (eOp gLt (eOp gAdd (eOp gMul (eVar 3) (eVar 1)) (eVar 4)) (eVar 0))) (eC (.int 1)) (eC (.int 0)))))))) [some (.int (balls : Nat)), some (.int (n : Nat)), none, none, none] [] S = .ok ((grG n balls).map fun c => .new (c.map .int)) S := by
    rw [cFor_fix (ds := (List.range 15).map fun i => .int (i : Nat)) (S1 := S) (by simp [hr]), cL_map (fun i : Nat => .int (i : Nat)) (fun k => .new ((List.range n).map fun a => .int (if k * n + a < balls then 1 else 0))) (List.range 15) [] (by rw [sLim_eq]; simp) ?_]
    · simp [grG, Function.comp_def]
    · intro k hk
      refine ⟨[some (.int (balls : Nat)), some (.int (n : Nat)), none, some (.int (k : Nat)), none], by simp [wipeE], by simp, ?_⟩
      have c2 : cFor (iRng1D (aCons (eVar 1) (aNil))) (gName 4) (tYesD) [4] (cElt (eIf (tBool (eOp gLt (eOp gAdd (eOp gMul (eVar 3) (eVar 1)) (eVar 4)) (eVar 0))) (eC (.int 1)) (eC (.int 0)))) [some (.int (balls : Nat)), some (.int (n : Nat)), none, some (.int (k : Nat)), none] [] S = .ok ((List.range n).map fun a => .int (if k * n + a < balls then 1 else 0)) S := by
        rw [cFor_fix (ds := (List.range n).map fun i => .int (i : Nat)) (S1 := S) (by simp only [iRng1_d, aCons_d, aNil_d, eVar_d, List.getElem?_cons_succ, List.getElem?_cons_zero, R.bind_ok, rng1_n n S (by omega)]), cL_map (fun i : Nat => .int (i : Nat)) (fun a => .int (if k * n + a < balls then 1 else 0)) (List.range n) [] (by rw [sLim_eq]; simp; omega) ?_]
        · simp
        · intro a ha
          have hm := gMul_r (k : Int) (n : Int) S (by omega)
          refine ⟨[some (.int (balls : Nat)), some (.int (n : Nat)), none, some (.int (k : Nat)), some (.int (a : Nat))], by simp [wipeE], by simp, ?_⟩
          by_cases q : k * n + a < balls
          · have q' : (k : Int) * n + a < balls := by exact_mod_cast q
            simp [hm, q, q']
          · have q' : ¬ (k : Int) * n + a < balls := fun z => q (by exact_mod_cast z)
            simp [hm, q, q']
      simp only [eNew_d, aComp_d, c2, R.bind_ok]
  have tr := fun S => trimmed_ok (S := S) (RowsOf.data (S := S) (g := grG n balls)) (by simp [grG])
  simp only [sSeq_d, sAsg_d, sExpr_d, sRet_d, sIf_d, sNext_d, eCall_d, aCons_d, aNil_d, eVar_d, eC_d, eOp_d, eUn_d, eNew_d, aCall_d, aComp_d, eTup_d, tBool_d, tOrD_d, tAndD_d, tNotD_d, eIf_d, eAnd_d, eOr_d, eNot_d, List.getElem?_cons_succ, List.getElem?_cons_zero, List.set_cons_succ, List.set_cons_zero, List.length_cons, List.length_nil, Nat.zero_add, Nat.reduceAdd, R.bind_ok, R.bind_exc, R.st_ok, R.st_exc, RS.next_nx, RS.next_rt, RS.next_exc, gName_d, gSt_ok, fnG_d, toB_bl, if_true, Bool.not_true, Bool.not_false, Bool.false_eq_true, if_false, fnR_rt, fnR_exc, gc_exc, c, tr]
  exact gc_same (und_eS _ _)
theorem ground_ok {n : Nat} (h1 : 1 ≤ n) (hn : n ≤ 6) {balls : Nat} (hb : balls ≤ 15 * n) (S : Sto) : G_ground [.int (balls : Nat), .int (n : Nat)] S = .ok (eS (trim (grG n balls))) S := by
  rw [G_ground_eq, F_ground]
  have l1 := look_number_ok (i := (n : Int)) (lo := 1) (hi := 6) ⟨by omega, by omega⟩ S
  have l2 := look_number_ok (i := (balls : Int)) (lo := 0) (hi := 15 * (n : Int)) ⟨by omega, by omega⟩ S
  have hm := gMul_l 15 (n : Int) S (by omega)
  simp only [sSeq_d, sAsg_d, sExpr_d, sRet_d, sIf_d, sNext_d, eCall_d, aCons_d, aNil_d, eVar_d, eC_d, eOp_d, eUn_d, eNew_d, aCall_d, aComp_d, eTup_d, tBool_d, tOrD_d, tAndD_d, tNotD_d, eIf_d, eAnd_d, eOr_d, eNot_d, List.getElem?_cons_succ, List.getElem?_cons_zero, List.set_cons_succ, List.set_cons_zero, List.length_cons, List.length_nil, Nat.zero_add, Nat.reduceAdd, R.bind_ok, R.bind_exc, R.st_ok, R.st_exc, RS.next_nx, RS.next_rt, RS.next_exc, gName_d, gSt_ok, fnG_d, toB_bl, if_true, Bool.not_true, Bool.not_false, Bool.false_eq_true, if_false, fnR_rt, fnR_exc, gc_exc, l1, l2, hm, ground_of_ok hn]
  exact gc_same (und_eS _ _)
/-! ## a run that clashes at its second beat -/
end J

namespace J
open PySem PySem.Spec PyProof.Rows L2

/-! ## choices: the three loops -/
abbrev FD := FB × D
def eFD (z : FD) : D := .tup [eB2 z.1.b, z.2]
theorem tab_set {ks : List Gl2} {f : Gl2 → Int} {S : Sto} {d : D} {L : Nat} {xs ys : List D} (hL : S[L]? = some (.lst xs)) (h : TabD ks f S d) : TabD ks f (S.set L (.lst ys)) d := by
  unfold TabD at h ⊢
  cases d with
  | rdc n =>
    unfold dicOf at h ⊢
    by_cases c : L = n
    · subst c
      simp [hL] at h
    · simp only [List.getElem?_set_ne c]
      exact h
  | _ => exact h
theorem lst_app {S : Sto} {d : D} {xs : List D} (h : lstOf S d = some xs) (G : Sto) : lstOf (S ++ G) d = some xs := by
  cases d with
  | ref n =>
    unfold lstOf at h ⊢
    cases e : S[n]? with
    | none => simp [e] at h
    | some o =>
      have e2 : (S ++ G)[n]? = S[n]? := List.getElem?_append_left (List.getElem?_eq_some_iff.mp e).1
      simp only [e2]
      exact h
  | _ => exact h
theorem lst_set {S : Sto} {d : D} {xs : List D} {L : Nat} {o : O} (hd : d ≠ .ref L) (h : lstOf S d = some xs) : lstOf (S.set L o) d = some xs := by
  cases d with
  | ref n =>
    unfold lstOf at h ⊢
    have c : L ≠ n := fun e => hd (by rw [e])
    simp only [List.getElem?_set_ne c]
    exact h
  | _ => exact h
structure Mid (base : Sto) (ks : List Gl2) (d6 : D) (fnd : List FD) (L : Nat) (ys : List FD) (S : Sto) : Prop where
  pre : ∃ G, S = base ++ G
  fl : lstOf S d6 = some (fnd.map eFD)
  ft : ∀ z ∈ fnd, TabD ks z.1.f S z.2
  at_ : S[L]? = some (.lst (ys.map eFD))
  yt : ∀ z ∈ ys, TabD ks z.1.f S z.2
  Lb : base.length ≤ L
  nd : d6 ≠ .ref L
theorem app_set {base G : Sto} {L : Nat} {o : O} (h : base.length ≤ L) : (base ++ G).set L o = base ++ G.set (L - base.length) o := by
  rw [List.set_append_right _ _ h]
/-- the store behind one line's throws -/
theorem Mid.push {base S : Sto} {ks : List Gl2} {d6 : D} {fnd ys : List FD} {L : Nat} (h : Mid base ks d6 fnd L ys S) (x : FB) (fr : Gl2 → Int) (b : Bt2) :
    Mid base ks d6 fnd L (ys ++ [(⟨b, fr⟩, .rdc S.length)]) ((S ++ [tabO ks fr]).set L (.lst (ys.map eFD ++ [.tup [eB2 b, .rdc S.length]]))) := by
  have hL : L < S.length := (List.getElem?_eq_some_iff.mp h.at_).1
  have hat : (S ++ [tabO ks fr])[L]? = some (.lst (ys.map eFD)) := by rw [List.getElem?_append_left hL]; exact h.at_
  obtain ⟨G, hG⟩ := h.pre
  refine ⟨⟨(G ++ [tabO ks fr]).set (L - base.length) (.lst (ys.map eFD ++ [.tup [eB2 b, .rdc S.length]])), ?_⟩, lst_set h.nd (lst_app h.fl _), fun z hz => tab_set hat ((h.ft z hz).app _), ?_, ?_, h.Lb, h.nd⟩
  · rw [hG, List.append_assoc, app_set h.Lb]
  · rw [List.getElem?_set_self (by rw [List.length_append]; simp; omega)]
    simp [eFD]
  · intro z hz
    rcases List.mem_append.mp hz with hz | hz
    · exact tab_set hat ((h.yt z hz).app _)
    · have : z = (⟨b, fr⟩, .rdc S.length) := by simpa using hz
      subst this
      exact tab_set hat (tab_rdc (by simp [tabO]))
theorem dl_mem : ∀ (m : Nat) (gs : List Gl2) (f : Gl2 → Int) {r : List Gl2}, r ∈ dl m gs f → ∀ g ∈ r, g ∈ gs
  | 0, _, _, r, h, g, hg => by simp [dl] at h; subst h; cases hg
  | m + 1, gs, f, r, h, g, hg => by
    unfold dl at h
    obtain ⟨k, hk, h⟩ := List.mem_flatMap.mp h
    have hk : k < gs.length := by simpa using hk
    unfold dlK at h
    split at h
    · obtain ⟨q, hq, rfl⟩ := List.mem_map.mp h
      rcases List.mem_cons.mp hg with rfl | hg
      · simp [hk]
      · exact List.mem_of_mem_drop (dl_mem m _ _ hq g hg)
    · cases h
noncomputable abbrev inB : CS := sSeq (sAsg (eCall gDictS (aCons (eVar 12) (aNil))) (gName 14))
  (sSeq (sFor (iSeq (eVar 13)) (gName 10)
  (sAugItem gSub (eVar 14) (eVar 10) (eC (.int 1))))
  (sExpr (eMethL gAppend (eVar 8) (aCons (eTup (aCons (eOp gAdd (eVar 11) (eTup (aCons (eVar 13) (aNil)))) (aCons (eVar 14) (aNil)))) (aNil)))))
noncomputable abbrev miB : CS := sFor (iSeq (eCall (fnG 3 G_dealt) (aCons (eCall (fnG 3 G_due_at) (aCons (eVar 0) (aCons (eC (.int 0)) (aCons (eVar 7) (aNil))))) (aCons (eVar 4) (aCons (eVar 12) (aNil)))))) (gName 13) inB
section
variable {ks : List Gl2} (hn : ks.Nodup) (hkl : ks.length ≤ 1000) (hc : cpOk (ks.map e2))
include hn hkl hc
/-- the innermost body -/
theorem in_body {base S : Sto} {d6 : D} {fnd ys : List FD} {L : Nat} (h : Mid base ks d6 fnd L ys S) (hy : ys.length < 900000) {z : FD} (hz : z ∈ fnd) {own : List Gl2} (ho : ∀ g ∈ own, g ∈ ks) (hol : own.length ≤ 1000) (hbl : z.1.b.length ≤ 1000) (d0 d1 d2 d3 d4 d5 d7 : D) (o9 o10 o14 : Option D) :
    ∃ o10' o14', inB [some d0, some d1, some d2, some d3, some d4, some d5, some d6, some d7, some (.ref L), o9, o10, some (eB2 z.1.b), some z.2, some (eRw own), o14] S =
      .nx [some d0, some d1, some d2, some d3, some d4, some d5, some d6, some d7, some (.ref L), o9, o10', some (eB2 z.1.b), some z.2, some (eRw own), o14'] ((S ++ [tabO ks (own.foldl dnF z.1.f)]).set L (.lst (ys.map eFD ++ [.tup [eB2 (z.1.b ++ [own]), .rdc S.length]]))) := by
  have ht := h.ft z hz
  have cp := ht.copy hc
  have hL : L < S.length := (List.getElem?_eq_some_iff.mp h.at_).1
  have a1 : (S ++ [O.dic (ks.map e2) (ks.map fun g => .int (z.1.f g))])[S.length]? = some (tabO ks z.1.f) := by simp [tabO]
  obtain ⟨o10', dn⟩ := down_loop hn hkl ho a1 d0 d1 d2 d3 d4 d5 d6 d7 (.ref L) o9 o10 (some (eB2 z.1.b)) (some z.2)
  have e3 : (S ++ [O.dic (ks.map e2) (ks.map fun g => .int (z.1.f g))]).set S.length (tabO ks (own.foldl dnF z.1.f)) = S ++ [tabO ks (own.foldl dnF z.1.f)] := by simp
  rw [e3] at dn
  have hat : (S ++ [tabO ks (own.foldl dnF z.1.f)])[L]? = some (.lst (ys.map eFD)) := by rw [List.getElem?_append_left hL]; exact h.at_
  have ap := gAppend_r (y := .tup [eB2 (z.1.b ++ [own]), .rdc S.length]) hat (by simp; omega)
  have z1 : (1 : Nat) ≤ sLim := by rw [sLim_eq]; omega
  have z2 : (2 : Nat) ≤ sLim := by rw [sLim_eq]; omega
  have ad : ∀ S', gAdd (eB2 z.1.b) (.tup [eRw own]) S' = .ok (eB2 (z.1.b ++ [own])) S' := fun S' => by
    unfold eB2
    rw [gAdd_t, if_pos (by rw [sLim_eq]; simp; omega)]
    simp
  refine ⟨o10', some (.rdc S.length), ?_⟩
  unfold inB
  simp only [sSeq_d, sAsg_d, sExpr_d, sRet_d, sIf_d, sNext_d, eCall_d, aCons_d, aNil_d, eVar_d, eC_d, eOp_d, eUn_d, eNew_d, aCall_d, aComp_d, eTup_d, tBool_d, tOrD_d, tAndD_d, tNotD_d, eIf_d, eAnd_d, eOr_d, eNot_d, List.getElem?_cons_succ, List.getElem?_cons_zero, List.set_cons_succ, List.set_cons_zero, List.length_cons, List.length_nil, Nat.zero_add, Nat.reduceAdd, R.bind_ok, R.bind_exc, R.st_ok, R.st_exc, RS.next_nx, RS.next_rt, RS.next_exc, gName_d, gSt_ok, fnG_d, toB_bl, if_true, Bool.not_true, Bool.not_false, Bool.false_eq_true, if_false, fnR_rt, fnR_exc, gc_exc, cp, dn, eMethL_d, lstTy_ref, gTupD_d, z1, z2, ad, ap]
theorem mi_body {gs : List Gl2} (hgs : ∀ g ∈ gs, g ∈ ks) {B : Nat} (hB : gs.length ≤ B) (hB1 : 1 ≤ B) {st : St} {lines : Nat} (hw : ∀ c ∈ st, c.length = lines) {line : Nat} (hl : line < lines) (hp : 0 ≤ cellN st 0 line) (h4 : cellN st 0 line ≤ 4) (hBm : B ^ (cellN st 0 line).toNat ≤ 100000)
    {base S : Sto} {d6 : D} {fnd ys : List FD} {L : Nat} (h : Mid base ks d6 fnd L ys S) (hy : ys.length ≤ 100000) {z : FD} (hz : z ∈ fnd) (hbl : z.1.b.length ≤ 1000) (d1 d2 d3 d5 : D) (o9 o10 o13 o14 : Option D) :
    ∃ o10' o13' o14' ys' S', miB [some (eS st), some d1, some d2, some d3, some (.new (gs.map e2)), some d5, some d6, some (.int (line : Nat)), some (.ref L), o9, o10, some (eB2 z.1.b), some z.2, o13, o14] S =
      .nx [some (eS st), some d1, some d2, some d3, some (.new (gs.map e2)), some d5, some d6, some (.int (line : Nat)), some (.ref L), o9, o10', some (eB2 z.1.b), some z.2, o13', o14'] S' ∧ Mid base ks d6 fnd L (ys ++ ys') S' ∧ ys'.map (·.1) = chS1 st gs line z.1 := by
  have du := due_at_ok hw 0 line hl S
  have em : cellN st 0 line = ((cellN st 0 line).toNat : Int) := by omega
  have de := dealt_ok hn hkl hc (cellN st 0 line).toNat 6 gs z.1.f z.2 S (B := B) (by omega) hgs hB hB1 hBm (by omega) (h.ft z hz)
  rw [← em] at de
  have de' : G_dealt [.int (cellN st 0 line), .new (gs.map e2), z.2] S = .ok (.new ((dl (cellN st 0 line).toNat gs z.1.f).map eRw)) S := de
  have dlen := dl_len (cellN st 0 line).toNat gs z.1.f hB
  have drow := fun r (hr : r ∈ dl (cellN st 0 line).toNat gs z.1.f) => dl_row (cellN st 0 line).toNat gs z.1.f hr
  have dmem := fun r (hr : r ∈ dl (cellN st 0 line).toNat gs z.1.f) => dl_mem (cellN st 0 line).toNat gs z.1.f hr
  unfold chS1
  have hm4 : (cellN st 0 line).toNat ≤ 4 := by omega
  generalize hrows : dl (cellN st 0 line).toNat gs z.1.f = rows at *
  unfold miB
  rw [sFor_fix (ds := rows.map eRw) (S1 := S) (by
    simp only [Int.natCast_zero] at du
    simp only [iSeq_d, sSeq_d, sAsg_d, sExpr_d, sRet_d, sIf_d, sNext_d, eCall_d, aCons_d, aNil_d, eVar_d, eC_d, eOp_d, eUn_d, eNew_d, aCall_d, aComp_d, eTup_d, tBool_d, tOrD_d, tAndD_d, tNotD_d, eIf_d, eAnd_d, eOr_d, eNot_d, List.getElem?_cons_succ, List.getElem?_cons_zero, List.set_cons_succ, List.set_cons_zero, List.length_cons, List.length_nil, Nat.zero_add, Nat.reduceAdd, R.bind_ok, R.bind_exc, R.st_ok, R.st_exc, RS.next_nx, RS.next_rt, RS.next_exc, gName_d, gSt_ok, fnG_d, toB_bl, if_true, Bool.not_true, Bool.not_false, Bool.false_eq_true, if_false, fnR_rt, fnR_exc, gc_exc, du, de', seqSrc_n])]
  refine forL_preE (fun r => ∃ o10' o13' o14' ys' S', r = RS.nx [some (eS st), some d1, some d2, some d3, some (.new (gs.map e2)), some d5, some d6, some (.int (line : Nat)), some (.ref L), o9, o10', some (eB2 z.1.b), some z.2, o13', o14'] S' ∧ Mid base ks d6 fnd L (ys ++ ys') S' ∧ ys'.map (·.1) = rows.map fun own => ⟨z.1.b ++ [own], own.foldl dnF z.1.f⟩) eRw
    (fun pre env S' => ∃ o10 o13 o14 ys', env = [some (eS st), some d1, some d2, some d3, some (.new (gs.map e2)), some d5, some d6, some (.int (line : Nat)), some (.ref L), o9, o10, some (eB2 z.1.b), some z.2, o13, o14] ∧ Mid base ks d6 fnd L (ys ++ ys') S' ∧ ys'.map (·.1) = pre.map fun own => (⟨z.1.b ++ [own], own.foldl dnF z.1.f⟩ : FB)) rows ?h0 ?_ ?_
  case h0 => exact ⟨o10, o13, o14, [], rfl, by simpa using h, rfl⟩
  · rintro pre own post env S' hx ⟨o10, o13, o14, ys', rfl, hM, hys⟩
    have hor : own ∈ rows := mem_of_split hx
    have hlen : ys'.length < 100000 := by
      have e1 := congrArg List.length hys
      have e2 := split_le hx
      simp at e1
      omega
    obtain ⟨o10', o14', e⟩ := in_body hn hkl hc hM (by rw [List.length_append]; omega) hz (own := own) (fun g hg => hgs g (dmem own hor g hg)) (by rw [drow own hor]; omega) hbl (eS st) d1 d2 d3 (.new (gs.map e2)) d5 (.int (line : Nat)) o9 o10 o14
    refine ⟨[some (eS st), some d1, some d2, some d3, some (.new (gs.map e2)), some d5, some d6, some (.int (line : Nat)), some (.ref L), o9, o10, some (eB2 z.1.b), some z.2, some (eRw own), o14], S', by simp, ?_⟩
    refine Nx.of e ⟨o10', some (eRw own), o14', ys' ++ [(⟨z.1.b ++ [own], own.foldl dnF z.1.f⟩, .rdc S'.length)], rfl, ?_, ?_⟩
    · rw [← List.append_assoc]
      exact hM.push z.1 _ _
    · rw [List.map_append, List.map_append, hys]
      rfl
  · rintro env S' ⟨o10, o13, o14, ys', rfl, hM, hys⟩
    exact ⟨o10, o13, o14, ys', S', rfl, hM, hys⟩
end
/-! ### how many -/
def dSum (st : St) (n : Nat) : Nat := sm n fun a => (cellN st 0 a).toNat
theorem chS1_len {gs : List Gl2} {B : Nat} (hB : gs.length ≤ B) (st : St) (line : Nat) (x : FB) : (chS1 st gs line x).length ≤ B ^ (cellN st 0 line).toNat := by
  unfold chS1
  rw [List.length_map]
  exact dl_len _ _ _ hB
theorem chA_len {gs : List Gl2} {B : Nat} (hB : gs.length ≤ B) (st : St) (f : Gl2 → Int) : ∀ n, (chA st gs f n).length ≤ B ^ dSum st n
  | 0 => by simp [chA, dSum, sm]
  | n + 1 => by
    unfold chA dSum
    rw [sm_succ, Nat.pow_add]
    have := flat_le (k := B ^ (cellN st 0 n).toNat) (f := chS1 st gs n) (xs := chA st gs f n) fun x => chS1_len hB st n x
    exact Nat.le_trans this (Nat.mul_le_mul_right _ (chA_len hB st f n))
theorem chA_b {gs : List Gl2} (st : St) (f : Gl2 → Int) : ∀ n, ∀ x ∈ chA st gs f n, x.b.length = n
  | 0, x, h => by simp [chA] at h; subst h; rfl
  | n + 1, x, h => by
    unfold chA at h
    obtain ⟨y, hy, h⟩ := List.mem_flatMap.mp h
    unfold chS1 at h
    obtain ⟨own, _, rfl⟩ := List.mem_map.mp h
    simp [chA_b st f n y hy]
theorem dSum_mono (st : St) {n m : Nat} (h : n ≤ m) : dSum st n ≤ dSum st m := by
  induction m with
  | zero => have : n = 0 := by omega
            subst this; exact Nat.le_refl _
  | succ m ih =>
    by_cases c : n = m + 1
    · subst c; exact Nat.le_refl _
    · have : dSum st (m + 1) = dSum st m + (cellN st 0 m).toNat := by unfold dSum; rw [sm_succ]
      have := ih (by omega)
      omega
theorem dSum_at (st : St) {n a : Nat} (h : a < n) : (cellN st 0 a).toNat ≤ dSum st n := by
  have h1 := dSum_mono st (show a + 1 ≤ n by omega)
  have : dSum st (a + 1) = dSum st a + (cellN st 0 a).toNat := by unfold dSum; rw [sm_succ]
  omega
/-! ### choices -/
def chB (st : St) (lines most room : Nat) : List Beat := srG ltB ((chA st (gsL most lines) (frF st room) lines).map (·.b))
theorem comp_seq {S : Sto} {d : D} {ds : List D} (h : lstOf S d = some ds) {fI : CE} {g : CG} {elt : CE} {vs : List Nat} {env : Env} (hI : fI env S = .ok d S) (f : D → D) (hl : ds.length ≤ sLim) (he : ∀ d ∈ ds, ∃ env1, g d (wipeE env vs) S = .ok env1 S ∧ elt env1 S = .ok (f d) S) :
    cFor (iSeq fI) g tYesD vs (cElt elt) env [] S = .ok (ds.map f) S := by
  cases d with
  | new xs =>
    have : xs = ds := by simpa using h
    subst this
    rw [cFor_fix (ds := xs.map fun x => x) (S1 := S) (by simp [hI]), cL_map (fun x => x) f xs [] (by simpa using hl) ?_]
    · simp
    · intro x hx
      obtain ⟨e1, h1, h2⟩ := he x hx
      exact ⟨e1, h1, rfl, h2⟩
  | ref n =>
    have hS : S[n]? = some (.lst ds) := by
      unfold lstOf at h
      cases q : S[n]? with
      | none => simp [q] at h
      | some o =>
        cases o <;> simp [q] at h
        rw [h]
    exact comp_ref hS hI f hl he
  | _ => simp [lstOf] at h
def fstD (d : D) : D := match d with | .tup [x, _] => x | _ => .non
theorem choices_ok {lines most room : Nat} (h1 : 1 ≤ lines) (h6 : lines ≤ 6) (hm : most ≤ 15) {st : St} (hs : IsSt lines st) {B : Nat} (hB : most * lines ≤ B) (hB1 : 1 ≤ B) (hBm : B ^ dSum st lines ≤ 100000) (S : Sto) :
    G_choices [eS st, .int (lines : Nat), .int (most : Nat), .int (room : Nat)] S = .ok (.new ((chB st lines most room).map eB)) S := by
  have hgB : (gsL most lines).length ≤ B := Nat.le_trans (gsL_len most lines) hB
  have hml : most * lines ≤ 90 := Nat.mul_le_mul hm h6
  have hkl : (gsL most lines).length ≤ 1000 := Nat.le_trans (gsL_len most lines) (by omega)
  have hn := gsL_nodup most lines
  have hc := cp_goals (most := most) (lines := lines) (by omega) (by omega)
  have gc1 := goals_comp hm h6 (eS st) (.int (room : Nat)) S
  have fc := free_comp (room := room) hs.w hm h6 S
  have z0 : (0 : Nat) ≤ sLim := Nat.zero_le _
  have z1 : (1 : Nat) ≤ sLim := by rw [sLim_eq]; omega
  have z2 : (2 : Nat) ≤ sLim := by rw [sLim_eq]; omega
  rw [G_choices_eq, F_choices]
  unfold chB
  have hcl := chA_len hgB st (frF st room)
  generalize hgs : gsL most lines = gs at *
  simp only [sSeq_d, sAsg_d, sExpr_d, sRet_d, sIf_d, sNext_d, eCall_d, aCons_d, aNil_d, eVar_d, eC_d, eOp_d, eUn_d, eNew_d, aCall_d, aComp_d, eTup_d, tBool_d, tOrD_d, tAndD_d, tNotD_d, eIf_d, eAnd_d, eOr_d, eNot_d, List.getElem?_cons_succ, List.getElem?_cons_zero, List.set_cons_succ, List.set_cons_zero, List.length_cons, List.length_nil, Nat.zero_add, Nat.reduceAdd, R.bind_ok, R.bind_exc, R.st_ok, R.st_exc, RS.next_nx, RS.next_rt, RS.next_exc, gName_d, gSt_ok, fnG_d, toB_bl, if_true, Bool.not_true, Bool.not_false, Bool.false_eq_true, if_false, fnR_rt, fnR_exc, gc_exc, gc1, fc, gDisp_d, gTupD_d, z0, z1, z2]
  rw [sFor_fix (ds := (List.range lines).map fun i => .int (i : Nat)) (S1 := S) (by simp only [iRng1_d, aCons_d, aNil_d, eVar_d, List.getElem?_cons_succ, List.getElem?_cons_zero, R.bind_ok, rng1_n lines S (by omega)])]
  refine forL_preN (fun r => gc S (fnR r) = .ok (.new ((srG ltB ((chA st gs (frF st room) lines).map (·.b))).map eB)) S) (fun i : Nat => .int (i : Nat))
    (fun pre env S' => pre = List.range pre.length ∧ ∃ (d6 : D) (fnd : List FD), ((∃ ds, d6 = .new ds) ∨ ∃ m, d6 = .ref m) ∧ lstOf S' d6 = some (fnd.map eFD) ∧ (∀ z ∈ fnd, TabD gs z.1.f S' z.2) ∧ fnd.map (·.1) = chA st gs (frF st room) pre.length ∧ (∃ G, S' = S ++ G) ∧ ∃ d5 o7 o8 o9 o10 o11 o12 o13 o14, env = [some (eS st), some (.int (lines : Nat)), some (.int (most : Nat)), some (.int (room : Nat)), some (.new (gs.map e2)), some d5, some d6, o7, o8, o9, o10, o11, o12, o13, o14]) (List.range lines) ?h0 ?_ ?_
  case h0 =>
    refine ⟨rfl, .new [.tup [.tup [], .dic (gs.map e2) (gs.map fun g => .int (frF st room g))]], [(⟨[], frF st room⟩, .dic (gs.map e2) (gs.map fun g => .int (frF st room g)))], .inl ⟨_, rfl⟩, rfl, ?_, rfl, ⟨[], by simp⟩, _, _, _, _, _, _, _, _, _, rfl⟩
    intro z hz
    have : z = (⟨[], frF st room⟩, .dic (gs.map e2) (gs.map fun g => .int (frF st room g))) := by simpa using hz
    subst this
    rfl
  · rintro pre line post env S' hx ⟨hpre, d6, fnd, hd6, hfl, hft, hch, ⟨G, hG⟩, d5, o7, o8, o9, o10, o11, o12, o13, o14, rfl⟩
    have hline : line < lines := by simpa using mem_of_split hx
    have hpl : pre.length < lines := by have := split_le hx; simpa using this
    have hle : line = pre.length := by
      have := congrArg (fun l => l[pre.length]?) hx
      simp [hpl] at this
      exact this.symm
    have hcell := hs.cell 0 line
    have hBl : B ^ (cellN st 0 line).toNat ≤ 100000 := Nat.le_trans (Nat.pow_le_pow_right hB1 (dSum_at st hline)) hBm
    have hfb : ∀ z ∈ fnd, z.1.b.length ≤ 1000 := fun z hz => by
      have : z.1 ∈ chA st gs (frF st room) pre.length := by rw [← hch]; exact List.mem_map_of_mem hz
      rw [chA_b st _ _ _ this]; omega
    refine ⟨[some (eS st), some (.int (lines : Nat)), some (.int (most : Nat)), some (.int (room : Nat)), some (.new (gs.map e2)), some d5, some d6, some (.int (line : Nat)), o8, o9, o10, o11, o12, o13, o14], S', by simp, ?_⟩
    have hnd : d6 ≠ .ref S'.length := by
      intro e
      subst e
      simp [lstOf] at hfl
    have hM0 : Mid S gs d6 fnd S'.length [] (S' ++ [.lst []]) := ⟨⟨G ++ [.lst []], by rw [hG]; simp⟩, lst_app hfl _, fun z hz => (hft z hz).app _, by simp, by simp, by rw [hG]; simp, hnd⟩
    simp only [sSeq_d, sAsg_d, sExpr_d, sRet_d, sIf_d, sNext_d, eCall_d, aCons_d, aNil_d, eVar_d, eC_d, eOp_d, eUn_d, eNew_d, aCall_d, aComp_d, eTup_d, tBool_d, tOrD_d, tAndD_d, tNotD_d, eIf_d, eAnd_d, eOr_d, eNot_d, List.getElem?_cons_succ, List.getElem?_cons_zero, List.set_cons_succ, List.set_cons_zero, List.length_cons, List.length_nil, Nat.zero_add, Nat.reduceAdd, R.bind_ok, R.bind_exc, R.st_ok, R.st_exc, RS.next_nx, RS.next_rt, RS.next_exc, gName_d, gSt_ok, fnG_d, toB_bl, if_true, Bool.not_true, Bool.not_false, Bool.false_eq_true, if_false, fnR_rt, fnR_exc, gc_exc, eAlloc_d, gDisp_d, z0]
    refine sFor_seq (d := d6) hd6 (by simp) (fun r => Nx _ (RS.next r _)) eFD (fun pr env S1 => ∃ ys, Mid S gs d6 fnd S'.length ys S1 ∧ ys.map (·.1) = (pr.map (·.1)).flatMap (chS1 st gs line) ∧ ∃ o9 o10 o11 o12 o13 o14, env = [some (eS st), some (.int (lines : Nat)), some (.int (most : Nat)), some (.int (room : Nat)), some (.new (gs.map e2)), some d5, some d6, some (.int (line : Nat)), some (.ref S'.length), o9, o10, o11, o12, o13, o14]) fnd (fun _ _ _ ⟨ys, hM, _⟩ => hM.fl) ⟨[], hM0, rfl, _, _, _, _, _, _, rfl⟩ ?_ ?_
    · rintro pr z po env S1 hy ⟨ys, hM, hys, o9, o10, o11, o12, o13, o14, rfl⟩
      have hzf : z ∈ fnd := by rw [hy]; simp
      have hylen : ys.length ≤ 100000 := by
        have e1 := congrArg List.length hys
        rw [List.length_map] at e1
        rw [e1]
        have e2 := flat_le (k := B ^ (cellN st 0 line).toNat) (f := chS1 st gs line) (xs := pr.map (·.1)) fun x => chS1_len hgB st line x
        refine Nat.le_trans e2 ?_
        have e3 : (pr.map (·.1)).length ≤ B ^ dSum st pre.length := by
          refine Nat.le_trans ?_ (hcl pre.length)
          rw [← hch, hy]
          simp
        refine Nat.le_trans (Nat.mul_le_mul_right _ e3) ?_
        rw [← Nat.pow_add]
        refine Nat.le_trans (Nat.pow_le_pow_right hB1 ?_) hBm
        have e4 : dSum st (pre.length + 1) = dSum st pre.length + (cellN st 0 line).toNat := by unfold dSum; rw [sm_succ, hle]
        have := dSum_mono st (show pre.length + 1 ≤ lines by omega)
        omega
      refine ⟨[some (eS st), some (.int (lines : Nat)), some (.int (most : Nat)), some (.int (room : Nat)), some (.new (gs.map e2)), some d5, some d6, some (.int (line : Nat)), some (.ref S'.length), o9, o10, some (eB2 z.1.b), some z.2, o13, o14], S1, by simp [eFD], ?_⟩
      obtain ⟨o10', o13', o14', ys', S2, e, hM2, hys'⟩ := mi_body hn hkl hc (gs := gs) (fun g hg => hg) hgB hB1 hs.w hline hcell.1 hcell.2 hBl hM hylen hzf (hfb z hzf) (.int (lines : Nat)) (.int (most : Nat)) (.int (room : Nat)) d5 o9 o10 o13 o14
      refine Nx.of e ⟨ys ++ ys', hM2, ?_, _, _, _, _, _, _, rfl⟩
      rw [List.map_append, hys, hys', List.map_append, List.flatMap_append]
      simp
    · rintro env S1 ⟨ys, hM, hys, o9, o10, o11, o12, o13, o14, rfl⟩
      refine Nx.of (env := [some (eS st), some (.int (lines : Nat)), some (.int (most : Nat)), some (.int (room : Nat)), some (.new (gs.map e2)), some d5, some (.ref S'.length), some (.int (line : Nat)), some (.ref S'.length), o9, o10, o11, o12, o13, o14]) (S := S1) (by simp) ⟨?_, .ref S'.length, ys, .inr ⟨_, rfl⟩, lstOf_ref hM.at_, hM.yt, ?_, hM.pre, _, _, _, _, _, _, _, _, _, rfl⟩
      · rw [List.length_append, List.length_singleton, List.range_succ, ← hpre, hle]
      · rw [hys, hch, List.length_append, List.length_singleton, hle]
        rfl
  · rintro env S' ⟨_, d6, fnd, hd6, hfl, hft, hch, ⟨G, hG⟩, d5, o7, o8, o9, o10, o11, o12, o13, o14, rfl⟩
    rw [List.length_range] at hch
    have hlen : fnd.length ≤ 100000 := by
      have e1 := congrArg List.length hch
      rw [List.length_map] at e1
      rw [e1]
      exact Nat.le_trans (hcl lines) hBm
    have cm := comp_seq (env := [some (eS st), some (.int (lines : Nat)), some (.int (most : Nat)), some (.int (room : Nat)), some (.new (gs.map e2)), some d5, some d6, o7, o8, o9, o10, o11, o12, o13, o14]) hfl (fI := eVar 6) (g := gTup 2 (gsCons (gName 11) (gsCons (gName 12) gsNil))) (elt := eVar 11) (vs := [11, 12]) (by simp) fstD (by rw [sLim_eq]; simp; omega) (fun d hd => by
      obtain ⟨z, hz, rfl⟩ := List.mem_map.mp hd
      exact ⟨[some (eS st), some (.int (lines : Nat)), some (.int (most : Nat)), some (.int (room : Nat)), some (.new (gs.map e2)), some d5, some d6, o7, o8, o9, o10, some (eB2 z.1.b), some z.2, o13, o14], by simp [eFD, wipeE], by simp [eFD, fstD]⟩)
    have ef : (fnd.map eFD).map fstD = (((chA st gs (frF st room) lines).map (·.b)) : List Beat).map eB := by
      rw [← hch, List.map_map, List.map_map, List.map_map]
      rfl
    rw [ef] at cm
    have so := gSorted_B (xs := (chA st gs (frF st room) lines).map (·.b)) (fun x hx => by
      obtain ⟨y, hy, rfl⟩ := List.mem_map.mp hx
      intro e
      have := chA_b st _ _ y hy
      rw [e] at this
      simp at this
      omega) S'
    simp only [sSeq_d, sAsg_d, sExpr_d, sRet_d, sIf_d, sNext_d, eCall_d, aCons_d, aNil_d, eVar_d, eC_d, eOp_d, eUn_d, eNew_d, aCall_d, aComp_d, eTup_d, tBool_d, tOrD_d, tAndD_d, tNotD_d, eIf_d, eAnd_d, eOr_d, eNot_d, List.getElem?_cons_succ, List.getElem?_cons_zero, List.set_cons_succ, List.set_cons_zero, List.length_cons, List.length_nil, Nat.zero_add, Nat.reduceAdd, R.bind_ok, R.bind_exc, R.st_ok, R.st_exc, RS.next_nx, RS.next_rt, RS.next_exc, gName_d, gSt_ok, fnG_d, toB_bl, if_true, Bool.not_true, Bool.not_false, Bool.false_eq_true, if_false, fnR_rt, fnR_exc, gc_exc, cm, so]
    rw [hG]
    refine gc_pure (Frz.of_below (und_new fun x hx => ?_))
    obtain ⟨y, _, rfl⟩ := List.mem_map.mp hx
    exact und_eB _ _
end J

namespace J
open PySem PySem.Spec PyProof.Rows L2

/-! ## which beats choices finds -/
abbrev gtG (x y : Gl2) : Prop := y.1 < x.1 ∨ y.1 = x.1 ∧ y.2 < x.2
theorem leT_refl (x : Gl2) : leT x x = true := by simp [leT]
theorem leT_of_gt {x y : Gl2} (h : gtG x y) : leT y x = true := by
  obtain ⟨x1, x2⟩ := x
  obtain ⟨y1, y2⟩ := y
  simp only [gtG] at h
  simp [leT]
  omega
theorem not_leT_of_gt {x y : Gl2} (h : gtG x y) : ¬ leT x y = true := by
  obtain ⟨x1, x2⟩ := x
  obtain ⟨y1, y2⟩ := y
  simp only [gtG] at h
  simp [leT]
  omega
def OwnOk (gs : List Gl2) (m : Nat) (o : List Gl2) : Prop := o.length = m ∧ (∀ g ∈ o, g ∈ gs) ∧ o.Pairwise fun x y => leT y x = true
theorem dl_iff : ∀ (m : Nat) (gs : List Gl2) (f : Gl2 → Int) (r : List Gl2), gs.Pairwise gtG → (r ∈ dl m gs f ↔ OwnOk gs m r ∧ ∀ g ∈ r, (r.count g : Int) ≤ f g)
  | 0, gs, f, r, hg => by
    simp only [dl, List.mem_singleton, OwnOk]
    constructor
    · rintro rfl
      simp
    · rintro ⟨⟨h, _⟩, _⟩
      exact List.eq_nil_of_length_eq_zero h
  | m + 1, gs, f, r, hg => by
    unfold dl
    rw [List.mem_flatMap]
    constructor
    · rintro ⟨k, hk, h⟩
      have hk : k < gs.length := by simpa using hk
      unfold dlK at h
      have ek : (gs[k]?).getD (0, 0) = gs[k] := by simp [hk]
      rw [ek] at h
      split at h
      · rename_i hp
        obtain ⟨q, hq, rfl⟩ := List.mem_map.mp h
        obtain ⟨⟨q1, q2, q3⟩, q4⟩ := (dl_iff m (gs.drop k) (dnF f gs[k]) q (hg.sublist (List.drop_sublist k gs))).mp hq
        have hdk : gs.drop k = gs[k] :: gs.drop (k + 1) := List.drop_eq_getElem_cons hk
        have hpw := hg.sublist (List.drop_sublist k gs)
        rw [hdk, List.pairwise_cons] at hpw
        refine ⟨⟨by simp [q1], ?_, ?_⟩, ?_⟩
        · intro g hgm
          rcases List.mem_cons.mp hgm with rfl | hgm
          · exact List.getElem_mem hk
          · exact List.mem_of_mem_drop (q2 g hgm)
        · rw [List.pairwise_cons]
          refine ⟨fun y hy => ?_, q3⟩
          have := q2 y hy
          rw [hdk] at this
          rcases List.mem_cons.mp this with rfl | this
          · exact leT_refl _
          · exact leT_of_gt (hpw.1 y this)
        · intro g hgm
          by_cases c : g = gs[k]
          · subst c
            rw [List.count_cons_self]
            by_cases d : gs[k] ∈ q
            · have := q4 _ d
              unfold dnF at this
              rw [if_pos rfl] at this
              omega
            · rw [List.count_eq_zero.mpr d]
              omega
          · have hq' : g ∈ q := (List.mem_cons.mp hgm).resolve_left c
            have := q4 g hq'
            unfold dnF at this
            rw [if_neg c] at this
            rw [List.count_cons_of_ne (fun e => c e.symm)]
            exact this
      · cases h
    · rintro ⟨⟨h1, h2, h3⟩, h4⟩
      cases r with
      | nil => simp at h1
      | cons g q =>
        obtain ⟨k, hk, ek⟩ := List.getElem_of_mem (h2 g (by simp))
        refine ⟨k, by simpa using hk, ?_⟩
        unfold dlK
        have e0 : (gs[k]?).getD (0, 0) = g := by simp [hk, ek]
        rw [e0]
        have hc := h4 g (by simp)
        rw [List.count_cons_self] at hc
        rw [if_pos (by omega)]
        refine List.mem_map.mpr ⟨q, ?_, rfl⟩
        rw [List.pairwise_cons] at h3
        refine (dl_iff m (gs.drop k) (dnF f g) q (hg.sublist (List.drop_sublist k gs))).mpr ⟨⟨by simpa using h1, fun x hx => ?_, h3.2⟩, fun x hx => ?_⟩
        · obtain ⟨j, hj, ej⟩ := List.getElem_of_mem (h2 x (by simp [hx]))
          have hle := h3.1 x hx
          have hkj : k ≤ j := by
            rcases Nat.lt_or_ge j k with c | c
            · have := List.pairwise_iff_getElem.mp hg j k hj hk c
              rw [ej, ek] at this
              exact absurd hle (not_leT_of_gt this)
            · exact c
          rw [List.mem_drop_iff_getElem]
          refine ⟨j - k, by omega, ?_⟩
          rw [← ej]
          congr 1
          omega
        · have := h4 x (by simp [hx])
          unfold dnF
          by_cases c : x = g
          · subst c
            rw [List.count_cons_self] at this
            rw [if_pos rfl]
            omega
          · rw [List.count_cons_of_ne (fun e => c e.symm)] at this
            rw [if_neg c]
            exact this
def tcB (b : Bt2) (g : Gl2) : Nat := (b.map fun o => o.count g).sum
theorem tcB_snoc (b : Bt2) (o : List Gl2) (g : Gl2) : tcB (b ++ [o]) g = tcB b g + o.count g := by simp [tcB]
theorem fold_dn : ∀ (o : List Gl2) (f : Gl2 → Int) (g : Gl2), o.foldl dnF f g = f g - (o.count g : Nat)
  | [], f, g => by simp
  | x :: o, f, g => by
    rw [List.foldl_cons, fold_dn o (dnF f x) g]
    unfold dnF
    by_cases c : g = x
    · subst c
      rw [if_pos rfl, List.count_cons_self]
      omega
    · rw [if_neg c, List.count_cons_of_ne (fun e => c e.symm)]
theorem chA_iff {gs : List Gl2} (hg : gs.Pairwise gtG) (st : St) (f : Gl2 → Int) : ∀ (n : Nat) (x : FB), x ∈ chA st gs f n ↔ x.b.length = n ∧ (∀ a, a < n → OwnOk gs (cellN st 0 a).toNat ((x.b[a]?).getD [])) ∧ (∀ g, tcB x.b g = 0 ∨ (tcB x.b g : Int) ≤ f g) ∧ x.f = fun g => f g - (tcB x.b g : Nat)
  | 0, x => by
    simp only [chA, List.mem_singleton]
    constructor
    · rintro rfl
      refine ⟨rfl, fun a ha => absurd ha (Nat.not_lt_zero _), fun g => .inl rfl, ?_⟩
      funext g
      simp [tcB]
    · rintro ⟨h1, _, _, h4⟩
      obtain ⟨b, f'⟩ := x
      have hb : b = [] := List.eq_nil_of_length_eq_zero h1
      subst hb
      simp only at h4
      rw [h4]
      congr 1
      funext g
      simp [tcB]
  | n + 1, x => by
    unfold chA
    rw [List.mem_flatMap]
    constructor
    · rintro ⟨y, hy, hx⟩
      obtain ⟨y1, y2, y3, y4⟩ := (chA_iff hg st f n y).mp hy
      unfold chS1 at hx
      obtain ⟨own, ho, rfl⟩ := List.mem_map.mp hx
      obtain ⟨o1, o2⟩ := (dl_iff _ gs y.f own hg).mp ho
      refine ⟨by simp [y1], fun a ha => ?_, fun g => ?_, ?_⟩
      · by_cases c : a < n
        · have := y2 a c
          rw [List.getElem?_append_left (by omega)]
          exact this
        · have : a = n := by omega
          subst this
          rw [List.getElem?_append_right (by omega), y1]
          simpa using o1
      · rw [tcB_snoc]
        by_cases c : g ∈ own
        · have := o2 g c
          rw [y4] at this
          right
          simp only at this
          omega
        · rw [List.count_eq_zero.mpr c]
          exact y3 g
      · funext g
        show own.foldl dnF y.f g = f g - (tcB (y.b ++ [own]) g : Nat)
        rw [fold_dn, y4, tcB_snoc]
        show f g - (tcB y.b g : Nat) - (own.count g : Nat) = _
        omega
    · rintro ⟨h1, h2, h3, h4⟩
      obtain ⟨b, f'⟩ := x
      simp only at h1 h2 h3 h4
      have hne : b ≠ [] := fun e => by rw [e] at h1; simp at h1
      obtain ⟨b', own, rfl⟩ : ∃ b' own, b = b' ++ [own] := ⟨b.dropLast, b.getLast hne, (List.dropLast_concat_getLast hne).symm⟩
      have hb' : b'.length = n := by simpa using h1
      refine ⟨⟨b', fun g => f g - (tcB b' g : Nat)⟩, (chA_iff hg st f n _).mpr ⟨hb', fun a ha => ?_, fun g => ?_, rfl⟩, ?_⟩
      · have := h2 a (by omega)
        rw [List.getElem?_append_left (by omega)] at this
        exact this
      · have := h3 g
        rw [tcB_snoc] at this
        simp only
        omega
      · unfold chS1
        refine List.mem_map.mpr ⟨own, (dl_iff _ gs _ own hg).mpr ⟨?_, fun g hgm => ?_⟩, ?_⟩
        · have := h2 n (by omega)
          rw [List.getElem?_append_right (by omega), hb'] at this
          simpa using this
        · have := h3 g
          rw [tcB_snoc] at this
          have hp := List.count_pos_iff.mpr hgm
          simp only
          omega
        · simp only
          congr 1
          rw [h4]
          funext g
          rw [fold_dn, tcB_snoc]
          omega
theorem mem_chB {st : St} {lines most room : Nat} {b : Beat} : b ∈ chB st lines most room ↔ b.length = lines ∧ (∀ a, a < lines → OwnOk (gsL most lines) (cellN st 0 a).toNat ((b[a]?).getD [])) ∧ ∀ g, tcB b g = 0 ∨ (tcB b g : Int) ≤ frF st room g := by
  unfold chB
  rw [(srG_perm _).mem_iff, List.mem_map]
  constructor
  · rintro ⟨x, hx, rfl⟩
    obtain ⟨h1, h2, h3, _⟩ := (chA_iff (gsL_desc most lines) st (frF st room) lines x).mp hx
    exact ⟨h1, h2, h3⟩
  · rintro ⟨h1, h2, h3⟩
    exact ⟨⟨b, fun g => frF st room g - (tcB b g : Nat)⟩, (chA_iff (gsL_desc most lines) st (frF st room) lines _).mpr ⟨h1, h2, h3, rfl⟩, rfl⟩
/-! ### what such a beat makes of a state -/
def nxt (n : Nat) (s : St) (b : Beat) : St := trim (stpG n s b)
theorem tcB_sm {b : Beat} {n : Nat} (h : b.length = n) (g : Gl2) : tcB b g = sm n fun a => ((b[a]?).getD []).count g := by
  unfold tcB sm
  subst h
  congr 1
  apply List.ext_getElem
  · simp
  · intro i h1 h2
    simp at h1
    simp [h1]
section
variable {st : St} {n most room : Nat} {b : Beat}
theorem chB_ok (hn6 : n ≤ 6) (hm : most ≤ 15) (hs : IsSt n st) (h : b ∈ chB st n most room) : okB n b := by
  obtain ⟨h1, h2, h3⟩ := mem_chB.mp h
  refine ⟨h1, fun o ho => ?_⟩
  obtain ⟨a, ha, rfl⟩ := List.getElem_of_mem ho
  obtain ⟨p1, p2, p3⟩ := h2 a (by omega)
  have e : (b[a]?).getD [] = b[a] := by simp [ha]
  rw [e] at p1 p2 p3
  have hc := hs.cell 0 a
  refine ⟨by omega, fun t ht => ?_, dsc_of_desc p3⟩
  obtain ⟨x, y, q1, q2, q3, rfl⟩ := mem_gsL.mp (p2 t ht)
  simp [okT]
  omega
theorem chB_cl1 (hs : IsSt n st) (h : b ∈ chB st n most room) : cl1 n st b = none := by
  obtain ⟨h1, h2, h3⟩ := mem_chB.mp h
  unfold cl1
  rw [List.findSome?_eq_none_iff]
  intro a ha
  have ha : a < n := by simpa using ha
  have hc := hs.cell 0 a
  unfold clA
  rw [if_pos]
  rw [(h2 a ha).1]
  omega
theorem chB_cell (hn6 : n ≤ 6) (hm : most ≤ 15) (hs : IsSt n st) (h : b ∈ chB st n most room) {k a : Nat} (hk : k < 15) (ha : a < n) : cellN (stpG n st b) k a = cellN st (k + 1) a + (tcB b ((k : Int) + 1, (a : Int)) : Nat) := by
  rw [cell_stpG (chB_ok hn6 hm hs h) st hk ha, tcB_sm (mem_chB.mp h).1]
theorem chB_le (hn6 : n ≤ 6) (hm : most ≤ 15) (hr : room ≤ 4) (hs : IsSt n st) (h : b ∈ chB st n most room) {k a : Nat} (hk : k < 15) (ha : a < n) : cellN (stpG n st b) k a ≤ 4 := by
  rw [chB_cell hn6 hm hs h hk ha]
  have hc := hs.cell (k + 1) a
  rcases (mem_chB.mp h).2.2 ((k : Int) + 1, (a : Int)) with q | q
  · omega
  · unfold frF at q
    have e1 : ((k : Int) + 1).toNat = k + 1 := by omega
    have e2 : ((a : Int)).toNat = a := by omega
    simp only [e1, e2] at q
    omega
theorem chB_cl2 (hn6 : n ≤ 6) (hm : most ≤ 15) (hr : room ≤ 4) (hs : IsSt n st) (h : b ∈ chB st n most room) : cl2 n (stpG n st b) = none := by
  unfold cl2
  rw [List.findSome?_eq_none_iff]
  intro k hk
  rw [List.findSome?_eq_none_iff]
  intro a ha
  have hk : k < 15 := by simpa using hk
  have ha : a < n := by simpa using ha
  unfold clK
  rw [if_pos (chB_le hn6 hm hr hs h hk ha)]
theorem grid_mem {l m : Nat} {g : Grid} (d : Dim l m g) {c : List Int} (hc : c ∈ g) {x : Int} (hx : x ∈ c) : ∃ k a, k < l ∧ a < m ∧ x = cellN g k a := by
  obtain ⟨k, hk, rfl⟩ := List.getElem_of_mem hc
  obtain ⟨a, ha, rfl⟩ := List.getElem_of_mem hx
  refine ⟨k, a, by rw [← d.1]; exact hk, by rw [← d.2 _ (List.getElem_mem hk)]; exact ha, ?_⟩
  unfold cellN
  simp [hk, ha]
theorem nxt_st (hn6 : n ≤ 6) (hm : most ≤ 15) (hr : room ≤ 4) (hs : IsSt n st) (h : b ∈ chB st n most room) : IsSt n (nxt n st b) := by
  have d := dim_stpG n st b
  refine ⟨fun c hc => d.2 c (trim_mem hc), fun c hc x hx => ?_, fun c hc x hx => ?_, ?_, tr_trim _⟩
  · obtain ⟨k, a, hk, ha, rfl⟩ := grid_mem d (trim_mem hc) hx
    rw [chB_cell hn6 hm hs h hk ha]
    have := hs.cell (k + 1) a
    omega
  · obtain ⟨k, a, hk, ha, rfl⟩ := grid_mem d (trim_mem hc) hx
    exact chB_le hn6 hm hr hs h hk ha
  · have := trim_len (stpG n st b)
    rw [d.1] at this
    exact this
theorem nxt_cell (hn6 : n ≤ 6) (hm : most ≤ 15) (hs : IsSt n st) (h : b ∈ chB st n most room) {k a : Nat} (ha : a < n) : cellN (nxt n st b) k a = cellN st (k + 1) a + (tcB b ((k : Int) + 1, (a : Int)) : Nat) := by
  unfold nxt
  rw [cellN_trim]
  by_cases hk : k < 15
  · exact chB_cell hn6 hm hs h hk ha
  · rw [cellN_out (by rw [(dim_stpG n st b).1]; omega), cellN_out (g := st) (by have := hs.l; omega)]
    have : tcB b ((k : Int) + 1, (a : Int)) = 0 := by
      rw [tcB_sm (mem_chB.mp h).1]
      refine (sm_zero fun a' ha' => ?_)
      rw [List.count_eq_zero]
      intro hmem
      obtain ⟨x, y, q1, q2, q3, e⟩ := mem_gsL.mp (((mem_chB.mp h).2.1 a' ha').2.1 _ hmem)
      have := congrArg Prod.fst e
      simp only at this
      omega
    rw [this]
    rfl
end
end J

namespace J
open PySem PySem.Spec PyProof.Rows L2

/-! ## how many balls a state has -/
def rsum (n : Nat) (s : St) (k : Nat) : Int := ((List.range n).map fun a => cellN s k a).sum
def cs (n L : Nat) (s : St) : Int := ((List.range L).map fun k => rsum n s k).sum
theorem rsum_row {n : Nat} {s : St} {k : Nat} (w : ∀ c ∈ s, c.length = n) (hk : k < s.length) : rsum n s k = s[k].sum := by
  unfold rsum
  congr 1
  have hl := w _ (List.getElem_mem hk)
  apply List.ext_getElem
  · simp [hl]
  · intro i h1 h2
    simp at h1
    have : i < s[k].length := by omega
    simp [cellN, hk, this]
theorem rsum_out {n : Nat} {s : St} {k : Nat} (hk : s.length ≤ k) : rsum n s k = 0 := by
  unfold rsum
  have : ((List.range n).map fun a => cellN s k a) = (List.range n).map fun _ => (0 : Int) := List.map_congr_left fun a _ => cellN_out hk a
  rw [this, isum_const]
  simp
theorem cs_succ (n L : Nat) (s : St) : cs n (L + 1) s = cs n L s + rsum n s L := by
  unfold cs
  rw [List.range_succ, List.map_append, isum_append]
  simp
theorem cs_first (n L : Nat) (s : St) : cs n (L + 1) s = rsum n s 0 + ((List.range L).map fun k => rsum n s (k + 1)).sum := by
  unfold cs
  rw [List.range_succ_eq_map, List.map_cons, List.sum_cons, List.map_map]
  rfl
theorem cs_flat {n : Nat} {s : St} (w : ∀ c ∈ s, c.length = n) : ∀ L, s.length ≤ L → s.flatten.sum = cs n L s := by
  have key : cs n s.length s = s.flatten.sum := by
    unfold cs
    have e : ((List.range s.length).map fun k => rsum n s k) = s.map List.sum := by
      apply List.ext_getElem
      · simp
      · intro i h1 h2
        simp at h1
        simp [rsum_row w h1]
    rw [e]
    clear e w
    induction s with
    | nil => rfl
    | cons c s ih => rw [List.map_cons, List.sum_cons, ih, List.flatten_cons, isum_append]
  intro L hL
  obtain ⟨d, rfl⟩ : ∃ d, L = s.length + d := ⟨L - s.length, by omega⟩
  induction d with
  | zero => exact key.symm
  | succ d ih => rw [← Nat.add_assoc, cs_succ, rsum_out (by omega), ← ih (by omega)]; omega
theorem own_cover {n : Nat} : ∀ o : List Gl2, (∀ g ∈ o, ∃ h a : Nat, 1 ≤ h ∧ h ≤ 15 ∧ a < n ∧ g = ((h : Int), (a : Int))) → (sm 15 fun k => sm n fun a => o.count ((k : Int) + 1, (a : Int))) = o.length
  | [], _ => by
    rw [sm_zero fun k _ => sm_zero fun a _ => by simp]
    rfl
  | y :: o, h => by
    obtain ⟨h0, a0, h1, h2, h3, rfl⟩ := h y (by simp)
    have ih := own_cover o fun g hg => h g (by simp [hg])
    have e : ∀ k a : Nat, (((h0 : Int), (a0 : Int)) :: o).count ((k : Int) + 1, (a : Int)) = o.count ((k : Int) + 1, (a : Int)) + if k = h0 - 1 then (if a = a0 then 1 else 0) else 0 := by
      intro k a
      rw [List.count_cons]
      congr 1
      by_cases c : k = h0 - 1
      · by_cases d : a = a0
        · have : (((h0 : Int), (a0 : Int)) == ((k : Int) + 1, (a : Int))) = true := by
            rw [beq_iff_eq]
            refine Prod.ext ?_ ?_
            · show (h0 : Int) = (k : Int) + 1; omega
            · show (a0 : Int) = (a : Int); omega
          rw [if_pos this, if_pos c, if_pos d]
        · have : ¬ (((h0 : Int), (a0 : Int)) == ((k : Int) + 1, (a : Int))) = true := by
            rw [beq_iff_eq]
            intro z
            have := congrArg Prod.snd z
            simp only at this
            omega
          rw [if_neg this, if_pos c, if_neg d]
      · have : ¬ (((h0 : Int), (a0 : Int)) == ((k : Int) + 1, (a : Int))) = true := by
          rw [beq_iff_eq]
          intro z
          have := congrArg Prod.fst z
          simp only at this
          omega
        rw [if_neg this, if_neg c]
    have e2 : (sm 15 fun k => sm n fun a => (((h0 : Int), (a0 : Int)) :: o).count ((k : Int) + 1, (a : Int))) = (sm 15 fun k => sm n fun a => o.count ((k : Int) + 1, (a : Int))) + sm 15 fun k => if k = h0 - 1 then (sm n fun a => if a = a0 then 1 else 0) else 0 := by
      rw [← sm_add]
      refine sm_congr fun k _ => ?_
      rw [show (sm n fun a => (((h0 : Int), (a0 : Int)) :: o).count ((k : Int) + 1, (a : Int))) = sm n fun a => o.count ((k : Int) + 1, (a : Int)) + if k = h0 - 1 then (if a = a0 then 1 else 0) else 0 from sm_congr fun a _ => e k a, sm_add]
      congr 1
      by_cases c : k = h0 - 1
      · simp only [c, if_true]
      · simp only [c, if_false]
        exact sm_zero fun _ _ => rfl
    rw [e2, ih, sm_ite (by omega) (fun _ => sm n fun a => if a = a0 then 1 else 0), sm_ite h3 (fun _ => 1)]
    simp
theorem isum_sm (n : Nat) (f : Nat → Nat) : ((List.range n).map fun a => ((f a : Nat) : Int)).sum = ((sm n f : Nat) : Int) := by
  induction n with
  | zero => rfl
  | succ n ih => rw [List.range_succ, List.map_append, isum_append, ih, sm_succ]; simp
section
variable {st : St} {n most room : Nat} {b : Beat}
theorem nxt_sum (hn6 : n ≤ 6) (hm : most ≤ 15) (hr : room ≤ 4) (hs : IsSt n st) (h : b ∈ chB st n most room) : (nxt n st b).flatten.sum = st.flatten.sum := by
  have hs' := nxt_st hn6 hm hr hs h
  rw [cs_flat hs'.w 15 hs'.l, cs_flat hs.w 16 (by have := hs.l; omega), cs_first n 15 st]
  have e1 : cs n 15 (nxt n st b) = ((List.range 15).map fun k => rsum n st (k + 1)).sum + ((sm 15 fun k => sm n fun a => tcB b ((k : Int) + 1, (a : Int)) : Nat) : Int) := by
    unfold cs
    rw [← isum_sm, ← isum_add]
    congr 1
    refine List.map_congr_left fun k _ => ?_
    unfold rsum
    rw [← isum_sm, ← isum_add]
    congr 1
    refine List.map_congr_left fun a ha => ?_
    exact nxt_cell hn6 hm hs h (by simpa using ha)
  have e2 : (sm 15 fun k => sm n fun a => tcB b ((k : Int) + 1, (a : Int))) = sm n fun a' => ((b[a']?).getD []).length := by
    have q1 : (sm 15 fun k => sm n fun a => tcB b ((k : Int) + 1, (a : Int))) = sm n fun a' => sm 15 fun k => sm n fun a => ((b[a']?).getD []).count ((k : Int) + 1, (a : Int)) := by
      rw [sm_swap n 15]
      refine sm_congr fun k _ => ?_
      rw [sm_swap n n]
      exact sm_congr fun a _ => tcB_sm (mem_chB.mp h).1 _
    rw [q1]
    refine sm_congr fun a' ha' => own_cover _ fun g hg => ?_
    obtain ⟨x, y, p1, p2, p3, rfl⟩ := mem_gsL.mp (((mem_chB.mp h).2.1 a' ha').2.1 g hg)
    exact ⟨x, y, p1, by omega, p3, rfl⟩
  have e3 : rsum n st 0 = ((sm n fun a' => ((b[a']?).getD []).length : Nat) : Int) := by
    unfold rsum
    rw [← isum_sm]
    congr 1
    refine List.map_congr_left fun a ha => ?_
    have ha : a < n := by simpa using ha
    rw [((mem_chB.mp h).2.1 a ha).1]
    have := hs.cell 0 a
    omega
  rw [e1, e2, e3]
  omega
end
theorem dSum_le {n : Nat} {st : St} (hs : IsSt n st) {N : Nat} (h : st.flatten.sum = (N : Int)) : dSum st n ≤ N := by
  have h1 := cs_flat hs.w 16 (by have := hs.l; omega)
  rw [h, cs_first] at h1
  have h2 : rsum n st 0 = ((dSum st n : Nat) : Int) := by
    unfold rsum dSum
    rw [← isum_sm]
    congr 1
    refine List.map_congr_left fun a ha => ?_
    have := hs.cell 0 a
    omega
  have h3 : 0 ≤ ((List.range 15).map fun k => rsum n st (k + 1)).sum := by
    have e : ((List.range 15).map fun k => rsum n st (k + 1)) = (List.range 15).map fun k => ((sm n fun a => (cellN st (k + 1) a).toNat : Nat) : Int) := List.map_congr_left fun k _ => by
      unfold rsum
      rw [← isum_sm]
      congr 1
      refine List.map_congr_left fun a ha => ?_
      have := hs.cell (k + 1) a
      omega
    rw [e, isum_sm]
    omega
  omega
/-! ## how many states there are -/
def cellL (n : Nat) : List (Nat × Nat) := (List.range 15).flatMap fun k => (List.range n).map fun a => (k, a)
def aG (n : Nat) : Nat → List Grid
  | 0 => [zeG 15 n]
  | N + 1 => (aG n N).flatMap fun g => (cellL n).map fun p => bump g p.1 p.2
theorem flen (n : Nat) : ∀ L : Nat, ((List.range L).flatMap fun k => (List.range n).map fun a => (k, a)).length = L * n
  | 0 => by simp
  | L + 1 => by
    rw [List.range_succ, List.flatMap_append, List.length_append, flen n L, Nat.succ_mul]
    simp
theorem cellL_len (n : Nat) : (cellL n).length = 15 * n := flen n 15
theorem cell_ze (l n k a : Nat) : cellN (zeG l n) k a = 0 := by
  unfold cellN zeG
  rw [List.getElem?_replicate]
  split
  · simp only [Option.getD_some, List.getElem?_replicate]
    split <;> rfl
  · rfl
theorem aG_len (n : Nat) : ∀ N, (aG n N).length = (15 * n) ^ N
  | 0 => rfl
  | N + 1 => by
    unfold aG
    have e : ∀ xs : List Grid, (xs.flatMap fun g => (cellL n).map fun p => bump g p.1 p.2).length = xs.length * (15 * n) := by
      intro xs
      induction xs with
      | nil => simp
      | cons x xs ih =>
        rw [List.flatMap_cons, List.length_append, ih, List.length_map, cellL_len, List.length_cons]
        generalize 15 * n = m
        rw [Nat.succ_mul, Nat.add_comm]
    rw [e, aG_len n N, Nat.pow_succ]
def mkGd (n : Nat) (F : Nat → Nat → Int) : Grid := (List.range 15).map fun k => (List.range n).map fun a => F k a
theorem dim_mkGd (n : Nat) (F : Nat → Nat → Int) : Dim 15 n (mkGd n F) := ⟨by simp [mkGd], fun c hc => by obtain ⟨k, _, rfl⟩ := List.mem_map.mp hc; simp⟩
theorem cell_mkGd (n : Nat) (F : Nat → Nat → Int) {k a : Nat} (hk : k < 15) (ha : a < n) : cellN (mkGd n F) k a = F k a := by
  show ((((mkGd n F)[k]?).getD [])[a]?).getD 0 = _
  simp [mkGd, hk, ha]
theorem cs_cell {n : Nat} {g g' : Grid} {f : Nat → Nat → Nat} (h : ∀ k a, k < 15 → a < n → cellN g k a = cellN g' k a + (f k a : Nat)) : cs n 15 g = cs n 15 g' + ((sm 15 fun k => sm n fun a => f k a : Nat) : Int) := by
  unfold cs
  rw [← isum_sm, ← isum_add]
  congr 1
  refine List.map_congr_left fun k hk => ?_
  unfold rsum
  rw [← isum_sm, ← isum_add]
  congr 1
  exact List.map_congr_left fun a ha => h k a (by simpa using hk) (by simpa using ha)
theorem cs_zero (n : Nat) : cs n 15 (zeG 15 n) = 0 := by
  have : ∀ k a, k < 15 → a < n → cellN (zeG 15 n) k a = 0 := fun k a hk ha => cell_ze 15 n k a
  unfold cs
  have e : ((List.range 15).map fun k => rsum n (zeG 15 n) k) = (List.range 15).map fun _ => (0 : Int) := List.map_congr_left fun k hk => by
    unfold rsum
    have : ((List.range n).map fun a => cellN (zeG 15 n) k a) = (List.range n).map fun _ => (0 : Int) := List.map_congr_left fun a ha => this k a (by simpa using hk) (by simpa using ha)
    rw [this, isum_const]
    simp
  rw [e, isum_const]
  simp
theorem sm_term {n i : Nat} (f : Nat → Nat) (h : i < n) : f i ≤ sm n f := by
  induction n with
  | zero => omega
  | succ n ih =>
    rw [sm_succ]
    by_cases c : i = n
    · subst c; omega
    · have := ih (by omega); omega
theorem aG_mem {n : Nat} : ∀ (N : Nat) (g : Grid), Dim 15 n g → (∀ k a, 0 ≤ cellN g k a) → cs n 15 g = (N : Int) → g ∈ aG n N := by
  intro N
  have conv : ∀ g : Grid, (∀ k a, 0 ≤ cellN g k a) → cs n 15 g = ((sm 15 fun k => sm n fun a => (cellN g k a).toNat : Nat) : Int) := fun g hp => by
    have := cs_cell (n := n) (g := g) (g' := zeG 15 n) (f := fun k a => (cellN g k a).toNat) fun k a hk ha => by
      have e : cellN (zeG 15 n) k a = 0 := cell_ze 15 n k a
      have := hp k a
      rw [e]
      omega
    rw [cs_zero] at this
    omega
  induction N with
  | zero =>
    intro g d hp hc
    unfold aG
    rw [List.mem_singleton]
    rw [conv g hp] at hc
    refine grid_ext d ⟨by unfold zeG; rw [List.length_replicate], fun c hc => by rw [List.eq_of_mem_replicate hc, List.length_replicate]⟩ fun k a hk ha => ?_
    have h1 := sm_term (fun k => sm n fun a => (cellN g k a).toNat) hk
    have h2 := sm_term (fun a => (cellN g k a).toNat) ha
    have e : cellN (zeG 15 n) k a = 0 := cell_ze 15 n k a
    have := hp k a
    omega
  | succ N ih =>
    intro g d hp hc
    have hex : ∃ k a, k < 15 ∧ a < n ∧ 0 < cellN g k a := by
      by_cases q : ∃ k a, k < 15 ∧ a < n ∧ 0 < cellN g k a
      · exact q
      · exfalso
        rw [conv g hp, sm_zero fun k hk => sm_zero fun a ha => by
          have : ¬ 0 < cellN g k a := fun z => q ⟨k, a, hk, ha, z⟩
          omega] at hc
        omega
    obtain ⟨k, a, hk, ha, hpos⟩ := hex
    have hd' := dim_mkGd n fun k' a' => cellN g k' a' - if k' = k ∧ a' = a then 1 else 0
    generalize hg' : mkGd n (fun k' a' => cellN g k' a' - if k' = k ∧ a' = a then 1 else 0) = g' at hd'
    have hcell : ∀ k' a', k' < 15 → a' < n → cellN g' k' a' = cellN g k' a' - if k' = k ∧ a' = a then 1 else 0 := fun k' a' h1 h2 => by rw [← hg', cell_mkGd n _ h1 h2]
    have hsum : cs n 15 g = cs n 15 g' + ((sm 15 fun k' => sm n fun a' => if k' = k then (if a' = a then 1 else 0) else 0 : Nat) : Int) := cs_cell fun k' a' h1 h2 => by
      rw [hcell k' a' h1 h2]
      by_cases c1 : k' = k
      · by_cases c2 : a' = a
        · simp [c1, c2]
        · simp [c1, c2]
      · simp [c1]
    have hone : (sm 15 fun k' => sm n fun a' => if k' = k then (if a' = a then 1 else 0) else 0) = 1 := by
      rw [show (sm 15 fun k' => sm n fun a' => if k' = k then (if a' = a then 1 else 0) else 0) = sm 15 fun k' => if k' = k then (sm n fun a' => if a' = a then 1 else 0) else 0 from sm_congr fun k' _ => by
        by_cases c : k' = k
        · simp only [c, if_true]
        · simp only [c, if_false]
          exact sm_zero fun _ _ => rfl, sm_ite hk (fun _ => sm n fun a' => if a' = a then 1 else 0), sm_ite ha (fun _ => 1)]
    have hmem : g' ∈ aG n N := by
      refine ih g' hd' (fun k' a' => ?_) (by rw [hone] at hsum; omega)
      by_cases c1 : k' < 15
      · by_cases c2 : a' < n
        · rw [hcell k' a' c1 c2]
          have := hp k' a'
          by_cases c3 : k' = k ∧ a' = a
          · rw [if_pos c3, c3.1, c3.2]; omega
          · rw [if_neg c3]; omega
        · have : cellN g' k' a' = 0 := by
            unfold cellN
            have : ((g'[k']?).getD []).length = n := by
              have hl : k' < g'.length := by rw [hd'.1]; exact c1
              simp only [List.getElem?_eq_getElem hl, Option.getD_some]
              exact hd'.2 _ (List.getElem_mem hl)
            rw [List.getElem?_eq_none (by omega)]
            rfl
          omega
      · rw [cellN_out (by rw [hd'.1]; omega)]; omega
    unfold aG
    refine List.mem_flatMap.mpr ⟨g', hmem, List.mem_map.mpr ⟨(k, a), ?_, ?_⟩⟩
    · exact List.mem_flatMap.mpr ⟨k, by simpa using hk, List.mem_map.mpr ⟨a, by simpa using ha, rfl⟩⟩
    · refine (grid_ext d (hd'.bump k a) fun k' a' h1 h2 => ?_).symm
      rw [cellN_bump hd' k a h1 h2, hcell k' a' h1 h2]
      by_cases c3 : k' = k ∧ a' = a
      · obtain ⟨rfl, rfl⟩ := c3
        simp
      · have : ¬ ((k, a) = (k', a')) := fun z => c3 ⟨(congrArg Prod.fst z).symm, (congrArg Prod.snd z).symm⟩
        rw [if_neg c3, if_neg this]
        omega
structure Gd (n N : Nat) (st : St) : Prop where
  is : IsSt n st
  sum : st.flatten.sum = (N : Int)
theorem Gd.mem {n N : Nat} {st : St} (h : Gd n N st) : st ∈ (aG n N).map trim := by
  have hc := fun k a => h.is.cell k a
  have hm : mkGd n (fun k a => cellN st k a) ∈ aG n N := by
    refine aG_mem N _ (dim_mkGd n _) (fun k a => ?_) ?_
    · by_cases c1 : k < 15
      · by_cases c2 : a < n
        · rw [cell_mkGd n _ c1 c2]; exact (hc k a).1
        · have : cellN (mkGd n fun k a => cellN st k a) k a = 0 := by
            unfold cellN mkGd
            simp [c1, c2]
          omega
      · rw [cellN_out (by rw [(dim_mkGd n _).1]; omega)]; omega
    · rw [← h.sum, cs_flat h.is.w 15 h.is.l]
      have := cs_cell (n := n) (g := mkGd n fun k a => cellN st k a) (g' := st) (f := fun _ _ => 0) fun k a hk ha => by rw [cell_mkGd n _ hk ha]; simp
      rw [this, sm_zero fun k _ => sm_zero fun a _ => rfl]
      simp
  refine List.mem_map.mpr ⟨_, hm, ?_⟩
  refine st_ext (n := n) (fun c hc' => (dim_mkGd n _).2 c (trim_mem hc')) h.is.w (tr_trim _) h.is.t fun k a => ?_
  rw [cellN_trim]
  by_cases c1 : k < 15
  · by_cases c2 : a < n
    · exact cell_mkGd n _ c1 c2
    · have e1 : cellN (mkGd n fun k a => cellN st k a) k a = 0 := by
        unfold cellN mkGd
        simp [c1, c2]
      rw [e1]
      unfold cellN
      by_cases c3 : k < st.length
      · have : (st[k]).length = n := h.is.w _ (List.getElem_mem c3)
        simp only [List.getElem?_eq_getElem c3, Option.getD_some]
        rw [List.getElem?_eq_none (by omega)]
        rfl
      · have : st[k]? = none := List.getElem?_eq_none (by omega)
        rw [this]
        rfl
  · rw [cellN_out (by rw [(dim_mkGd n _).1]; omega), cellN_out (by have := h.is.l; omega)]
theorem Gd.count {n N : Nat} {ks : List St} (hn : ks.Nodup) (h : ∀ t ∈ ks, Gd n N t) : ks.length ≤ (15 * n) ^ N := by
  have := nodup_sub hn fun t ht => (h t ht).mem
  rw [List.length_map, aG_len] at this
  exact this
theorem Gd.nxt {n N most room : Nat} {st : St} {b : Beat} (h : Gd n N st) (hn6 : n ≤ 6) (hm : most ≤ 15) (hr : room ≤ 4) (hb : b ∈ chB st n most room) : Gd n N (nxt n st b) := ⟨nxt_st hn6 hm hr h.is hb, by rw [nxt_sum hn6 hm hr h.is hb]; exact h.sum⟩
/-! ## nexts -/
end J

namespace J
open PySem PySem.Spec PyProof.Rows L2

/-! ## ways by beats -/
inductive Wk (n most room : Nat) (s : St) : St → Row → Prop
  | nil : Wk n most room s s []
  | snoc {t : St} {w : Row} {b : Beat} (h : Wk n most room s t w) (hb : b ∈ chB t n most room) : Wk n most room s (nxt n t b) (w ++ [b])
theorem Wk.last {n most room : Nat} {s t : St} {w : Row} (h : Wk n most room s t w) {m : Nat} (hl : w.length = m + 1) : ∃ t0 w0 b, Wk n most room s t0 w0 ∧ b ∈ chB t0 n most room ∧ t = nxt n t0 b ∧ w = w0 ++ [b] ∧ w0.length = m := by
  cases h with
  | nil => simp at hl
  | snoc h hb => exact ⟨_, _, _, h, hb, rfl, rfl, by simpa using hl⟩
theorem Wk.zero {n most room : Nat} {s t : St} {w : Row} (h : Wk n most room s t w) (hl : w.length = 0) : t = s := by
  cases h with
  | nil => rfl
  | snoc h hb => simp at hl
theorem Wk.good {n N most room : Nat} {s t : St} {w : Row} (hn6 : n ≤ 6) (hm : most ≤ 15) (hr : room ≤ 4) (hs : Gd n N s) (h : Wk n most room s t w) : Gd n N t := by
  induction h with
  | nil => exact hs
  | snoc _ hb ih => exact ih.nxt hn6 hm hr hb
theorem lex_snoc {α : Type} [DecidableEq α] {lt : α → α → Bool} (hlt : STO lt) (x : α) : ∀ {a b : List α}, a.length = b.length → lexB lt a b = false → lexB lt (a ++ [x]) (b ++ [x]) = false
  | [], [], _, _ => by simp [lexB]
  | [], _ :: _, h, _ => by simp at h
  | _ :: _, [], h, _ => by simp at h
  | a :: as, b :: bs, h, q => by
    simp only [List.cons_append, lexB] at q ⊢
    by_cases c : a = b
    · subst c
      simp only [if_true] at q ⊢
      exact lex_snoc hlt x (by simpa using h) q
    · simp only [c, if_false] at q ⊢
      exact q
/-- what the next layer holds, of the pairs that were gone through -/
structure FrOk (n : Nat) (ks : List St) (wf : St → Row) (P : List (St × Beat)) (fs : List St) (ff : St → Row) : Prop where
  nd : fs.Nodup
  mem : ∀ t, t ∈ fs ↔ t ∉ ks ∧ ∃ p ∈ P, nxt n p.1 p.2 = t
  val : ∀ t ∈ fs, ∃ p ∈ P, nxt n p.1 p.2 = t ∧ ff t = wf p.1 ++ [p.2]
  low : ∀ p ∈ P, nxt n p.1 p.2 ∈ fs → ltR (wf p.1 ++ [p.2]) (ff (nxt n p.1 p.2)) = false
section
variable {n most room N : Nat} {s : St}
theorem FrOk.nil (ks : List St) (wf : St → Row) (ff : St → Row) : FrOk n ks wf [] [] ff := ⟨List.nodup_nil, fun t => by simp, fun t h => by simp at h, fun p h => by simp at h⟩
def curV (fs : List St) (ff : St → Row) (t : St) (row : Row) : Row := if t ∈ fs then ff t else row
def minV (fs : List St) (ff : St → Row) (t : St) (row : Row) : Row := if ltR row (curV fs ff t row) = true then row else curV fs ff t row
theorem FrOk.put {ks : List St} {wf ff : St → Row} {P : List (St × Beat)} {fs : List St} (h : FrOk n ks wf P fs ff) {q : St × Beat} (hq : nxt n q.1 q.2 ∉ ks) :
    FrOk n ks wf (P ++ [q]) (dd (fs ++ [nxt n q.1 q.2])) (fun k => if k = nxt n q.1 q.2 then minV fs ff (nxt n q.1 q.2) (wf q.1 ++ [q.2]) else ff k) := by
  have le : ∀ a b : Row, ltR a b = false → True := fun _ _ _ => trivial
  have ltr : ∀ {a b c : Row}, ltR b a = false → ltR c b = false → ltR c a = false := fun {a b c} h1 h2 => by
    have := sto_R.le_trans a b c (by unfold leG; rw [h1]; rfl) (by unfold leG; rw [h2]; rfl)
    unfold leG at this
    simpa using this
  have m1 : ltR (wf q.1 ++ [q.2]) (minV fs ff (nxt n q.1 q.2) (wf q.1 ++ [q.2])) = false := by
    unfold minV
    by_cases c : ltR (wf q.1 ++ [q.2]) (curV fs ff (nxt n q.1 q.2) (wf q.1 ++ [q.2])) = true
    · rw [if_pos c]; exact sto_R.irr _
    · rw [if_neg c]; simpa using c
  have m2 : ltR (curV fs ff (nxt n q.1 q.2) (wf q.1 ++ [q.2])) (minV fs ff (nxt n q.1 q.2) (wf q.1 ++ [q.2])) = false := by
    unfold minV
    by_cases c : ltR (wf q.1 ++ [q.2]) (curV fs ff (nxt n q.1 q.2) (wf q.1 ++ [q.2])) = true
    · rw [if_pos c]; exact sto_R.asy c
    · rw [if_neg c]; exact sto_R.irr _
  refine ⟨nodup_dd _, fun t => ?_, fun t ht => ?_, fun p hp ht => ?_⟩
  · rw [mem_dd, List.mem_append, h.mem t, List.mem_singleton]
    constructor
    · rintro (⟨h1, p, hp, e⟩ | rfl)
      · exact ⟨h1, p, by simp [hp], e⟩
      · exact ⟨hq, q, by simp, rfl⟩
    · rintro ⟨h1, p, hp, e⟩
      rcases List.mem_append.mp hp with hp | hp
      · exact .inl ⟨h1, p, hp, e⟩
      · have : p = q := by simpa using hp
        subst this
        exact .inr e.symm
  · by_cases c : t = nxt n q.1 q.2
    · subst c
      simp only [if_true]
      unfold minV
      by_cases d : ltR (wf q.1 ++ [q.2]) (curV fs ff (nxt n q.1 q.2) (wf q.1 ++ [q.2])) = true
      · rw [if_pos d]
        exact ⟨q, by simp, rfl, rfl⟩
      · rw [if_neg d]
        unfold curV
        by_cases f : nxt n q.1 q.2 ∈ fs
        · rw [if_pos f]
          obtain ⟨p, hp, e1, e2⟩ := h.val _ f
          exact ⟨p, by simp [hp], e1, e2⟩
        · rw [if_neg f]
          exact ⟨q, by simp, rfl, rfl⟩
    · simp only [c, if_false]
      rw [mem_dd] at ht
      have : t ∈ fs := by
        rcases List.mem_append.mp ht with ht | ht
        · exact ht
        · exact absurd (by simpa using ht) c
      obtain ⟨p, hp, e1, e2⟩ := h.val t this
      exact ⟨p, by simp [hp], e1, e2⟩
  · by_cases c : nxt n p.1 p.2 = nxt n q.1 q.2
    · simp only [c, if_true]
      rcases List.mem_append.mp hp with hp | hp
      · have hf : nxt n q.1 q.2 ∈ fs := (h.mem _).mpr ⟨hq, p, hp, c⟩
        have l1 := h.low p hp (by rw [c]; exact hf)
        rw [c] at l1
        have e : curV fs ff (nxt n q.1 q.2) (wf q.1 ++ [q.2]) = ff (nxt n q.1 q.2) := by unfold curV; rw [if_pos hf]
        rw [e] at m2
        exact ltr m2 l1
      · have : p = q := by simpa using hp
        subst this
        exact m1
    · simp only [c, if_false]
      rcases List.mem_append.mp hp with hp | hp
      · rw [mem_dd] at ht
        have : nxt n p.1 p.2 ∈ fs := by
          rcases List.mem_append.mp ht with ht | ht
          · exact ht
          · exact absurd (by simpa using ht) c
        exact h.low p hp this
      · have : p = q := by simpa using hp
        subst this
        exact absurd rfl c
/-- what is come to by at most i beats -/
structure Bf (n most room N : Nat) (s : St) (i : Nat) (ks : List St) (wf : St → Row) (layer : List St) : Prop where
  nd : ks.Nodup
  snd : ∀ t ∈ ks, Wk n most room s t (wf t) ∧ (wf t).length ≤ i
  cmp : ∀ t w, Wk n most room s t w → w.length ≤ i → t ∈ ks ∧ (wf t).length ≤ w.length ∧ (w.length = (wf t).length → ltR w (wf t) = false)
  lay : ∀ t, t ∈ layer ↔ t ∈ ks ∧ (wf t).length = i
theorem Bf.start (s : St) : Bf n most room N s 0 [s] (fun _ => []) [s] := by
  refine ⟨by simp, fun t ht => ?_, fun t w h hl => ?_, fun t => by simp⟩
  · have : t = s := by simpa using ht
    subst this
    exact ⟨.nil, Nat.le_refl _⟩
  · have hw : w = [] := List.eq_nil_of_length_eq_zero (by omega)
    have ht := h.zero (by omega)
    subst hw
    subst ht
    exact ⟨by simp, Nat.le_refl _, fun _ => sto_R.irr _⟩
def allP (n most room : Nat) (layer : List St) : List (St × Beat) := layer.flatMap fun h => (chB h n most room).map fun b => (h, b)
theorem mem_allP {layer : List St} {h : St} {b : Beat} : (h, b) ∈ allP n most room layer ↔ h ∈ layer ∧ b ∈ chB h n most room := by
  unfold allP
  rw [List.mem_flatMap]
  constructor
  · rintro ⟨x, hx, h⟩
    obtain ⟨y, hy, e⟩ := List.mem_map.mp h
    cases e
    exact ⟨hx, hy⟩
  · rintro ⟨h1, h2⟩
    exact ⟨h, h1, List.mem_map.mpr ⟨b, h2, rfl⟩⟩
theorem Bf.step {i : Nat} {ks : List St} {wf ff : St → Row} {layer fs layer' : List St} (h : Bf n most room N s i ks wf layer) (f : FrOk n ks wf (allP n most room layer) fs ff) (hl : ∀ t, t ∈ layer' ↔ t ∈ fs) :
    Bf n most room N s (i + 1) (ks ++ fs) (fun t => if t ∈ ks then wf t else ff t) layer' := by
  have ltr : ∀ {a b c : Row}, ltR b a = false → ltR c b = false → ltR c a = false := fun {a b c} h1 h2 => by
    have := sto_R.le_trans a b c (by unfold leG; rw [h1]; rfl) (by unfold leG; rw [h2]; rfl)
    unfold leG at this
    simpa using this
  have fl : ∀ t ∈ fs, t ∉ ks ∧ Wk n most room s t (ff t) ∧ (ff t).length = i + 1 := fun t ht => by
    obtain ⟨⟨p1, p2⟩, hp, e1, e2⟩ := f.val t ht
    obtain ⟨q1, q2⟩ := mem_allP.mp hp
    obtain ⟨l1, l2⟩ := (h.lay p1).mp q1
    refine ⟨((f.mem t).mp ht).1, ?_, by rw [e2]; simp [l2]⟩
    rw [e2, ← e1]
    exact .snoc (h.snd p1 l1).1 q2
  refine ⟨?_, fun t ht => ?_, fun t w hw hlen => ?_, fun t => ?_⟩
  · rw [List.nodup_append]
    exact ⟨h.nd, f.nd, fun a ha b hb e => (fl b hb).1 (e ▸ ha)⟩
  · by_cases c : t ∈ ks
    · simp only [c, if_true]
      have := h.snd t c
      exact ⟨this.1, by omega⟩
    · simp only [c, if_false]
      have : t ∈ fs := (List.mem_append.mp ht).resolve_left c
      obtain ⟨_, a, b⟩ := fl t this
      exact ⟨a, by omega⟩
  · by_cases c : w.length ≤ i
    · obtain ⟨a, b, d⟩ := h.cmp t w hw c
      simp only [a, if_true]
      exact ⟨by simp [a], b, d⟩
    · have e : w.length = i + 1 := by omega
      obtain ⟨t0, w0, b, hw0, hb, rfl, rfl, hl0⟩ := hw.last e
      obtain ⟨a1, a2, a3⟩ := h.cmp t0 w0 hw0 (by omega)
      by_cases q : nxt n t0 b ∈ ks
      · have := (h.snd _ q).2
        simp only [q, if_true]
        exact ⟨by simp [q], by omega, fun z => by omega⟩
      · have h0 : (wf t0).length = i := by
          rcases Nat.lt_or_ge (wf t0).length i with c2 | c2
          · have := (h.cmp (nxt n t0 b) (wf t0 ++ [b]) (.snoc (h.snd t0 a1).1 hb) (by simp; omega)).1
            exact absurd this q
          · omega
        have hp : (t0, b) ∈ allP n most room layer := mem_allP.mpr ⟨(h.lay t0).mpr ⟨a1, h0⟩, hb⟩
        have hf : nxt n t0 b ∈ fs := (f.mem _).mpr ⟨q, _, hp, rfl⟩
        obtain ⟨_, _, b3⟩ := fl _ hf
        simp only [q, if_false]
        refine ⟨by simp [hf], by omega, fun _ => ?_⟩
        have l1 := f.low _ hp hf
        have l2 : ltR (w0 ++ [b]) (wf t0 ++ [b]) = false := lex_snoc (sto_T.lex.lex) b (by omega) (a3 (by omega))
        exact ltr l1 l2
  · rw [hl t]
    constructor
    · intro ht
      obtain ⟨a, b, c⟩ := fl t ht
      simp only [a, if_false]
      exact ⟨by simp [ht], c⟩
    · rintro ⟨ht, hlen⟩
      by_cases c : t ∈ ks
      · simp only [c, if_true] at hlen
        have := (h.snd t c).2
        omega
      · exact (List.mem_append.mp ht).resolve_left c
theorem Bf.all {i : Nat} {ks : List St} {wf : St → Row} (h : Bf n most room N s i ks wf []) : ∀ t w, Wk n most room s t w → t ∈ ks := by
  intro t w hw
  induction hw with
  | nil => exact (h.cmp s [] .nil (Nat.zero_le _)).1
  | @snoc t0 w0 b hw hb ih =>
    have h1 := h.snd t0 ih
    have h2 : (wf t0).length ≠ i := fun e => by
      have := (h.lay t0).mpr ⟨ih, e⟩
      simp at this
    exact (h.cmp _ (wf t0 ++ [b]) (.snoc h1.1 hb) (by simp; omega)).1
/-- the first of the shortest ways -/
def Best (n most room : Nat) (s g : St) (r : Option Row) : Prop := match r with
  | none => ∀ w, ¬ Wk n most room s g w
  | some w => Wk n most room s g w ∧ (∀ w', Wk n most room s g w' → w.length ≤ w'.length) ∧ ∀ w', Wk n most room s g w' → w'.length = w.length → ltR w' w = false
theorem Best.uniq {g : St} {r r' : Option Row} (h : Best n most room s g r) (h' : Best n most room s g r') : r = r' := by
  cases r with
  | none =>
    cases r' with
    | none => rfl
    | some w => exact absurd h'.1 (h w)
  | some w =>
    cases r' with
    | none => exact absurd h.1 (h' w)
    | some w' =>
      obtain ⟨a1, a2, a3⟩ := h
      obtain ⟨b1, b2, b3⟩ := h'
      have e : w.length = w'.length := Nat.le_antisymm (a2 w' b1) (b2 w a1)
      rcases sto_R.tri w w' with q | q | q
      · rw [b3 w a1 e] at q; cases q
      · rw [q]
      · rw [a3 w' b1 e.symm] at q; cases q
theorem Bf.none {i : Nat} {ks : List St} {wf : St → Row} (h : Bf n most room N s i ks wf []) {g : St} (hg : g ∉ ks) : Best n most room s g none := fun w hw => hg (h.all g w hw)
theorem Bf.good {i : Nat} {ks : List St} {wf : St → Row} {layer : List St} (h : Bf n most room N s i ks wf layer) (hn6 : n ≤ 6) (hm : most ≤ 15) (hr : room ≤ 4) (hs : Gd n N s) : ∀ t ∈ ks, Gd n N t := fun t ht => (h.snd t ht).1.good hn6 hm hr hs
end
end J

namespace J
open PySem PySem.Spec PyProof.Rows L2

/-! ## dicts whose keys are states -/
def SD (ks : List St) (f : St → D) (S : Sto) (d : D) : Prop := dicOf S d = some (ks.map eS, ks.map f)
section
variable {ks : List St} {f : St → D} {S : Sto} {d : D}
theorem SD.rdc {m : Nat} (h : S[m]? = some (.dic (ks.map eS) (ks.map f))) : SD ks f S (.rdc m) := by simp [SD, dicOf, h]
theorem SD.ty (h : SD ks f S d) : dicTy d S = .ok d S := by unfold dicTy; rw [show dicOf S d = some _ from h]
theorem SD.ix (h : SD ks f S d) {t : St} (ht : t ∈ ks) : gIx d (eS t) S = .ok (f t) S := by
  unfold gIx gIxD onKey
  rw [show dicOf S d = some _ from h]
  simp only [keS.ok, if_true, dGet_e keS, if_pos ht]
end
/-! ## led -/
def dicS (ks : List St) (wf : St → Row) : O := .dic (ks.map eS) (ks.map fun t => eR (wf t))
structure LS (S : Sto) (ks : List St) (wf : St → Row) (m : Nat) (fs : List St) (ff : St → Row) (S' : Sto) : Prop where
  pre : ∃ G, S' = S ++ G
  cm : S'[S.length]? = some (dicS ks wf)
  fr : S'[m]? = some (dicS fs ff)
  lt : S.length < m
theorem LS.put {S S' : Sto} {ks fs fs' : List St} {wf ff ff' : St → Row} {m : Nat} (h : LS S ks wf m fs ff S') : LS S ks wf m fs' ff' (S'.set m (dicS fs' ff')) := by
  obtain ⟨G, hG⟩ := h.pre
  have hm : m < S'.length := (List.getElem?_eq_some_iff.mp h.fr).1
  refine ⟨⟨G.set (m - S.length) (dicS fs' ff'), by rw [hG, app_set (by have := h.lt; omega)]⟩, ?_, List.getElem?_set_self hm, h.lt⟩
  rw [List.getElem?_set_ne (by have := h.lt; omega)]
  exact h.cm
section
variable {n N most room B : Nat} (h1 : 1 ≤ n) (h6 : n ≤ 6) (hm : most ≤ 15) (hr : room ≤ 4) (hB : most * n ≤ B) (hB1 : 1 ≤ B) (hBN : B ^ N ≤ 100000) (hM : (15 * n) ^ N + 3 ≤ 1000000)
include h1 h6 hm hr hB hB1 hBN hM
end
end J

namespace J
open PySem PySem.Spec PyProof.Rows L2

/-! ## more room, more height -/
theorem gsL_mono {m m' n : Nat} (h : m ≤ m') {g : Gl2} (hg : g ∈ gsL m n) : g ∈ gsL m' n := by
  obtain ⟨x, y, p1, p2, p3, rfl⟩ := mem_gsL.mp hg
  exact mem_gsL.mpr ⟨x, y, p1, by omega, p3, rfl⟩
theorem chB_mono {st : St} {n m m' room room' : Nat} (h1 : m ≤ m') (h2 : room ≤ room') {b : Beat} (hb : b ∈ chB st n m room) : b ∈ chB st n m' room' := by
  obtain ⟨a1, a2, a3⟩ := mem_chB.mp hb
  refine mem_chB.mpr ⟨a1, fun a ha => ?_, fun g => ?_⟩
  · obtain ⟨p1, p2, p3⟩ := a2 a ha
    exact ⟨p1, fun g hg => gsL_mono h1 (p2 g hg), p3⟩
  · rcases a3 g with q | q
    · exact .inl q
    · right
      unfold frF at q ⊢
      omega
theorem Wk.mono {n m m' room room' : Nat} (h1 : m ≤ m') (h2 : room ≤ room') {s t : St} {w : Row} (h : Wk n m room s t w) : Wk n m' room' s t w := by
  induction h with
  | nil => exact .nil
  | snoc _ hb ih => exact .snoc ih (chB_mono h1 h2 hb)
/-- what is due late is due still -/
theorem Wk.low {n N most room : Nat} (hn6 : n ≤ 6) (hm : most ≤ 15) (hr : room ≤ 4) {s t : St} {w : Row} (hs : Gd n N s) (h : Wk n most room s t w) : ∀ k a, a < n → cellN s (w.length + k) a ≤ cellN t k a := by
  induction h with
  | nil => intro k a _; simp
  | @snoc t0 w0 b hw hb ih =>
    intro k a ha
    have hg := hw.good hn6 hm hr hs
    rw [nxt_cell hn6 hm hg.is hb ha]
    have := ih (k + 1) a ha
    rw [List.length_append, List.length_singleton]
    have e : w0.length + 1 + k = w0.length + (k + 1) := by omega
    rw [e]
    omega
/-! ## next_beats, far -/
section
variable {n N most room B : Nat} (h1 : 1 ≤ n) (h6 : n ≤ 6) (hm1 : 1 ≤ most) (hm : most ≤ 15) (hr1 : 1 ≤ room) (hr : room ≤ 4) (hB : most * n ≤ B) (hB1 : 1 ≤ B) (hBN : B ^ N ≤ 100000)
include h1 h6 hm1 hm hr1 hr hB hB1 hBN
theorem next_beats_ok {st : St} (h : Gd n N st) (S : Sto) : G_next_beats [eS st, .int (n : Nat), .int (most : Nat), .int (room : Nat)] S = .ok (.new ((chB st n most room).map eB)) S := by
  rw [G_next_beats_eq, F_next_beats]
  have l1 := look_number_ok (i := (n : Int)) (lo := 1) (hi := 6) ⟨by omega, by omega⟩ S
  have l2 := look_number_ok (i := (most : Int)) (lo := 1) (hi := 15) ⟨by omega, by omega⟩ S
  have l3 := look_number_ok (i := (room : Int)) (lo := 1) (hi := 4) ⟨by omega, by omega⟩ S
  have hBm : B ^ dSum st n ≤ 100000 := Nat.le_trans (Nat.pow_le_pow_right hB1 (dSum_le h.is h.sum)) hBN
  have ch := choices_ok (room := room) h1 h6 hm h.is hB hB1 hBm S
  simp only [sSeq_d, sAsg_d, sExpr_d, sRet_d, sIf_d, sNext_d, eCall_d, aCons_d, aNil_d, eVar_d, eC_d, eOp_d, eUn_d, eNew_d, aCall_d, aComp_d, eTup_d, tBool_d, tOrD_d, tAndD_d, tNotD_d, eIf_d, eAnd_d, eOr_d, eNot_d, List.getElem?_cons_succ, List.getElem?_cons_zero, List.set_cons_succ, List.set_cons_zero, List.length_cons, List.length_nil, Nat.zero_add, Nat.reduceAdd, R.bind_ok, R.bind_exc, R.st_ok, R.st_exc, RS.next_nx, RS.next_rt, RS.next_exc, gName_d, gSt_ok, fnG_d, toB_bl, if_true, Bool.not_true, Bool.not_false, Bool.false_eq_true, if_false, fnR_rt, fnR_exc, gc_exc, l1, l2, l3, look_state_ok h1 h6 h.is, ch]
  exact gc_same (und_new fun x hx => by obtain ⟨y, _, rfl⟩ := List.mem_map.mp hx; exact und_eB _ _)
end
/-! ## least_bound -/
/-! ## the states of a row -/
theorem mem_le_sum : ∀ (xs : List Int), (∀ x ∈ xs, 0 ≤ x) → ∀ x ∈ xs, x ≤ xs.sum
  | [], _, x, h => by cases h
  | y :: ys, hp, x, h => by
    have hs : 0 ≤ ys.sum := by
      clear h
      induction ys with
      | nil => simp
      | cons z zs ih =>
        have := hp z (by simp)
        have := ih fun w hw => hp w (by rcases List.mem_cons.mp hw with q | q <;> simp [q])
        simp
        omega
    have hy := hp y (by simp)
    rw [List.sum_cons]
    rcases List.mem_cons.mp h with rfl | h
    · omega
    · have := mem_le_sum ys (fun w hw => hp w (by simp [hw])) x h
      omega
theorem Gd.le {n N : Nat} {s : St} (h : Gd n N s) : ∀ c ∈ s, ∀ x ∈ c, x ≤ (N : Int) := fun c hc x hx => by
  rw [← h.sum]
  exact mem_le_sum _ (fun y hy => by
    obtain ⟨c', hc', hy'⟩ := List.mem_flatten.mp hy
    exact h.is.p c' hc' y hy') x (List.mem_flatten.mpr ⟨c, hc, hx⟩)
end J

namespace J
open PySem PySem.Spec PyProof.Rows L2

/-! ## ways of one line, one ball at a time, shown by their heights -/
theorem Wk.trans {n most room : Nat} {s t u : St} {w w' : Row} (h : Wk n most room s t w) (h' : Wk n most room t u w') : Wk n most room s u (w ++ w') := by
  induction h' with
  | nil => simpa using h
  | snoc _ hb ih => rw [← List.append_assoc]; exact .snoc ih hb
theorem Wk.cons {n most room : Nat} {s t : St} {b : Beat} {w : Row} (hb : b ∈ chB s n most room) (h : Wk n most room (nxt n s b) t w) : Wk n most room s t (b :: w) := (Wk.snoc .nil hb).trans h
/-! ### all of five beats -/
def sX (xs : List Int) : St := trim (xs.map fun x => [x])
end J

namespace J
open PySem PySem.Spec PyProof.Rows L2

/-! ## states that are drawn (one line, five beats) -/
structure Bx (xs : List Int) : Prop where
  l : xs.length = 5
  z : ∀ x ∈ xs, x = 0 ∨ x = 1
theorem Bx.set {xs : List Int} (h : Bx xs) (k : Nat) : Bx (xs.set k 1) := ⟨by simp [h.l], fun x hx => by
  rcases List.mem_or_eq_of_mem_set hx with q | q
  · exact h.z x q
  · exact .inr q⟩
/-! ## facts of such states -/
section
variable {xs : List Int} (h : Bx xs)
include h
theorem Bx.cell (k : Nat) : cellN (sX xs) k 0 = xs[k]?.getD 0 := by
  unfold sX
  rw [cellN_trim]
  unfold cellN
  by_cases hk : k < xs.length
  · simp [hk]
  · simp [hk]
theorem Bx.is : IsSt 1 (sX xs) := by
  have hm : ∀ c ∈ sX xs, ∃ x ∈ xs, c = [x] := fun c hc => by
    obtain ⟨x, hx, rfl⟩ := List.mem_map.mp (trim_mem hc)
    exact ⟨x, hx, rfl⟩
  refine ⟨fun c hc => ?_, fun c hc y hy => ?_, fun c hc y hy => ?_, ?_, tr_trim _⟩
  · obtain ⟨x, _, rfl⟩ := hm c hc; rfl
  · obtain ⟨x, hx, rfl⟩ := hm c hc
    have : y = x := by simpa using hy
    subst this
    rcases h.z y hx with e | e <;> omega
  · obtain ⟨x, hx, rfl⟩ := hm c hc
    have : y = x := by simpa using hy
    subst this
    rcases h.z y hx with e | e <;> omega
  · have := trim_len (xs.map fun x => [x])
    rw [List.length_map, h.l] at this
    have e : (sX xs).length = (trim (xs.map fun x => [x])).length := rfl
    omega
end
end J

namespace J
open PySem PySem.Spec PyProof.Rows L2

/-! ### the small steps of laws (as in L119) -/
theorem gc_end (w : Tw) (rest : Sto) (b : Bool) : gc [] (.ok (.bl b) (TS w rest)) = .ok (.bl b) [] := by
  have := gc_pure (S := []) (G := TS w rest) (d := .bl b) (.bl b)
  simpa using this
theorem tAnd_tf {a b : CT} {env : Env} {S : Sto} (h1 : a env S = .ok true S) (h2 : b env S = .ok false S) : tAndD a b env S = .ok false S := by rw [tAndD_d, h1, R.bind_ok, if_pos rfl]; exact h2
theorem tAnd_f {a b : CT} {env : Env} {S : Sto} (h1 : a env S = .ok false S) : tAndD a b env S = .ok false S := by rw [tAndD_d, h1, R.bind_ok, if_neg Bool.false_ne_true]
theorem tB {f : CE} {env : Env} {S : Sto} {b : Bool} (h : f env S = .ok (.bl b) S) : tBool f env S = .ok b S := by rw [tBool_d, h]; rfl
theorem eOpK {g : D → D → Sto → R D} {f1 f2 : CE} {env : Env} {S : Sto} {a b d : D} (h1 : f1 env S = .ok a S) (h2 : f2 env S = .ok b S) (h : g a b S = .ok d S) : eOp g f1 f2 env S = .ok d S := by rw [eOp_d, h1, R.bind_ok, h2, R.bind_ok, h]
/-! ## k04: all beats, by trying all throws of each line -/
theorem nodup_fm {α β γ : Type} (key : α → γ) (rd : β → γ) (h : α → List β) : ∀ L : List α, (L.map key).Nodup → (∀ x ∈ L, (h x).Nodup) → (∀ x ∈ L, ∀ y ∈ h x, rd y = key x) → (L.flatMap h).Nodup
  | [], _, _, _ => by simp
  | x :: L, hn, h1, h2 => by
    rw [List.map_cons, List.nodup_cons] at hn
    rw [List.flatMap_cons, List.nodup_append]
    refine ⟨h1 x (by simp), nodup_fm key rd h L hn.2 (fun y hy => h1 y (by simp [hy])) fun y hy => h2 y (by simp [hy]), fun a ha b hb e => ?_⟩
    subst e
    obtain ⟨z, hz, hzb⟩ := List.mem_flatMap.mp hb
    have e1 := h2 x (by simp) a ha
    have e2 := h2 z (by simp [hz]) a hzb
    exact hn.1 (List.mem_map.mpr ⟨z, hz, by rw [← e2, e1]⟩)
theorem ndm {α β : Type} {f : α → β} {l : List α} (hl : l.Nodup) (hf : ∀ a b, a ≠ b → f a ≠ f b) : (l.map f).Nodup := by
  unfold List.Nodup at *
  rw [List.pairwise_map]
  exact hl.imp fun {a b} ne => hf a b ne
theorem sum_zero_l : ∀ {l : List Nat}, (∀ x ∈ l, x = 0) → l.sum = 0
  | [], _ => rfl
  | x :: l, h => by rw [List.sum_cons, h x (by simp), sum_zero_l fun y hy => h y (by simp [hy])]
/-! ### what dealt finds, each once -/
theorem dl_nodup : ∀ (m : Nat) (gs : List Gl2) (f : Gl2 → Int), gs.Nodup → (dl m gs f).Nodup
  | 0, _, _, _ => by simp [dl]
  | m + 1, gs, f, hg => by
    unfold dl
    refine nodup_fm (fun k => gs[k]?) (fun r : List Gl2 => r.head?) (dlK (dl m) gs f) (List.range gs.length) ?_ (fun k hk => ?_) fun k hk r hr => ?_
    · have e : (List.range gs.length).map (fun k => gs[k]?) = gs.map some := by
        apply List.ext_getElem (by simp)
        intro i h1 h2
        have hi : i < gs.length := by simpa using h1
        simp [hi]
      rw [e]
      exact ndm hg fun a b ne e => ne (Option.some.inj e)
    · unfold dlK
      split
      · exact ndm (dl_nodup m _ _ ((List.drop_sublist _ _).nodup hg)) fun a b ne e => ne (List.cons.inj e).2
      · simp
    · unfold dlK at hr
      split at hr
      · obtain ⟨t, _, rfl⟩ := List.mem_map.mp hr
        have hk : k < gs.length := List.mem_range.mp hk
        simp [hk]
      · simp at hr
theorem app_inj {α : Type} (b : List α) : ∀ a c : α, a ≠ c → b ++ [a] ≠ b ++ [c] := fun a c ne e => ne (by simpa using e)
theorem chA_nodup {gs : List Gl2} (hg : gs.Nodup) (st : St) (f : Gl2 → Int) : ∀ n, ((chA st gs f n).map (·.b)).Nodup
  | 0 => by simp [chA]
  | n + 1 => by
    unfold chA
    rw [List.map_flatMap]
    refine nodup_fm (fun x : FB => x.b) (fun b : Bt2 => b.dropLast) (fun x => (chS1 st gs n x).map (·.b)) (chA st gs f n) (chA_nodup hg st f n) (fun x _ => ?_) fun x _ b hb => ?_
    · unfold chS1
      rw [List.map_map]
      exact ndm (dl_nodup _ _ _ hg) fun a c ne e => app_inj _ a c ne e
    · obtain ⟨y, hy, rfl⟩ := List.mem_map.mp hb
      unfold chS1 at hy
      obtain ⟨own, _, rfl⟩ := List.mem_map.mp hy
      simp
/-! ### all ways to throw so many balls -/
def okW (row : List Gl2) (g : Gl2) : Bool := decide (row = []) || leT g (row.getLast?.getD (0, 0))
def lwS (gs : List Gl2) (row : List Gl2) : List (List Gl2) := (gs.filter (okW row)).map fun g => row ++ [g]
def lots (gs : List Gl2) : Nat → List (List Gl2)
  | 0 => [[]]
  | m + 1 => (lots gs m).flatMap (lwS gs)
theorem leT_trans' {a b c : Gl2} (h1 : leT a b = true) (h2 : leT b c = true) : leT a c = true := by
  simp only [leT, Bool.or_eq_true, Bool.and_eq_true, decide_eq_true_eq] at *
  omega
theorem lots_iff {gs : List Gl2} : ∀ {m : Nat} {r : List Gl2}, r ∈ lots gs m ↔ OwnOk gs m r
  | 0, r => by
    unfold lots OwnOk
    constructor
    · intro h
      have : r = [] := by simpa using h
      subst this
      simp
    · rintro ⟨h, _⟩
      rw [List.length_eq_zero_iff.mp h]
      simp
  | m + 1, r => by
    unfold lots
    rw [List.mem_flatMap]
    constructor
    · rintro ⟨row, hrow, hr⟩
      obtain ⟨h1, h2, h3⟩ := lots_iff.mp hrow
      unfold lwS at hr
      obtain ⟨g, hg, rfl⟩ := List.mem_map.mp hr
      obtain ⟨hgs, hok⟩ := List.mem_filter.mp hg
      refine ⟨by simp [h1], fun x hx => ?_, ?_⟩
      · rcases List.mem_append.mp hx with hx | hx
        · exact h2 x hx
        · rw [List.mem_singleton.mp hx]; exact hgs
      · rw [List.pairwise_append]
        refine ⟨h3, by simp, fun x hx y hy => ?_⟩
        rw [List.mem_singleton.mp hy]
        have hne : row ≠ [] := List.ne_nil_of_mem hx
        unfold okW at hok
        rw [decide_eq_false hne, Bool.false_or] at hok
        have el := List.getLast?_eq_getLast hne
        rw [el, Option.getD_some] at hok
        have hd : row = row.dropLast ++ [row.getLast hne] := (List.dropLast_concat_getLast hne).symm
        rw [hd] at hx h3
        rcases List.mem_append.mp hx with hx | hx
        · exact leT_trans' hok ((List.pairwise_append.mp h3).2.2 x hx _ (by simp))
        · rw [List.mem_singleton.mp hx]; exact hok
    · rintro ⟨h1, h2, h3⟩
      have hne : r ≠ [] := by
        intro e
        rw [e] at h1
        simp at h1
      have hd : r = r.dropLast ++ [r.getLast hne] := (List.dropLast_concat_getLast hne).symm
      generalize r.dropLast = row at hd
      generalize r.getLast hne = g at hd
      subst hd
      have hp := List.pairwise_append.mp h3
      refine ⟨row, lots_iff.mpr ⟨by simpa using h1, fun x hx => h2 x (by simp [hx]), hp.1⟩, ?_⟩
      unfold lwS
      refine List.mem_map.mpr ⟨g, List.mem_filter.mpr ⟨h2 g (by simp), ?_⟩, rfl⟩
      unfold okW
      by_cases q : row = []
      · simp [q]
      · rw [List.getLast?_eq_getLast q, Option.getD_some, hp.2.2 _ (List.getLast_mem q) g (by simp), Bool.or_true]
theorem lots_nodup {gs : List Gl2} (hg : gs.Nodup) : ∀ m, (lots gs m).Nodup
  | 0 => by simp [lots]
  | m + 1 => by
    unfold lots
    refine nodup_fm id (fun r : List Gl2 => r.dropLast) (lwS gs) (lots gs m) (by rw [List.map_id]; exact lots_nodup hg m) (fun row _ => ?_) fun row _ r hr => ?_
    · exact ndm (hg.filter _) fun a c ne e => app_inj _ a c ne e
    · obtain ⟨g, _, rfl⟩ := List.mem_map.mp hr
      simp
theorem lots_len {gs : List Gl2} {B : Nat} (hB : gs.length ≤ B) : ∀ m, (lots gs m).length ≤ B ^ m
  | 0 => by simp [lots]
  | m + 1 => by
    unfold lots
    have := flat_le (k := B) (f := lwS gs) (xs := lots gs m) fun row => by
      unfold lwS
      rw [List.length_map]
      exact Nat.le_trans (List.length_filter_le _ _) hB
    refine Nat.le_trans this ?_
    rw [Nat.pow_succ]
    exact Nat.mul_le_mul_right _ (lots_len hB m)
/-! ### all beats -/
def btW (gs : List Gl2) (st : St) (a : Nat) (row : Beat) : List Beat := (lots gs (cellN st 0 a).toNat).map fun own => row ++ [own]
def btA (gs : List Gl2) (st : St) : Nat → List Beat
  | 0 => [[]]
  | a + 1 => (btA gs st a).flatMap (btW gs st a)
theorem btA_iff {gs : List Gl2} {st : St} : ∀ {n : Nat} {b : Beat}, b ∈ btA gs st n ↔ b.length = n ∧ ∀ a, a < n → OwnOk gs (cellN st 0 a).toNat ((b[a]?).getD [])
  | 0, b => by
    unfold btA
    constructor
    · intro h
      have : b = [] := by simpa using h
      subst this
      exact ⟨rfl, fun a ha => by omega⟩
    · rintro ⟨h, _⟩
      rw [List.length_eq_zero_iff.mp h]
      simp
  | n + 1, b => by
    unfold btA
    rw [List.mem_flatMap]
    constructor
    · rintro ⟨row, hrow, hb⟩
      obtain ⟨h1, h2⟩ := btA_iff.mp hrow
      unfold btW at hb
      obtain ⟨own, hown, rfl⟩ := List.mem_map.mp hb
      refine ⟨by simp [h1], fun a ha => ?_⟩
      by_cases q : a < n
      · rw [List.getElem?_append_left (by omega)]
        exact h2 a q
      · have : a = n := by omega
        subst this
        rw [List.getElem?_append_right (by omega), h1, Nat.sub_self]
        exact lots_iff.mp hown
    · rintro ⟨h1, h2⟩
      have hne : b ≠ [] := by
        intro e
        rw [e] at h1
        simp at h1
      have hd : b = b.dropLast ++ [b.getLast hne] := (List.dropLast_concat_getLast hne).symm
      generalize b.dropLast = row at hd
      generalize b.getLast hne = own at hd
      subst hd
      have hl : row.length = n := by simpa using h1
      refine ⟨row, btA_iff.mpr ⟨hl, fun a ha => ?_⟩, ?_⟩
      · have := h2 a (by omega)
        rwa [List.getElem?_append_left (by omega)] at this
      · have := h2 n (by omega)
        rw [List.getElem?_append_right (by omega), hl, Nat.sub_self] at this
        exact List.mem_map.mpr ⟨own, lots_iff.mpr this, rfl⟩
theorem btA_nodup {gs : List Gl2} (hg : gs.Nodup) (st : St) : ∀ n, (btA gs st n).Nodup
  | 0 => by simp [btA]
  | n + 1 => by
    unfold btA
    refine nodup_fm id (fun b : Beat => b.dropLast) (btW gs st n) (btA gs st n) (by rw [List.map_id]; exact btA_nodup hg st n) (fun row _ => ?_) fun row _ b hb => ?_
    · exact ndm (lots_nodup hg _) fun a c ne e => app_inj _ a c ne e
    · obtain ⟨own, _, rfl⟩ := List.mem_map.mp hb
      simp
theorem btA_len {gs : List Gl2} {B : Nat} (hB : gs.length ≤ B) (hB1 : 1 ≤ B) (st : St) : ∀ n, (btA gs st n).length ≤ B ^ dSum st n
  | 0 => by simp [btA, dSum, sm]
  | n + 1 => by
    unfold btA
    have := flat_le (k := B ^ (cellN st 0 n).toNat) (f := btW gs st n) (xs := btA gs st n) fun row => by
      unfold btW
      rw [List.length_map]
      exact lots_len hB _
    refine Nat.le_trans this ?_
    have e : dSum st (n + 1) = dSum st n + (cellN st 0 n).toNat := sm_succ _ _
    rw [e, Nat.pow_add]
    exact Nat.mul_le_mul_right _ (btA_len hB hB1 st n)
/-! ### the good ones are what choices finds -/
def glU (most lines : Nat) : List Gl2 := (List.range most).flatMap fun h => (List.range lines).map fun a => (((h + 1 : Nat) : Int), ((a : Nat) : Int))
theorem mem_glU {most lines : Nat} {g : Gl2} : g ∈ glU most lines ↔ ∃ h a : Nat, h < most ∧ a < lines ∧ g = (((h + 1 : Nat) : Int), (a : Int)) := by
  unfold glU
  simp only [List.mem_flatMap, List.mem_map, List.mem_range]
  constructor
  · rintro ⟨h, hh, a, ha, rfl⟩
    exact ⟨h, a, hh, ha, rfl⟩
  · rintro ⟨h, a, hh, ha, rfl⟩
    exact ⟨h, hh, a, ha, rfl⟩
theorem glU_len (most lines : Nat) : (glU most lines).length = most * lines := by
  unfold glU
  induction most with
  | zero => simp
  | succ m ih =>
    rw [List.range_succ, List.flatMap_append, List.length_append, ih]
    simp [Nat.succ_mul]
theorem glU_nodup (most lines : Nat) : (glU most lines).Nodup := by
  unfold glU
  refine nodup_fm (fun h : Nat => ((h + 1 : Nat) : Int)) (fun g : Gl2 => g.1) _ (List.range most) ?_ (fun h _ => ?_) fun h _ g hg => ?_
  · exact ndm List.nodup_range fun a b ne e => ne (by omega)
  · exact ndm List.nodup_range fun a b ne e => ne (by have := congrArg (fun z : Gl2 => z.2) e; simp only at this; omega)
  · obtain ⟨a, _, rfl⟩ := List.mem_map.mp hg
    rfl
theorem gsU {most lines : Nat} {g : Gl2} : g ∈ glU most lines ↔ g ∈ gsL most lines := by
  rw [mem_glU]
  unfold gsL
  simp only [List.mem_flatMap, List.mem_map, List.mem_range]
  constructor
  · rintro ⟨h, a, hh, ha, rfl⟩
    refine ⟨most - 1 - h, by omega, lines - 1 - a, by omega, ?_⟩
    have e1 : most - (most - 1 - h) = h + 1 := by omega
    have e2 : lines - 1 - (lines - 1 - a) = a := by omega
    rw [e1, e2]
  · rintro ⟨h, hh, a, ha, rfl⟩
    refine ⟨most - h - 1, lines - 1 - a, by omega, by omega, ?_⟩
    have e1 : most - h - 1 + 1 = most - h := by omega
    rw [e1]
theorem OwnOk.of {gs gs' : List Gl2} (h : ∀ g, g ∈ gs → g ∈ gs') {m : Nat} {o : List Gl2} (k : OwnOk gs m o) : OwnOk gs' m o := ⟨k.1, fun g hg => h g (k.2.1 g hg), k.2.2⟩
def overB (st : St) (room : Nat) (b : Beat) (g : Gl2) : Bool := decide (0 < (tcB b g : Int)) && decide ((room : Int) < (tcB b g : Int) + cellN st g.1.toNat g.2.toNat)
def goodB' (gs : List Gl2) (st : St) (room : Nat) (b : Beat) : Bool := !gs.any (overB st room b)
theorem tc_zero {gs : List Gl2} {n : Nat} {st : St} {b : Beat} (h : b ∈ btA gs st n) {g : Gl2} (hg : g ∉ gs) : tcB b g = 0 := by
  obtain ⟨h1, h2⟩ := btA_iff.mp h
  unfold tcB
  refine sum_zero_l fun x hx => ?_
  obtain ⟨o, ho, rfl⟩ := List.mem_map.mp hx
  obtain ⟨a, ha, rfl⟩ := List.getElem_of_mem ho
  refine List.count_eq_zero.mpr fun hm => hg ?_
  have := h2 a (by omega)
  rw [List.getElem?_eq_getElem ha, Option.getD_some] at this
  exact this.2.1 g hm
theorem good_iff {most lines room : Nat} {st : St} {b : Beat} : (b ∈ (btA (glU most lines) st lines).filter (goodB' (glU most lines) st room)) ↔ b ∈ chB st lines most room := by
  rw [List.mem_filter, mem_chB]
  constructor
  · rintro ⟨h, hg⟩
    obtain ⟨h1, h2⟩ := btA_iff.mp h
    refine ⟨h1, fun a ha => (h2 a ha).of fun g => gsU.mp, fun g => ?_⟩
    by_cases q : g ∈ glU most lines
    · unfold goodB' at hg
      rw [Bool.not_eq_true'] at hg
      have := List.any_eq_false.mp hg g q
      unfold overB at this
      simp only [Bool.and_eq_true, decide_eq_true_eq] at this
      unfold frF
      omega
    · exact .inl (tc_zero h q)
  · rintro ⟨h1, h2, h3⟩
    refine ⟨btA_iff.mpr ⟨h1, fun a ha => (h2 a ha).of fun g => gsU.mpr⟩, ?_⟩
    unfold goodB'
    rw [Bool.not_eq_true', List.any_eq_false]
    intro g _
    have := h3 g
    unfold frF at this
    unfold overB
    simp only [Bool.and_eq_true, decide_eq_true_eq]
    omega
theorem good_eq {most lines room : Nat} {st : St} : srG ltB ((btA (glU most lines) st lines).filter (goodB' (glU most lines) st room)) = chB st lines most room := by
  have nd : (gsL most lines).Nodup := gsL_nodup most lines
  have hc : (chB st lines most room).Nodup := (srG_perm _).nodup_iff.mpr (chA_nodup nd st (frF st room) lines)
  have hb := (btA_nodup (glU_nodup most lines) st lines).filter (goodB' (glU most lines) st room)
  have pm : ((btA (glU most lines) st lines).filter (goodB' (glU most lines) st room)).Perm (chB st lines most room) := (List.perm_ext_iff_of_nodup hb hc).mpr fun b => good_iff
  have : (chB st lines most room).Perm ((chA st (gsL most lines) (frF st room) lines).map (·.b)) := srG_perm _
  exact srG_of sto_T.lex.lex (pm.trans this)
end J

namespace J
open PySem PySem.Spec PyProof.Rows L2
noncomputable def F_law_lots : CS := sSeq (sAsg (eNew (aCall gDisp (aCons (eTupK (aNil)) (aNil)))) (gName 2))
  (sSeq (sFor (iRng1D (aCons (eVar 0) (aNil))) (gName 3)
  (sSeq (sAsg (eNew (aCall gDisp (aNil))) (gName 4))
  (sSeq (sFor (iSeq (eVar 2)) (gName 5)
  (sAsg (eOp gAdd (eVar 4) (eNew (aComp (cFor (iSeq (eVar 1)) (gName 6) (tOrD (tBool (eOp gEq (eFgt (eVar 5)) (eTup (aNil)))) (tBool (eOp gLeD (eVar 6) (eOp gIx (eFgt (eVar 5)) (eUn gNeg (eC (.int 1))))))) [6] (cElt (eOp gAddK (eVar 5) (eTupK (aCons (eVar 6) (aNil))))))))) (gName 4)))
  (sAsg (eVar 4) (gName 2)))))
  (sRet (eVar 2)))
noncomputable def G_law_lots : List D → Sto → R D := fnC 2 7 F_law_lots
theorem G_law_lots_eq (a0 a1 : D) (S : Sto) : G_law_lots [a0, a1] S = gc S (fnR (F_law_lots [some a0, some a1, none, none, none, none, none] S)) := fnC_at rfl rfl
noncomputable def F_law_beats : CS := sSeq (sAsg (eNew (aCall gDisp (aNil))) (gName 4))
  (sSeq (sFor (iRng2D (aCons (eC (.int 1)) (aCons (eOp gAdd (eVar 2) (eC (.int 1))) (aNil)))) (gName 5)
  (sAsg (eOp gAdd (eVar 4) (eNew (aComp (cFor (iRng1D (aCons (eVar 1) (aNil))) (gName 7) (tYesD) [7] (cElt (eTup (aCons (eVar 5) (aCons (eVar 7) (aNil))))))))) (gName 4)))
  (sSeq (sAsg (eNew (aCall gDisp (aCons (eTup (aNil)) (aNil)))) (gName 6))
  (sSeq (sFor (iRng1D (aCons (eVar 1) (aNil))) (gName 7)
  (sSeq (sAsg (eIf (tBool (eOp gNe (eVar 0) (eTup (aNil)))) (eOp gIx (eOp gIx (eVar 0) (eC (.int 0))) (eVar 7)) (eC (.int 0))) (gName 10))
  (sSeq (sAsg (eNew (aCall gDisp (aNil))) (gName 11))
  (sSeq (sFor (iSeq (eVar 6)) (gName 12)
  (sAsg (eOp gAdd (eVar 11) (eNew (aComp (cFor (iSeq (eCall (fnG 2 G_law_lots) (aCons (eVar 10) (aCons (eVar 4) (aNil))))) (gName 17) (tYesD) [17] (cElt (eOp gAdd (eVar 12) (eTup (aCons (eVar 17) (aNil))))))))) (gName 11)))
  (sAsg (eVar 11) (gName 6))))))
  (sSeq (sAsg (eNew (aCall gDisp (aNil))) (gName 8))
  (sSeq (sFor (iSeq (eVar 6)) (gName 9)
  (sSeq (sAsg (eC (.bl false)) (gName 13))
  (sSeq (sFor (iSeq (eVar 4)) (gTup 2 (gsCons (gName 5) (gsCons (gName 14) (gsNil))))
  (sSeq (sAsg (eCall gSum (aCons (eNew (aComp (cFor (iSeq (eVar 9)) (gName 17) (tYesD) [17] (cElt (eMethK gCountK (eVar 17) (aCons (eTup (aCons (eVar 5) (aCons (eVar 14) (aNil)))) (aNil))))))) (aNil))) (gName 15))
  (sSeq (sAsg (eIf (tBool (eOp gLt (eVar 5) (eCall gLen (aCons (eVar 0) (aNil))))) (eOp gIx (eOp gIx (eVar 0) (eVar 5)) (eVar 14)) (eC (.int 0))) (gName 16))
  (sAsg (eOr (eVar 13) (eAnd (eOp gGt (eVar 15) (eC (.int 0))) (eOp gGt (eOp gAdd (eVar 15) (eVar 16)) (eVar 3)))) (gName 13)))))
  (sAsg (eOp gAdd (eVar 8) (eIf (tBool (eVar 13)) (eNew (aCall gDisp (aNil))) (eNew (aCall gDisp (aCons (eVar 9) (aNil)))))) (gName 8)))))
  (sRet (eNew (aCall gSorted (aCons (eFgt (eVar 8)) (aNil))))))))))
noncomputable def G_law_beats : List D → Sto → R D := fnC 4 18 F_law_beats
theorem G_law_beats_eq (a0 a1 a2 a3 : D) (S : Sto) : G_law_beats [a0, a1, a2, a3] S = gc S (fnR (F_law_beats [some a0, some a1, some a2, some a3, none, none, none, none, none, none, none, none, none, none, none, none, none, none] S)) := fnC_at rfl rfl
def K_balls_in_lines (ds es : List D) : List D := pickL [0, 1] (ds ++ es)
def K_step_lines (ds es : List D) : List D := pickL [0, 1, 2] (ds ++ es)
noncomputable def F_law : CS := sSeq (sAsg (eCall (fnG 1 G_law_town) (aCons (eVar 0) (aNil))) (gName 1))
  (sSeq (sAsg (eOp gAdd (eC (.int 1)) (eCall (fnG 2 G_law_draw) (aCons (eVar 1) (aCons (eC (.int 2)) (aNil))))) (gName 2))
  (sSeq (sAsg (eCall (fnG 2 G_law_draw) (aCons (eVar 1) (aCons (eC (.int 5)) (aNil)))) (gName 3))
  (sSeq (sPar 7 8 (aCons (eOp gAdd (eC (.int 1)) (eCall (fnG 2 G_law_draw) (aCons (eVar 1) (aCons (eIf (tBool (eOp gEq (eVar 2) (eC (.int 1)))) (eC (.int 4)) (eC (.int 3))) (aNil))))) (aCons (eOp gAdd (eC (.int 1)) (eCall (fnG 2 G_law_draw) (aCons (eVar 1) (aCons (eC (.int 2)) (aNil))))) (aNil))))
  (sSeq (sAsg (eNew (aComp (cFor (iRng1D (aCons (eC (.int 15)) (aNil))) (gName 11) (tYesD) [11] (cElt (eNew (aComp (cFor (iRng1D (aCons (eVar 2) (aNil))) (gName 12) (tYesD) [12] (cElt (eIf (tBool (eOp gLt (eOp gAdd (eOp gMul (eVar 11) (eVar 2)) (eVar 12)) (eVar 3))) (eC (.int 1)) (eC (.int 0))))))))))) (gName 4))
  (sSeq (sIf (tBool (eOp gNe (eCallK 1 1 (fnG 2 G_ground) K_ground_lines (aCons (eVar 3) (aNil)) (aCons (eVar 2) (aNil))) (eCall (fnG 1 G_law_state) (aCons (eVar 4) (aNil)))))
  (sRet (eC (.bl false)))
  (sNext))
  (sSeq (sAsg (eCallK 1 1 (fnG 2 G_ground) K_ground_lines (aCons (eVar 3) (aNil)) (aCons (eVar 2) (aNil))) (gName 5))
  (sSeq (sFor (iRng1D (aCons (eC (.int 4)) (aNil))) (gName 6)
  (sSeq (sAsg (eCallK 1 3 (fnG 4 G_next_beats) K_next_beats_lines_most_room (aCons (eVar 5) (aNil)) (aCons (eVar 2) (aCons (eVar 7) (aCons (eVar 8) (aNil))))) (gName 9))
  (sSeq (sIf (tBool (eOp gNe (eVar 9) (eCall (fnG 4 G_law_beats) (aCons (eVar 5) (aCons (eVar 2) (aCons (eVar 7) (aCons (eVar 8) (aNil))))))))
  (sRet (eC (.bl false)))
  (sNext))
  (sSeq (sIf (tAndD (tBool (eOp gEq (eVar 8) (eC (.int 1)))) (tBool (eOp gNe (eCallK 1 2 (fnG 4 G_next_beats) K_next_beats_lines_most (aCons (eVar 5) (aNil)) (aCons (eVar 2) (aCons (eVar 7) (aNil)))) (eVar 9))))
  (sRet (eC (.bl false)))
  (sNext))
  (sSeq (sIf (tBool (eOp gEq (eVar 9) (eNew (aCall gDisp (aNil)))))
  (sRet (eC (.bl true)))
  (sNext))
  (sSeq (sAsg (eCall (fnG 2 G_law_pick) (aCons (eVar 1) (aCons (eVar 9) (aNil)))) (gName 10))
  (sSeq (sAsg (eCallK 2 1 (fnG 3 G_step) K_step_lines (aCons (eVar 5) (aCons (eVar 10) (aNil))) (aCons (eVar 2) (aNil))) (gName 5))
  (sIf (tBool (eOp gNe (eCallK 1 1 (fnG 2 G_balls_in) K_balls_in_lines (aCons (eVar 5) (aNil)) (aCons (eVar 2) (aNil))) (eVar 3)))
  (sRet (eC (.bl false)))
  (sNext)))))))))
  (sRet (eC (.bl true))))))))))
noncomputable def G_law : List D → Sto → R D := fnC 1 13 F_law
theorem G_law_eq (a0 : D) (S : Sto) : G_law [a0] S = gc S (fnR (F_law [some a0, none, none, none, none, none, none, none, none, none, none, none, none] S)) := fnC_at rfl rfl
end J

namespace J
open PySem PySem.Spec PyProof.Rows L2

/-! ## k04: the law's own search, walked -/
def kO (o : List Gl2) : D := .ktp (o.map eT)
def kB (b : Beat) : D := .tup (b.map kO)
theorem fgt_eT (x : Gl2) : D.fgt (eT x) = eT x := by
  unfold eT
  simp [D.fgt, D.fgts]
theorem fgts_map {α : Type} {f g : α → D} : ∀ xs : List α, (∀ x ∈ xs, D.fgt (f x) = g x) → D.fgts (xs.map f) = xs.map g
  | [], _ => rfl
  | x :: xs, h => by
    rw [List.map_cons, List.map_cons]
    unfold D.fgts
    rw [h x (by simp), fgts_map xs fun y hy => h y (by simp [hy])]
theorem fgt_kO (o : List Gl2) : D.fgt (kO o) = eO o := by
  unfold kO eO D.fgt
  rw [fgts_map o fun x _ => fgt_eT x]
theorem fgt_kB (b : Beat) : D.fgt (kB b) = eB b := by
  unfold kB eB D.fgt
  rw [fgts_map b fun o _ => fgt_kO o]
theorem fgt_kBs (bs : List Beat) : D.fgt (.new (bs.map kB)) = .new (bs.map eB) := by
  unfold D.fgt
  rw [fgts_map bs fun b _ => fgt_kB b]
theorem eFgt_v {i : Nat} {env : Env} {S : Sto} {d : D} (h : env[i]? = some (some d)) : eFgt (eVar i) env S = .ok d.fgt S := by
  unfold eFgt
  rw [eUn_d, eVar_d, h]
  rfl
theorem leD_ok (a b : Gl2) (S : Sto) : gLeD (eT a) (eT b) S = .ok (.bl (leT a b)) S := by
  have da := dep_eT a
  have db := dep_eT b
  unfold gLeD cmpD
  rw [if_pos ⟨alk_eT a b, alk_eT b a, by omega, by omega⟩]
  have := leD_eT a b
  unfold leD at this
  show R.ok (D.bl (!(eT b).lt (eT a))) S = _
  rw [this]
theorem lot_comp {gs row : List Gl2} (hg : gs.length ≤ 1000) (hr : row.length ≤ 1000) {env : Env} (h1 : env[1]? = some (some (.new (gs.map eT)))) (h5 : env[5]? = some (some (kO row))) (h7 : env.length = 7) (S : Sto) :
    aComp (cFor (iSeq (eVar 1)) (gName 6) (tOrD (tBool (eOp gEq (eFgt (eVar 5)) (eTup (aNil)))) (tBool (eOp gLeD (eVar 6) (eOp gIx (eFgt (eVar 5)) (eUn gNeg (eC (.int 1))))))) [6] (cElt (eOp gAddK (eVar 5) (eTupK (aCons (eVar 6) (aNil)))))) env S = .ok ((lwS gs row).map kO) S := by
  have z0 : (0 : Nat) ≤ sLim := Nat.zero_le _
  have z1 : (1 : Nat) ≤ sLim := by rw [sLim_eq]; omega
  rw [aComp_d, cFor_fix (ds := gs.map eT) (S1 := S) (by rw [iSeq_d, eVar_d, h1]; rfl)]
  rw [cL_filter eT (okW row) (fun g => kO (row ++ [g])) gs [] (by rw [sLim_eq]; simp; omega) fun g hg' => ?_]
  · unfold lwS
    rw [List.map_map]
    rfl
  have e6 : ((wipeE env [6]).set 6 (some (eT g)))[6]? = some (some (eT g)) := by rw [List.getElem?_set_self (by simp [wipeE]; omega)]
  have e5 : ((wipeE env [6]).set 6 (some (eT g)))[5]? = some (some (kO row)) := by simp [wipeE, h5]
  refine ⟨(wipeE env [6]).set 6 (some (eT g)), rfl, ?_, fun _ => ?_⟩
  · have ef := eFgt_v (S := S) e5
    rw [fgt_kO] at ef
    have tt : eTup aNil ((wipeE env [6]).set 6 (some (eT g))) S = .ok (eO []) S := by
      simp only [eTup, eCall_d, aNil_d, R.bind_ok, gTupD, List.length_nil, z0, if_true]
      rfl
    have ge : gEq (eO row) (eO []) S = .ok (.bl (decide (row = []))) S := gEq_pl S (pl_eO row) (pl_eO []) (Nat.le_trans (dep_eO row) (by omega)) (Nat.le_trans (dep_eO []) (by omega)) (by
      rw [decide_eq_true_eq]
      constructor
      · rintro rfl; rfl
      · intro e
        cases row with
        | nil => rfl
        | cons a r => simp [eO] at e)
    have t1 : tBool (eOp gEq (eFgt (eVar 5)) (eTup (aNil))) ((wipeE env [6]).set 6 (some (eT g))) S = .ok (decide (row = [])) S := tB (eOpK ef tt ge)
    by_cases q : row = []
    · rw [decide_eq_true q] at t1
      rw [tOrD_d, t1]
      unfold okW
      rw [decide_eq_true q]
      rfl
    · rw [decide_eq_false q] at t1
      rw [tOrD_d, t1]
      obtain ⟨r', l, rfl⟩ : ∃ r' l, row = r' ++ [l] := ⟨_, _, (List.dropLast_concat_getLast q).symm⟩
      have gx : gIx (eO (r' ++ [l])) (.int (-1)) S = .ok (eT l) S := gIx_t (by rw [List.map_append]; exact last_ix _ _)
      have gn : eUn gNeg (eC (.int 1)) ((wipeE env [6]).set 6 (some (eT g))) S = .ok (.int (-1)) S := by simp
      have gl := leD_ok g l S
      have ok : okW (r' ++ [l]) g = leT g l := by
        unfold okW
        rw [decide_eq_false q]
        simp
      rw [ok]
      simp only [R.bind_ok, Bool.false_eq_true, if_false]
      exact tB (eOpK (a := eT g) (b := eT l) (by rw [eVar_d, e6]) (eOpK ef gn gx) gl)
  · have ek : eTupK (aCons (eVar 6) (aNil)) ((wipeE env [6]).set 6 (some (eT g))) S = .ok (.ktp [eT g]) S := by
      simp only [eTupK, eCall_d, aCons_d, aNil_d, eVar_d, e6, R.bind_ok, gTupK, List.length_cons, List.length_nil, Nat.zero_add, z1, if_true]
    refine eOpK (a := kO row) (b := .ktp [eT g]) (by rw [eVar_d, e5]) ek ?_
    have hz : (row.map eT).length + [eT g].length ≤ sLim := by rw [sLim_eq]; simp; omega
    unfold kO gAddK
    simp only [hz, if_true, List.map_append]
    rfl
theorem law_lots_ok {gs : List Gl2} {m B : Nat} (hB : gs.length ≤ B) (hB1 : 1 ≤ B) (hBl : B ≤ 1000) (hm : m ≤ 100) (hBm : B ^ m ≤ 100000) (S : Sto) : G_law_lots [.int (m : Nat), .new (gs.map eT)] S = .ok (.new ((lots gs m).map kO)) S := by
  rw [G_law_lots_eq, F_law_lots]
  have z0 : (0 : Nat) ≤ sLim := Nat.zero_le _
  have z1 : (1 : Nat) ≤ sLim := by rw [sLim_eq]; omega
  have len : ∀ k, k ≤ m → (lots gs k).length ≤ 100000 := fun k hk => Nat.le_trans (lots_len hB k) (Nat.le_trans (Nat.pow_le_pow_right hB1 hk) hBm)
  have rl : ∀ k, ∀ r ∈ lots gs k, r.length = k := fun k r hr => (lots_iff.mp hr).1
  rw [sSeq_d, sAsg_n (d := .new ((lots gs 0).map kO)) (S' := S) (by
    simp only [eNew_d, aCall_d, aCons_d, aNil_d, eTupK, eCall_d, R.bind_ok, gTupK, List.length_nil, z0, if_true, gDisp_d, List.length_cons, Nat.zero_add, z1]
    rfl), RS.next_nx]
  simp only [List.set_cons_succ, List.set_cons_zero]
  have hr : rng1 [.int (m : Nat)] S = .ok (.fix ((List.range m).map fun i : Nat => .int (i : Nat))) S := rng1_n m S (by omega)
  rw [sSeq_d, sFor_fix (ds := (List.range m).map fun i : Nat => .int (i : Nat)) (S1 := S) (by simp only [iRng1_d, sSeq_d, sAsg_d, sExpr_d, sRet_d, sIf_d, sNext_d, eCall_d, aCons_d, aNil_d, eVar_d, eC_d, eOp_d, eUn_d, eNew_d, aCall_d, aComp_d, eTup_d, tBool_d, tOrD_d, tAndD_d, tNotD_d, eIf_d, eAnd_d, eOr_d, eNot_d, List.getElem?_cons_succ, List.getElem?_cons_zero, List.set_cons_succ, List.set_cons_zero, List.length_cons, List.length_nil, Nat.zero_add, Nat.reduceAdd, R.bind_ok, R.bind_exc, R.st_ok, R.st_exc, RS.next_nx, RS.next_rt, RS.next_exc, gName_d, gSt_ok, fnG_d, toB_bl, if_true, Bool.not_true, Bool.not_false, Bool.false_eq_true, if_false, fnR_rt, fnR_exc, gc_exc, hr])]
  refine forL_preN (fun z => gc S (fnR z) = _) (fun i : Nat => .int (i : Nat)) (fun pre env S1 => ∃ o3 o4 o5 o6, S1 = S ∧ env = [some (.int (m : Nat)), some (.new (gs.map eT)), some (.new ((lots gs pre.length).map kO)), o3, o4, o5, o6]) (List.range m) ⟨none, none, none, none, rfl, rfl⟩ ?_ ?_
  · rintro pre k post env S1 hx ⟨o3, o4, o5, o6, rfl, rfl⟩
    have hk : pre.length < m := by
      have := congrArg List.length hx
      simp at this
      omega
    refine ⟨[some (.int (m : Nat)), some (.new (gs.map eT)), some (.new ((lots gs pre.length).map kO)), some (.int (k : Nat)), o4, o5, o6], S1, by simp, ?_⟩
    rw [sSeq_d, sAsg_n (d := .new (([] : List (List Gl2)).map kO)) (S' := S1) (by simp only [eNew_d, aCall_d, aNil_d, R.bind_ok, gDisp_d, List.length_nil, z0, if_true]; rfl), RS.next_nx]
    simp only [List.set_cons_succ, List.set_cons_zero]
    rw [sSeq_d, sFor_fix (ds := (lots gs pre.length).map kO) (S1 := S1) (by rw [iSeq_d]; rfl)]
    refine forL_preN (Nx _) kO (fun p2 env S2 => ∃ o5 o6, S2 = S1 ∧ env = [some (.int (m : Nat)), some (.new (gs.map eT)), some (.new ((lots gs pre.length).map kO)), some (.int (k : Nat)), some (.new ((p2.flatMap (lwS gs)).map kO)), o5, o6]) (lots gs pre.length) ⟨o5, o6, rfl, rfl⟩ ?_ ?_
    · rintro p2 row q2 env S2 hx2 ⟨o5, o6, rfl, rfl⟩
      refine ⟨[some (.int (m : Nat)), some (.new (gs.map eT)), some (.new ((lots gs pre.length).map kO)), some (.int (k : Nat)), some (.new ((p2.flatMap (lwS gs)).map kO)), some (kO row), o6], S2, by simp, ?_⟩
      have hrow : row ∈ lots gs pre.length := mem_of_split hx2
      have c := lot_comp (gs := gs) (row := row) (by omega) (by rw [rl _ row hrow]; omega) (env := [some (.int (m : Nat)), some (.new (gs.map eT)), some (.new ((lots gs pre.length).map kO)), some (.int (k : Nat)), some (.new ((p2.flatMap (lwS gs)).map kO)), some (kO row), o6]) rfl rfl rfl S2
      have l2 : (p2.flatMap (lwS gs)).length + (lwS gs row).length ≤ 100000 := by
        have := len (pre.length + 1) hk
        have e : lots gs (pre.length + 1) = (p2.flatMap (lwS gs) ++ lwS gs row) ++ q2.flatMap (lwS gs) := by
          show (lots gs pre.length).flatMap (lwS gs) = _
          rw [hx2, List.flatMap_append, List.flatMap_cons, List.append_assoc]
        rw [e] at this
        simp only [List.length_append] at this
        omega
      have ad : gAdd (.new ((p2.flatMap (lwS gs)).map kO)) (.new ((lwS gs row).map kO)) S2 = .ok (.new (((p2 ++ [row]).flatMap (lwS gs)).map kO)) S2 := by
        rw [gAdd_n, if_pos (by rw [sLim_eq]; simp only [List.length_map]; omega), ← List.map_append]
        simp
      refine Nx.of (sAsg_n (d := .new (((p2 ++ [row]).flatMap (lwS gs)).map kO)) (S' := S2) (eOpK (by rfl) (by rw [eNew_d, c]; rfl) ad)) ?_
      exact ⟨_, _, rfl, rfl⟩
    · rintro env S2 ⟨o5, o6, rfl, rfl⟩
      refine Nx.of (sAsg_n (d := .new (((lots gs pre.length).flatMap (lwS gs)).map kO)) (S' := S2) (by rfl)) ?_
      refine ⟨some (.int (k : Nat)), some (.new (((lots gs pre.length).flatMap (lwS gs)).map kO)), o5, o6, rfl, ?_⟩
      rw [List.length_append]
      rfl
  rintro env S1 ⟨o3, o4, o5, o6, rfl, rfl⟩
  rw [List.length_range]
  simp only [sSeq_d, sAsg_d, sExpr_d, sRet_d, sIf_d, sNext_d, eCall_d, aCons_d, aNil_d, eVar_d, eC_d, eOp_d, eUn_d, eNew_d, aCall_d, aComp_d, eTup_d, tBool_d, tOrD_d, tAndD_d, tNotD_d, eIf_d, eAnd_d, eOr_d, eNot_d, List.getElem?_cons_succ, List.getElem?_cons_zero, List.set_cons_succ, List.set_cons_zero, List.length_cons, List.length_nil, Nat.zero_add, Nat.reduceAdd, R.bind_ok, R.bind_exc, R.st_ok, R.st_exc, RS.next_nx, RS.next_rt, RS.next_exc, gName_d, gSt_ok, fnG_d, toB_bl, if_true, Bool.not_true, Bool.not_false, Bool.false_eq_true, if_false, fnR_rt, fnR_exc, gc_exc]
  refine gc_same (und_new fun d hd => ?_)
  obtain ⟨o, _, rfl⟩ := List.mem_map.mp hd
  unfold kO
  rw [D.und]
  exact unds_of fun x hx => by obtain ⟨y, _, rfl⟩ := List.mem_map.mp hx; exact und_eT _ y
end J

namespace J
open PySem PySem.Spec PyProof.Rows L2

theorem isum_nat : ∀ xs : List Nat, (xs.map fun x : Nat => (x : Int)).sum = ((xs.sum : Nat) : Int)
  | [] => rfl
  | x :: xs => by
    rw [List.map_cons, List.sum_cons, List.sum_cons, isum_nat xs]
    omega
theorem eqv_eT (x g : Gl2) : D.eqv (eT x) (eT g) = decide (x = g) := by
  obtain ⟨a, b⟩ := x
  obtain ⟨c, d⟩ := g
  rw [Bool.eq_iff_iff]
  simp [eT, D.eqv, D.eqvs, Prod.mk.injEq]
theorem count_kO (o : List Gl2) (g : Gl2) (S : Sto) : gCountK (kO o) [eT g] S = .ok (.int (o.count g : Nat)) S := by
  have d1 := dep_eT g
  have d2 : D.deps (o.map eT) ≤ 1 := deps_le fun x hx => by obtain ⟨y, _, rfl⟩ := List.mem_map.mp hx; exact dep_eT y
  unfold kO gCountK
  simp only
  rw [if_pos ⟨by omega, by omega⟩]
  congr 2
  rw [List.countP_map]
  congr 1
  unfold List.count
  refine List.countP_congr fun x _ => ?_
  simp only [Function.comp_apply, eqv_eT, decide_eq_true_eq, beq_iff_eq]
section
variable {st : St} {n B sp : Nat}
theorem goals_loop (hB : B ≤ 15) (hn : n ≤ 6) (S : Sto) (o6 o7 o8 o9 o10 o11 o12 o13 o14 o15 o16 o17 : Option D) (Q : RS → Prop) (K : Env → Sto → RS)
    (h : ∀ o5 o7, Q (K [some (eS st), some (.int (n : Nat)), some (.int (B : Nat)), some (.int (sp : Nat)), some (.new ((glU B n).map eT)), o5, o6, o7, o8, o9, o10, o11, o12, o13, o14, o15, o16, o17] S)) :
    Q ((sFor (iRng2D (aCons (eC (.int 1)) (aCons (eOp gAdd (eVar 2) (eC (.int 1))) (aNil)))) (gName 5)
  (sAsg (eOp gAdd (eVar 4) (eNew (aComp (cFor (iRng1D (aCons (eVar 1) (aNil))) (gName 7) (tYesD) [7] (cElt (eTup (aCons (eVar 5) (aCons (eVar 7) (aNil))))))))) (gName 4)) [some (eS st), some (.int (n : Nat)), some (.int (B : Nat)), some (.int (sp : Nat)), some (.new []), none, o6, o7, o8, o9, o10, o11, o12, o13, o14, o15, o16, o17] S).next K) := by
  have z2 : (2 : Nat) ≤ sLim := by rw [sLim_eq]; omega
  have hr : rng2 [.int 1, .int ((B : Int) + 1)] S = .ok (.fix ((List.range B).map fun h : Nat => .int ((h + 1 : Nat) : Int))) S := by
    unfold rng2
    simp only
    rw [if_pos ⟨by omega, by omega, by omega, by omega⟩]
    have : ((B : Int) + 1 - 1).toNat = B := by omega
    rw [this]
    unfold rangeD
    congr 3
    funext i
    congr 1
    omega
  rw [sFor_fix (ds := (List.range B).map fun h : Nat => .int ((h + 1 : Nat) : Int)) (S1 := S) (by simp only [iRng2_d, sSeq_d, sAsg_d, sExpr_d, sRet_d, sIf_d, sNext_d, eCall_d, aCons_d, aNil_d, eVar_d, eC_d, eOp_d, eUn_d, eNew_d, aCall_d, aComp_d, eTup_d, tBool_d, tOrD_d, tAndD_d, tNotD_d, eIf_d, eAnd_d, eOr_d, eNot_d, List.getElem?_cons_succ, List.getElem?_cons_zero, List.set_cons_succ, List.set_cons_zero, List.length_cons, List.length_nil, Nat.zero_add, Nat.reduceAdd, R.bind_ok, R.bind_exc, R.st_ok, R.st_exc, RS.next_nx, RS.next_rt, RS.next_exc, gName_d, gSt_ok, fnG_d, toB_bl, if_true, Bool.not_true, Bool.not_false, Bool.false_eq_true, if_false, fnR_rt, fnR_exc, gc_exc, gAdd_i, hr])]
  refine forL_preN Q (fun h : Nat => .int ((h + 1 : Nat) : Int)) (fun pre env S1 => ∃ o5 o7, S1 = S ∧ env = [some (eS st), some (.int (n : Nat)), some (.int (B : Nat)), some (.int (sp : Nat)), some (.new ((pre.flatMap fun h => (List.range n).map fun a => (((h + 1 : Nat) : Int), ((a : Nat) : Int))).map eT)), o5, o6, o7, o8, o9, o10, o11, o12, o13, o14, o15, o16, o17]) (List.range B) ⟨none, o7, rfl, rfl⟩ ?_ ?_
  · rintro pre k post env S1 hx ⟨o5, o7, rfl, rfl⟩
    refine ⟨[some (eS st), some (.int (n : Nat)), some (.int (B : Nat)), some (.int (sp : Nat)), some (.new ((pre.flatMap fun h => (List.range n).map fun a => (((h + 1 : Nat) : Int), ((a : Nat) : Int))).map eT)), some (.int ((k + 1 : Nat) : Int)), o6, o7, o8, o9, o10, o11, o12, o13, o14, o15, o16, o17], S1, by simp, ?_⟩
    have hpl : pre.length ≤ 15 := by
      have := congrArg List.length hx
      simp at this
      omega
    have r1 : rng1 [.int (n : Nat)] S1 = .ok (.fix ((List.range n).map fun i : Nat => .int (i : Nat))) S1 := rng1_n n S1 (by omega)
    have c : aComp (cFor (iRng1D (aCons (eVar 1) (aNil))) (gName 7) (tYesD) [7] (cElt (eTup (aCons (eVar 5) (aCons (eVar 7) (aNil)))))) [some (eS st), some (.int (n : Nat)), some (.int (B : Nat)), some (.int (sp : Nat)), some (.new ((pre.flatMap fun h => (List.range n).map fun a => (((h + 1 : Nat) : Int), ((a : Nat) : Int))).map eT)), some (.int ((k + 1 : Nat) : Int)), o6, o7, o8, o9, o10, o11, o12, o13, o14, o15, o16, o17] S1 = .ok ((List.range n).map fun a : Nat => eT (((k + 1 : Nat) : Int), ((a : Nat) : Int))) S1 :=
      comp_map (S1 := S1) (fun a : Nat => .int (a : Nat)) (fun a : Nat => eT (((k + 1 : Nat) : Int), ((a : Nat) : Int))) (List.range n) (by simp only [iRng1_d, sSeq_d, sAsg_d, sExpr_d, sRet_d, sIf_d, sNext_d, eCall_d, aCons_d, aNil_d, eVar_d, eC_d, eOp_d, eUn_d, eNew_d, aCall_d, aComp_d, eTup_d, tBool_d, tOrD_d, tAndD_d, tNotD_d, eIf_d, eAnd_d, eOr_d, eNot_d, List.getElem?_cons_succ, List.getElem?_cons_zero, List.set_cons_succ, List.set_cons_zero, List.length_cons, List.length_nil, Nat.zero_add, Nat.reduceAdd, R.bind_ok, R.bind_exc, R.st_ok, R.st_exc, RS.next_nx, RS.next_rt, RS.next_exc, gName_d, gSt_ok, fnG_d, toB_bl, if_true, Bool.not_true, Bool.not_false, Bool.false_eq_true, if_false, fnR_rt, fnR_exc, gc_exc, r1]) (by rw [sLim_eq]; simp; omega) fun a _ => ⟨[some (eS st), some (.int (n : Nat)), some (.int (B : Nat)), some (.int (sp : Nat)), some (.new ((pre.flatMap fun h => (List.range n).map fun a => (((h + 1 : Nat) : Int), ((a : Nat) : Int))).map eT)), some (.int ((k + 1 : Nat) : Int)), o6, some (.int (a : Nat)), o8, o9, o10, o11, o12, o13, o14, o15, o16, o17], by simp [wipeE], by
        simp only [sSeq_d, sAsg_d, sExpr_d, sRet_d, sIf_d, sNext_d, eCall_d, aCons_d, aNil_d, eVar_d, eC_d, eOp_d, eUn_d, eNew_d, aCall_d, aComp_d, eTup_d, tBool_d, tOrD_d, tAndD_d, tNotD_d, eIf_d, eAnd_d, eOr_d, eNot_d, List.getElem?_cons_succ, List.getElem?_cons_zero, List.set_cons_succ, List.set_cons_zero, List.length_cons, List.length_nil, Nat.zero_add, Nat.reduceAdd, R.bind_ok, R.bind_exc, R.st_ok, R.st_exc, RS.next_nx, RS.next_rt, RS.next_exc, gName_d, gSt_ok, fnG_d, toB_bl, if_true, Bool.not_true, Bool.not_false, Bool.false_eq_true, if_false, fnR_rt, fnR_exc, gc_exc, eTup_d, gTupD_d, List.length_cons, List.length_nil, Nat.zero_add, z2, if_true]
        rfl⟩
    have fl : (pre.flatMap fun h => (List.range n).map fun a => (((h + 1 : Nat) : Int), ((a : Nat) : Int))).length ≤ pre.length * 6 := flat_le (k := 6) fun h => by simp; omega
    have ad : gAdd (.new ((pre.flatMap fun h => (List.range n).map fun a => (((h + 1 : Nat) : Int), ((a : Nat) : Int))).map eT)) (.new ((List.range n).map fun a : Nat => eT (((k + 1 : Nat) : Int), ((a : Nat) : Int)))) S1 = .ok (.new (((pre ++ [k]).flatMap fun h => (List.range n).map fun a => (((h + 1 : Nat) : Int), ((a : Nat) : Int))).map eT)) S1 := by
      rw [gAdd_n, if_pos (by rw [sLim_eq]; simp only [List.length_map, List.length_range]; omega)]
      simp [List.map_map, Function.comp_def]
    refine Nx.of (sAsg_n (d := .new (((pre ++ [k]).flatMap fun h => (List.range n).map fun a => (((h + 1 : Nat) : Int), ((a : Nat) : Int))).map eT)) (S' := S1) (eOpK (by rfl) (by rw [eNew_d, c]; rfl) ad)) ?_
    exact ⟨_, _, rfl, rfl⟩
  · rintro env S1 ⟨o5, o7, rfl, rfl⟩
    exact h o5 o7
theorem now_ok (hs : IsSt n st) {a : Nat} (ha : a < n) (o4 o5 o6 o8 o9 o10 o11 o12 o13 o14 o15 o16 o17 : Option D) (S : Sto) :
    eIf (tBool (eOp gNe (eVar 0) (eTup (aNil)))) (eOp gIx (eOp gIx (eVar 0) (eC (.int 0))) (eVar 7)) (eC (.int 0)) [some (eS st), some (.int (n : Nat)), some (.int (B : Nat)), some (.int (sp : Nat)), o4, o5, o6, some (.int (a : Nat)), o8, o9, o10, o11, o12, o13, o14, o15, o16, o17] S = .ok (.int (cellN st 0 a)) S := by
  have z0 : (0 : Nat) ≤ sLim := Nat.zero_le _
  have tt : eTup aNil [some (eS st), some (.int (n : Nat)), some (.int (B : Nat)), some (.int (sp : Nat)), o4, o5, o6, some (.int (a : Nat)), o8, o9, o10, o11, o12, o13, o14, o15, o16, o17] S = .ok (eS []) S := by
    simp only [eTup, eCall_d, aNil_d, R.bind_ok, gTupD, List.length_nil, z0, if_true]
    rfl
  have ge : gNe (eS st) (eS []) S = .ok (.bl !(decide (st = []))) S := gNe_pl S (pl_eS st) (pl_eS []) (Nat.le_trans (dep_eS st) (by omega)) (Nat.le_trans (dep_eS []) (by omega)) (by
    rw [decide_eq_true_eq]
    constructor
    · rintro rfl; rfl
    · intro e
      cases st with
      | nil => rfl
      | cons a r => simp [eS] at e)
  have t1 : tBool (eOp gNe (eVar 0) (eTup (aNil))) [some (eS st), some (.int (n : Nat)), some (.int (B : Nat)), some (.int (sp : Nat)), o4, o5, o6, some (.int (a : Nat)), o8, o9, o10, o11, o12, o13, o14, o15, o16, o17] S = .ok (!(decide (st = []))) S := tB (eOpK (a := eS st) (b := eS []) (by rfl) tt ge)
  by_cases q : st = []
  · rw [decide_eq_true q] at t1
    rw [eIf_d, t1]
    subst q
    rfl
  · rw [decide_eq_false q] at t1
    rw [eIf_d, t1]
    have hl : 0 < st.length := List.length_pos_iff.mpr q
    obtain ⟨c1, c2⟩ := cell_at hs.w hl ha S
    simp only [R.bind_ok, Bool.not_false, if_true]
    exact eOpK (eOpK (a := eS st) (b := .int 0) (by rfl) (by rfl) c1) (by rfl) c2
/-- one line more -/
theorem found_line (hs : IsSt n st) (hn6 : n ≤ 6) (hB : (glU B n).length ≤ 100) (h4 : ∀ a, (cellN st 0 a).toNat ≤ 4) (hBm : ∀ k, k ≤ n → (btA (glU B n) st k).length ≤ 100000) (hlm : ∀ a, a < n → (B * n) ^ (cellN st 0 a).toNat ≤ 100000) (hBn : 1 ≤ B * n) (hBn2 : B * n ≤ 100) {a : Nat} (ha : a < n) (o5 o8 o9 o10 o11 o12 o13 o14 o15 o16 o17 : Option D) (S : Sto) :
    Nx (fun env S1 => ∃ o10 o11 o12 o17, S1 = S ∧ env = [some (eS st), some (.int (n : Nat)), some (.int (B : Nat)), some (.int (sp : Nat)), some (.new ((glU B n).map eT)), o5, some (.new ((btA (glU B n) st (a + 1)).map kB)), some (.int (a : Nat)), o8, o9, o10, o11, o12, o13, o14, o15, o16, o17]) ((sSeq (sAsg (eIf (tBool (eOp gNe (eVar 0) (eTup (aNil)))) (eOp gIx (eOp gIx (eVar 0) (eC (.int 0))) (eVar 7)) (eC (.int 0))) (gName 10))
  (sSeq (sAsg (eNew (aCall gDisp (aNil))) (gName 11))
  (sSeq (sFor (iSeq (eVar 6)) (gName 12)
  (sAsg (eOp gAdd (eVar 11) (eNew (aComp (cFor (iSeq (eCall (fnG 2 G_law_lots) (aCons (eVar 10) (aCons (eVar 4) (aNil))))) (gName 17) (tYesD) [17] (cElt (eOp gAdd (eVar 12) (eTup (aCons (eVar 17) (aNil))))))))) (gName 11)))
  (sAsg (eVar 11) (gName 6))))) [some (eS st), some (.int (n : Nat)), some (.int (B : Nat)), some (.int (sp : Nat)), some (.new ((glU B n).map eT)), o5, some (.new ((btA (glU B n) st a).map kB)), some (.int (a : Nat)), o8, o9, o10, o11, o12, o13, o14, o15, o16, o17] S) := by
  have z0 : (0 : Nat) ≤ sLim := Nat.zero_le _
  have z1 : (1 : Nat) ≤ sLim := by rw [sLim_eq]; omega
  have nw := now_ok (B := B) (sp := sp) hs ha (some (.new ((glU B n).map eT))) o5 (some (.new ((btA (glU B n) st a).map kB))) o8 o9 o10 o11 o12 o13 o14 o15 o16 o17 S
  rw [sSeq_d, sAsg_n nw, RS.next_nx]
  simp only [List.set_cons_succ, List.set_cons_zero]
  rw [sSeq_d, sAsg_n (d := .new (([] : List Beat).map kB)) (S' := S) (by simp only [eNew_d, aCall_d, aNil_d, R.bind_ok, gDisp_d, List.length_nil, z0, if_true]; rfl), RS.next_nx]
  simp only [List.set_cons_succ, List.set_cons_zero]
  rw [sSeq_d, sFor_fix (ds := (btA (glU B n) st a).map kB) (S1 := S) (by rw [iSeq_d]; rfl)]
  have c0 := (hs.cell 0 a).1
  have ec : cellN st 0 a = (((cellN st 0 a).toNat : Nat) : Int) := by omega
  have lo := law_lots_ok (gs := glU B n) (m := (cellN st 0 a).toNat) (B := B * n) (by rw [glU_len]; omega) hBn (by omega) (by have := h4 a; omega) (hlm a ha)
  have ll : (lots (glU B n) (cellN st 0 a).toNat).length ≤ 100000 := Nat.le_trans (lots_len (B := B * n) (by rw [glU_len]; omega) _) (hlm a ha)
  refine forL_preN (Nx _) kB (fun p2 env S2 => ∃ o12 o17, S2 = S ∧ env = [some (eS st), some (.int (n : Nat)), some (.int (B : Nat)), some (.int (sp : Nat)), some (.new ((glU B n).map eT)), o5, some (.new ((btA (glU B n) st a).map kB)), some (.int (a : Nat)), o8, o9, some (.int (cellN st 0 a)), some (.new ((p2.flatMap (btW (glU B n) st a)).map kB)), o12, o13, o14, o15, o16, o17]) (btA (glU B n) st a) ⟨o12, o17, rfl, rfl⟩ ?_ ?_
  · rintro p2 row q2 env S2 hx ⟨o12, o17, rfl, rfl⟩
    refine ⟨[some (eS st), some (.int (n : Nat)), some (.int (B : Nat)), some (.int (sp : Nat)), some (.new ((glU B n).map eT)), o5, some (.new ((btA (glU B n) st a).map kB)), some (.int (a : Nat)), o8, o9, some (.int (cellN st 0 a)), some (.new ((p2.flatMap (btW (glU B n) st a)).map kB)), some (kB row), o13, o14, o15, o16, o17], S2, by simp, ?_⟩
    have hrow : row ∈ btA (glU B n) st a := mem_of_split hx
    have rl : row.length = a := (btA_iff.mp hrow).1
    have c : aComp (cFor (iSeq (eCall (fnG 2 G_law_lots) (aCons (eVar 10) (aCons (eVar 4) (aNil))))) (gName 17) (tYesD) [17] (cElt (eOp gAdd (eVar 12) (eTup (aCons (eVar 17) (aNil)))))) [some (eS st), some (.int (n : Nat)), some (.int (B : Nat)), some (.int (sp : Nat)), some (.new ((glU B n).map eT)), o5, some (.new ((btA (glU B n) st a).map kB)), some (.int (a : Nat)), o8, o9, some (.int (cellN st 0 a)), some (.new ((p2.flatMap (btW (glU B n) st a)).map kB)), some (kB row), o13, o14, o15, o16, o17] S2 = .ok ((lots (glU B n) (cellN st 0 a).toNat).map fun own => kB (row ++ [own])) S2 := by
      refine comp_map (S1 := S2) kO (fun own => kB (row ++ [own])) (lots (glU B n) (cellN st 0 a).toNat) ?_ (by rw [sLim_eq]; omega) fun own _ => ?_
      · have := lo S2
        rw [← ec] at this
        rw [iSeq_d]
        simp only [sSeq_d, sAsg_d, sExpr_d, sRet_d, sIf_d, sNext_d, eCall_d, aCons_d, aNil_d, eVar_d, eC_d, eOp_d, eUn_d, eNew_d, aCall_d, aComp_d, eTup_d, tBool_d, tOrD_d, tAndD_d, tNotD_d, eIf_d, eAnd_d, eOr_d, eNot_d, List.getElem?_cons_succ, List.getElem?_cons_zero, List.set_cons_succ, List.set_cons_zero, List.length_cons, List.length_nil, Nat.zero_add, Nat.reduceAdd, R.bind_ok, R.bind_exc, R.st_ok, R.st_exc, RS.next_nx, RS.next_rt, RS.next_exc, gName_d, gSt_ok, fnG_d, toB_bl, if_true, Bool.not_true, Bool.not_false, Bool.false_eq_true, if_false, fnR_rt, fnR_exc, gc_exc, this]
        rfl
      · refine ⟨[some (eS st), some (.int (n : Nat)), some (.int (B : Nat)), some (.int (sp : Nat)), some (.new ((glU B n).map eT)), o5, some (.new ((btA (glU B n) st a).map kB)), some (.int (a : Nat)), o8, o9, some (.int (cellN st 0 a)), some (.new ((p2.flatMap (btW (glU B n) st a)).map kB)), some (kB row), o13, o14, o15, o16, some (kO own)], by simp [wipeE], ?_⟩
        refine eOpK (a := kB row) (b := .tup [kO own]) (by rfl) (by simp only [eTup, eCall_d, aCons_d, aNil_d, eVar_d, List.getElem?_cons_succ, List.getElem?_cons_zero, R.bind_ok, gTupD, List.length_cons, List.length_nil, Nat.zero_add, z1, if_true]) ?_
        unfold kB gAdd
        simp only
        rw [if_pos (by rw [sLim_eq]; simp; omega)]
        simp
    have l2 : (p2.flatMap (btW (glU B n) st a)).length + (btW (glU B n) st a row).length ≤ 100000 := by
      have := hBm (a + 1) (by omega)
      have e : btA (glU B n) st (a + 1) = (p2.flatMap (btW (glU B n) st a) ++ btW (glU B n) st a row) ++ q2.flatMap (btW (glU B n) st a) := by
        show (btA (glU B n) st a).flatMap (btW (glU B n) st a) = _
        rw [hx, List.flatMap_append, List.flatMap_cons, List.append_assoc]
      rw [e] at this
      simp only [List.length_append] at this
      omega
    have el : ((lots (glU B n) (cellN st 0 a).toNat).map fun own => kB (row ++ [own])) = (btW (glU B n) st a row).map kB := by unfold btW; rw [List.map_map]; rfl
    have ad : gAdd (.new ((p2.flatMap (btW (glU B n) st a)).map kB)) (.new ((btW (glU B n) st a row).map kB)) S2 = .ok (.new (((p2 ++ [row]).flatMap (btW (glU B n) st a)).map kB)) S2 := by
      rw [gAdd_n, if_pos (by rw [sLim_eq]; simp only [List.length_map]; omega), ← List.map_append]
      simp
    refine Nx.of (sAsg_n (d := .new (((p2 ++ [row]).flatMap (btW (glU B n) st a)).map kB)) (S' := S2) (eOpK (by rfl) (by rw [eNew_d, c, el]; rfl) ad)) ?_
    exact ⟨_, _, rfl, rfl⟩
  · rintro env S2 ⟨o12, o17, rfl, rfl⟩
    refine Nx.of (sAsg_n (d := .new (((btA (glU B n) st a).flatMap (btW (glU B n) st a)).map kB)) (S' := S2) (by rfl)) ?_
    exact ⟨_, _, _, _, rfl, rfl⟩
/-- one beat's test -/
theorem full_loop (hs : IsSt n st) (hB : B ≤ 15) {b : Beat} (hbl : b.length ≤ 6) (o4 o5 o6 o7 o8 o10 o11 o12 o14 o15 o16 o17 : Option D) (h4 : o4 = some (.new ((glU B n).map eT))) (S : Sto) :
    ∃ o5' o14' o15' o16' o17', sFor (iSeq (eVar 4)) (gTup 2 (gsCons (gName 5) (gsCons (gName 14) (gsNil))))
  (sSeq (sAsg (eCall gSum (aCons (eNew (aComp (cFor (iSeq (eVar 9)) (gName 17) (tYesD) [17] (cElt (eMethK gCountK (eVar 17) (aCons (eTup (aCons (eVar 5) (aCons (eVar 14) (aNil)))) (aNil))))))) (aNil))) (gName 15))
  (sSeq (sAsg (eIf (tBool (eOp gLt (eVar 5) (eCall gLen (aCons (eVar 0) (aNil))))) (eOp gIx (eOp gIx (eVar 0) (eVar 5)) (eVar 14)) (eC (.int 0))) (gName 16))
  (sAsg (eOr (eVar 13) (eAnd (eOp gGt (eVar 15) (eC (.int 0))) (eOp gGt (eOp gAdd (eVar 15) (eVar 16)) (eVar 3)))) (gName 13)))) [some (eS st), some (.int (n : Nat)), some (.int (B : Nat)), some (.int (sp : Nat)), o4, o5, o6, o7, o8, some (kB b), o10, o11, o12, some (.bl false), o14, o15, o16, o17] S = .nx [some (eS st), some (.int (n : Nat)), some (.int (B : Nat)), some (.int (sp : Nat)), o4, o5', o6, o7, o8, some (kB b), o10, o11, o12, some (.bl ((glU B n).any (overB st sp b))), o14', o15', o16', o17'] S := by
  subst h4
  have z2 : (2 : Nat) ≤ sLim := by rw [sLim_eq]; omega
  rw [sFor_fix (ds := (glU B n).map eT) (S1 := S) (by rw [iSeq_d]; rfl)]
  refine forL_preE (fun r => ∃ o5' o14' o15' o16' o17', r = .nx [some (eS st), some (.int (n : Nat)), some (.int (B : Nat)), some (.int (sp : Nat)), some (.new ((glU B n).map eT)), o5', o6, o7, o8, some (kB b), o10, o11, o12, some (.bl ((glU B n).any (overB st sp b))), o14', o15', o16', o17'] S) eT (fun pre env S1 => ∃ o5 o14 o15 o16 o17, S1 = S ∧ env = [some (eS st), some (.int (n : Nat)), some (.int (B : Nat)), some (.int (sp : Nat)), some (.new ((glU B n).map eT)), o5, o6, o7, o8, some (kB b), o10, o11, o12, some (.bl (pre.any (overB st sp b))), o14, o15, o16, o17]) (glU B n) ⟨o5, o14, o15, o16, o17, rfl, rfl⟩ ?_ ?_
  · rintro pre g post env S1 hx ⟨o5, o14, o15, o16, o17, rfl, rfl⟩
    obtain ⟨hh, a, h1, h2, rfl⟩ := mem_glU.mp (mem_of_split hx)
    refine ⟨[some (eS st), some (.int (n : Nat)), some (.int (B : Nat)), some (.int (sp : Nat)), some (.new ((glU B n).map eT)), some (.int ((hh + 1 : Nat) : Int)), o6, o7, o8, some (kB b), o10, o11, o12, some (.bl (pre.any (overB st sp b))), some (.int (a : Nat)), o15, o16, o17], S1, by simp [eT], ?_⟩
    have c : aComp (cFor (iSeq (eVar 9)) (gName 17) (tYesD) [17] (cElt (eMethK gCountK (eVar 17) (aCons (eTup (aCons (eVar 5) (aCons (eVar 14) (aNil)))) (aNil))))) [some (eS st), some (.int (n : Nat)), some (.int (B : Nat)), some (.int (sp : Nat)), some (.new ((glU B n).map eT)), some (.int ((hh + 1 : Nat) : Int)), o6, o7, o8, some (kB b), o10, o11, o12, some (.bl (pre.any (overB st sp b))), some (.int (a : Nat)), o15, o16, o17] S1 = .ok (b.map fun o => .int ((o.count (((hh + 1 : Nat) : Int), (a : Int)) : Nat) : Int)) S1 := by
      refine comp_map (S1 := S1) kO (fun o => .int ((o.count (((hh + 1 : Nat) : Int), (a : Int)) : Nat) : Int)) b (by rw [iSeq_d]; rfl) (by rw [sLim_eq]; omega) fun o _ => ?_
      refine ⟨[some (eS st), some (.int (n : Nat)), some (.int (B : Nat)), some (.int (sp : Nat)), some (.new ((glU B n).map eT)), some (.int ((hh + 1 : Nat) : Int)), o6, o7, o8, some (kB b), o10, o11, o12, some (.bl (pre.any (overB st sp b))), some (.int (a : Nat)), o15, o16, some (kO o)], by simp [wipeE], ?_⟩
      have ck := count_kO o (((hh + 1 : Nat) : Int), (a : Int)) S1
      have et : eTup (aCons (eVar 5) (aCons (eVar 14) (aNil))) [some (eS st), some (.int (n : Nat)), some (.int (B : Nat)), some (.int (sp : Nat)), some (.new ((glU B n).map eT)), some (.int ((hh + 1 : Nat) : Int)), o6, o7, o8, some (kB b), o10, o11, o12, some (.bl (pre.any (overB st sp b))), some (.int (a : Nat)), o15, o16, some (kO o)] S1 = .ok (eT (((hh + 1 : Nat) : Int), (a : Int))) S1 := by
        simp only [eTup, eCall_d, aCons_d, aNil_d, eVar_d, List.getElem?_cons_succ, List.getElem?_cons_zero, R.bind_ok, gTupD, List.length_cons, List.length_nil, Nat.zero_add, z2, if_true]
        rfl
      have key : eMethK gCountK (eVar 17) (aCons (eTup (aCons (eVar 5) (aCons (eVar 14) (aNil)))) (aNil)) [some (eS st), some (.int (n : Nat)), some (.int (B : Nat)), some (.int (sp : Nat)), some (.new ((glU B n).map eT)), some (.int ((hh + 1 : Nat) : Int)), o6, o7, o8, some (kB b), o10, o11, o12, some (.bl (pre.any (overB st sp b))), some (.int (a : Nat)), o15, o16, some (kO o)] S1 = gCountK (kO o) [eT (((hh + 1 : Nat) : Int), (a : Int))] S1 := by
        have ea : aCons (eTup (aCons (eVar 5) (aCons (eVar 14) (aNil)))) (aNil) [some (eS st), some (.int (n : Nat)), some (.int (B : Nat)), some (.int (sp : Nat)), some (.new ((glU B n).map eT)), some (.int ((hh + 1 : Nat) : Int)), o6, o7, o8, some (kB b), o10, o11, o12, some (.bl (pre.any (overB st sp b))), some (.int (a : Nat)), o15, o16, some (kO o)] S1 = .ok [eT (((hh + 1 : Nat) : Int), (a : Int))] S1 := by
          rw [aCons_d, et]
          rfl
        unfold eMethK
        rw [eVar_d]
        show (aCons (eTup (aCons (eVar 5) (aCons (eVar 14) (aNil)))) (aNil) [some (eS st), some (.int (n : Nat)), some (.int (B : Nat)), some (.int (sp : Nat)), some (.new ((glU B n).map eT)), some (.int ((hh + 1 : Nat) : Int)), o6, o7, o8, some (kB b), o10, o11, o12, some (.bl (pre.any (overB st sp b))), some (.int (a : Nat)), o15, o16, some (kO o)] S1).bind (fun as S => gCountK (.ktp (o.map eT)) as S) = _
        rw [ea]
        rfl
      rw [key, ck]
    have sm := gSum_f b (fun o => ((o.count (((hh + 1 : Nat) : Int), (a : Int)) : Nat) : Int)) S1
    have es : (b.map fun o => ((o.count (((hh + 1 : Nat) : Int), (a : Int)) : Nat) : Int)).sum = ((tcB b (((hh + 1 : Nat) : Int), (a : Int)) : Nat) : Int) := by
      unfold tcB
      rw [← isum_nat, List.map_map]
      rfl
    rw [es] at sm
    rw [sSeq_d, sAsg_n (d := .int (tcB b (((hh + 1 : Nat) : Int), (a : Int)) : Nat)) (S' := S1) (by rw [eCall_d, aCons_d, eNew_d, c]; simp only [R.bind_ok, aNil_d, sm]), RS.next_nx]
    simp only [List.set_cons_succ, List.set_cons_zero]
    have bf : eIf (tBool (eOp gLt (eVar 5) (eCall gLen (aCons (eVar 0) (aNil))))) (eOp gIx (eOp gIx (eVar 0) (eVar 5)) (eVar 14)) (eC (.int 0)) [some (eS st), some (.int (n : Nat)), some (.int (B : Nat)), some (.int (sp : Nat)), some (.new ((glU B n).map eT)), some (.int ((hh + 1 : Nat) : Int)), o6, o7, o8, some (kB b), o10, o11, o12, some (.bl (pre.any (overB st sp b))), some (.int (a : Nat)), some (.int (tcB b (((hh + 1 : Nat) : Int), (a : Int)) : Nat)), o16, o17] S1 = .ok (.int (cellN st (hh + 1) a)) S1 := by
      have gl : gLen [eS st] S1 = .ok (.int st.length) S1 := by simp [eS]
      have t1 : tBool (eOp gLt (eVar 5) (eCall gLen (aCons (eVar 0) (aNil)))) [some (eS st), some (.int (n : Nat)), some (.int (B : Nat)), some (.int (sp : Nat)), some (.new ((glU B n).map eT)), some (.int ((hh + 1 : Nat) : Int)), o6, o7, o8, some (kB b), o10, o11, o12, some (.bl (pre.any (overB st sp b))), some (.int (a : Nat)), some (.int (tcB b (((hh + 1 : Nat) : Int), (a : Int)) : Nat)), o16, o17] S1 = .ok (decide (((hh + 1 : Nat) : Int) < (st.length : Int))) S1 := tB (eOpK (a := .int ((hh + 1 : Nat) : Int)) (b := .int st.length) (by rfl) (by simp only [sSeq_d, sAsg_d, sExpr_d, sRet_d, sIf_d, sNext_d, eCall_d, aCons_d, aNil_d, eVar_d, eC_d, eOp_d, eUn_d, eNew_d, aCall_d, aComp_d, eTup_d, tBool_d, tOrD_d, tAndD_d, tNotD_d, eIf_d, eAnd_d, eOr_d, eNot_d, List.getElem?_cons_succ, List.getElem?_cons_zero, List.set_cons_succ, List.set_cons_zero, List.length_cons, List.length_nil, Nat.zero_add, Nat.reduceAdd, R.bind_ok, R.bind_exc, R.st_ok, R.st_exc, RS.next_nx, RS.next_rt, RS.next_exc, gName_d, gSt_ok, fnG_d, toB_bl, if_true, Bool.not_true, Bool.not_false, Bool.false_eq_true, if_false, fnR_rt, fnR_exc, gc_exc, gl]) (by rw [gLt_i]))
      by_cases q : hh + 1 < st.length
      · rw [decide_eq_true (by omega)] at t1
        rw [eIf_d, t1]
        obtain ⟨c1, c2⟩ := cell_at hs.w q h2 S1
        simp only [R.bind_ok, if_true]
        exact eOpK (eOpK (a := eS st) (b := .int ((hh + 1 : Nat) : Int)) (by rfl) (by rfl) c1) (by rfl) c2
      · rw [decide_eq_false (by omega)] at t1
        rw [eIf_d, t1]
        have : cellN st (hh + 1) a = 0 := by
          unfold cellN
          rw [List.getElem?_eq_none (show st.length ≤ hh + 1 by omega)]
          rfl
        rw [this]
        rfl
    rw [sSeq_d, sAsg_n bf, RS.next_nx]
    simp only [List.set_cons_succ, List.set_cons_zero]
    have ov : overB st sp b (((hh + 1 : Nat) : Int), (a : Int)) = (decide (0 < ((tcB b (((hh + 1 : Nat) : Int), (a : Int)) : Nat) : Int)) && decide ((sp : Int) < ((tcB b (((hh + 1 : Nat) : Int), (a : Int)) : Nat) : Int) + cellN st (hh + 1) a)) := rfl
    have ea : (pre ++ [(((hh + 1 : Nat) : Int), (a : Int))]).any (overB st sp b) = (pre.any (overB st sp b) || overB st sp b (((hh + 1 : Nat) : Int), (a : Int))) := by simp
    refine Nx.of (sAsg_n (d := .bl ((pre ++ [(((hh + 1 : Nat) : Int), (a : Int))]).any (overB st sp b))) (S' := S1) ?_) ⟨_, _, _, _, _, rfl, rfl⟩
    rw [ea, ov]
    generalize pre.any (overB st sp b) = pb
    generalize hm : ((tcB b (((hh + 1 : Nat) : Int), (a : Int)) : Nat) : Int) = mo
    cases pb with
    | true => simp only [eOr_d, sSeq_d, sAsg_d, sExpr_d, sRet_d, sIf_d, sNext_d, eCall_d, aCons_d, aNil_d, eVar_d, eC_d, eOp_d, eUn_d, eNew_d, aCall_d, aComp_d, eTup_d, tBool_d, tOrD_d, tAndD_d, tNotD_d, eIf_d, eAnd_d, eOr_d, eNot_d, List.getElem?_cons_succ, List.getElem?_cons_zero, List.set_cons_succ, List.set_cons_zero, List.length_cons, List.length_nil, Nat.zero_add, Nat.reduceAdd, R.bind_ok, R.bind_exc, R.st_ok, R.st_exc, RS.next_nx, RS.next_rt, RS.next_exc, gName_d, gSt_ok, fnG_d, toB_bl, if_true, Bool.not_true, Bool.not_false, Bool.false_eq_true, if_false, fnR_rt, fnR_exc, gc_exc, Bool.true_or]
    | false =>
      simp only [eOr_d, eAnd_d, sSeq_d, sAsg_d, sExpr_d, sRet_d, sIf_d, sNext_d, eCall_d, aCons_d, aNil_d, eVar_d, eC_d, eOp_d, eUn_d, eNew_d, aCall_d, aComp_d, eTup_d, tBool_d, tOrD_d, tAndD_d, tNotD_d, eIf_d, eAnd_d, eOr_d, eNot_d, List.getElem?_cons_succ, List.getElem?_cons_zero, List.set_cons_succ, List.set_cons_zero, List.length_cons, List.length_nil, Nat.zero_add, Nat.reduceAdd, R.bind_ok, R.bind_exc, R.st_ok, R.st_exc, RS.next_nx, RS.next_rt, RS.next_exc, gName_d, gSt_ok, fnG_d, toB_bl, if_true, Bool.not_true, Bool.not_false, Bool.false_eq_true, if_false, fnR_rt, fnR_exc, gc_exc, gGt_i, gAdd_i, Bool.false_or]
      by_cases q1 : 0 < mo
      · simp [q1]
      · simp [q1]
  · rintro env S1 ⟨o5, o14, o15, o16, o17, rfl, rfl⟩
    exact ⟨_, _, _, _, _, rfl⟩
theorem law_beats_ok (hs : IsSt n st) (h1 : 1 ≤ n) (hn : n ≤ 6) (hB1 : 1 ≤ B) (hB : B ≤ 15) (hBn2 : B * n ≤ 100) (hBm : (B * n) ^ dSum st n ≤ 100000) (S : Sto) : G_law_beats [eS st, .int (n : Nat), .int (B : Nat), .int (sp : Nat)] S = .ok (.new ((chB st n B sp).map eB)) S := by
  rw [G_law_beats_eq, F_law_beats]
  have z0 : (0 : Nat) ≤ sLim := Nat.zero_le _
  have z1 : (1 : Nat) ≤ sLim := by rw [sLim_eq]; omega
  have hBn : 1 ≤ B * n := Nat.mul_pos hB1 h1
  have gl := glU_len B n
  have h4 : ∀ a, (cellN st 0 a).toNat ≤ 4 := fun a => by have := (hs.cell 0 a).2; omega
  have len : ∀ k, k ≤ n → (btA (glU B n) st k).length ≤ 100000 := fun k hk => Nat.le_trans (btA_len (B := B * n) (by omega) hBn st k) (Nat.le_trans (Nat.pow_le_pow_right hBn (dSum_mono st hk)) hBm)
  have hlm : ∀ a, a < n → (B * n) ^ (cellN st 0 a).toNat ≤ 100000 := fun a ha => Nat.le_trans (Nat.pow_le_pow_right hBn (dSum_at st ha)) hBm
  rw [sSeq_d, sAsg_n (d := .new []) (S' := S) (by simp only [eNew_d, aCall_d, aNil_d, R.bind_ok, gDisp_d, List.length_nil, z0, if_true]), RS.next_nx]
  simp only [List.set_cons_succ, List.set_cons_zero]
  rw [sSeq_d]
  generalize hR : (R.ok (D.new ((chB st n B sp).map eB)) S) = Rr
  generalize hK : (sSeq (sAsg (eNew (aCall gDisp (aCons (eTup (aNil)) (aNil)))) (gName 6))
  (sSeq (sFor (iRng1D (aCons (eVar 1) (aNil))) (gName 7)
  (sSeq (sAsg (eIf (tBool (eOp gNe (eVar 0) (eTup (aNil)))) (eOp gIx (eOp gIx (eVar 0) (eC (.int 0))) (eVar 7)) (eC (.int 0))) (gName 10))
  (sSeq (sAsg (eNew (aCall gDisp (aNil))) (gName 11))
  (sSeq (sFor (iSeq (eVar 6)) (gName 12)
  (sAsg (eOp gAdd (eVar 11) (eNew (aComp (cFor (iSeq (eCall (fnG 2 G_law_lots) (aCons (eVar 10) (aCons (eVar 4) (aNil))))) (gName 17) (tYesD) [17] (cElt (eOp gAdd (eVar 12) (eTup (aCons (eVar 17) (aNil))))))))) (gName 11)))
  (sAsg (eVar 11) (gName 6))))))
  (sSeq (sAsg (eNew (aCall gDisp (aNil))) (gName 8))
  (sSeq (sFor (iSeq (eVar 6)) (gName 9)
  (sSeq (sAsg (eC (.bl false)) (gName 13))
  (sSeq (sFor (iSeq (eVar 4)) (gTup 2 (gsCons (gName 5) (gsCons (gName 14) (gsNil))))
  (sSeq (sAsg (eCall gSum (aCons (eNew (aComp (cFor (iSeq (eVar 9)) (gName 17) (tYesD) [17] (cElt (eMethK gCountK (eVar 17) (aCons (eTup (aCons (eVar 5) (aCons (eVar 14) (aNil)))) (aNil))))))) (aNil))) (gName 15))
  (sSeq (sAsg (eIf (tBool (eOp gLt (eVar 5) (eCall gLen (aCons (eVar 0) (aNil))))) (eOp gIx (eOp gIx (eVar 0) (eVar 5)) (eVar 14)) (eC (.int 0))) (gName 16))
  (sAsg (eOr (eVar 13) (eAnd (eOp gGt (eVar 15) (eC (.int 0))) (eOp gGt (eOp gAdd (eVar 15) (eVar 16)) (eVar 3)))) (gName 13)))))
  (sAsg (eOp gAdd (eVar 8) (eIf (tBool (eVar 13)) (eNew (aCall gDisp (aNil))) (eNew (aCall gDisp (aCons (eVar 9) (aNil)))))) (gName 8)))))
  (sRet (eNew (aCall gSorted (aCons (eFgt (eVar 8)) (aNil)))))))) : CS) = KK
  refine goals_loop (st := st) (n := n) (B := B) (sp := sp) hB hn S none none none none none none none none none none none none (fun z => gc S (fnR z) = Rr) KK fun o5 o7 => ?_
  subst hK
  subst hR
  rw [sSeq_d, sAsg_n (d := .new ((btA (glU B n) st 0).map kB)) (S' := S) (by
    simp only [eNew_d, aCall_d, aCons_d, aNil_d, eTup, eCall_d, R.bind_ok, gTupD, List.length_nil, z0, if_true, gDisp_d, List.length_cons, Nat.zero_add, z1]
    rfl), RS.next_nx]
  simp only [List.set_cons_succ, List.set_cons_zero]
  have r1 : rng1 [.int (n : Nat)] S = .ok (.fix ((List.range n).map fun i : Nat => .int (i : Nat))) S := rng1_n n S (by omega)
  rw [sSeq_d, sFor_fix (ds := (List.range n).map fun i : Nat => .int (i : Nat)) (S1 := S) (by simp only [iRng1_d, sSeq_d, sAsg_d, sExpr_d, sRet_d, sIf_d, sNext_d, eCall_d, aCons_d, aNil_d, eVar_d, eC_d, eOp_d, eUn_d, eNew_d, aCall_d, aComp_d, eTup_d, tBool_d, tOrD_d, tAndD_d, tNotD_d, eIf_d, eAnd_d, eOr_d, eNot_d, List.getElem?_cons_succ, List.getElem?_cons_zero, List.set_cons_succ, List.set_cons_zero, List.length_cons, List.length_nil, Nat.zero_add, Nat.reduceAdd, R.bind_ok, R.bind_exc, R.st_ok, R.st_exc, RS.next_nx, RS.next_rt, RS.next_exc, gName_d, gSt_ok, fnG_d, toB_bl, if_true, Bool.not_true, Bool.not_false, Bool.false_eq_true, if_false, fnR_rt, fnR_exc, gc_exc, r1])]
  refine forL_preN (fun z => gc S (fnR z) = _) (fun i : Nat => .int (i : Nat)) (fun pre env S1 => ∃ o5 o7 o10 o11 o12 o17, S1 = S ∧ env = [some (eS st), some (.int (n : Nat)), some (.int (B : Nat)), some (.int (sp : Nat)), some (.new ((glU B n).map eT)), o5, some (.new ((btA (glU B n) st pre.length).map kB)), o7, none, none, o10, o11, o12, none, none, none, none, o17]) (List.range n) ⟨o5, o7, none, none, none, none, rfl, rfl⟩ ?_ ?_
  · rintro pre k post env S1 hx ⟨o5, o7, o10, o11, o12, o17, rfl, rfl⟩
    have hk : k = pre.length ∧ k < n := by
      have e : (List.range n)[pre.length]? = (pre ++ k :: post)[pre.length]? := by rw [← hx]
      have l := congrArg List.length hx
      simp at l
      rw [List.getElem?_range (by omega), List.getElem?_append_right (by omega), Nat.sub_self] at e
      simp at e
      omega
    obtain ⟨rfl, hk⟩ := hk
    refine ⟨[some (eS st), some (.int (n : Nat)), some (.int (B : Nat)), some (.int (sp : Nat)), some (.new ((glU B n).map eT)), o5, some (.new ((btA (glU B n) st pre.length).map kB)), some (.int (pre.length : Nat)), none, none, o10, o11, o12, none, none, none, none, o17], S1, by simp, ?_⟩
    obtain ⟨env, S2, e0, o10, o11, o12, o17, e1, e2⟩ := found_line (sp := sp) hs hn (by omega) h4 len hlm hBn hBn2 hk o5 none none o10 o11 o12 none none none none o17 S1
    subst e1
    subst e2
    exact ⟨_, _, e0, _, _, _, _, _, _, rfl, by rw [List.length_append]; rfl⟩
  rintro env S1 ⟨o5, o7, o10, o11, o12, o17, rfl, rfl⟩
  rw [List.length_range]
  rw [sSeq_d, sAsg_n (d := .new (([] : List Beat).map kB)) (S' := S1) (by simp only [eNew_d, aCall_d, aNil_d, R.bind_ok, gDisp_d, List.length_nil, z0, if_true]; rfl), RS.next_nx]
  simp only [List.set_cons_succ, List.set_cons_zero]
  rw [sSeq_d, sFor_fix (ds := (btA (glU B n) st n).map kB) (S1 := S1) (by rw [iSeq_d]; rfl)]
  refine forL_preN (fun z => gc S1 (fnR z) = _) kB (fun pre env S2 => ∃ o5 o9 o13 o14 o15 o16 o17, S2 = S1 ∧ env = [some (eS st), some (.int (n : Nat)), some (.int (B : Nat)), some (.int (sp : Nat)), some (.new ((glU B n).map eT)), o5, some (.new ((btA (glU B n) st n).map kB)), o7, some (.new ((pre.filter (goodB' (glU B n) st sp)).map kB)), o9, o10, o11, o12, o13, o14, o15, o16, o17]) (btA (glU B n) st n) ⟨o5, none, none, none, none, none, o17, rfl, rfl⟩ ?_ ?_
  · rintro pre b post env S2 hx ⟨o5, o9, o13, o14, o15, o16, o17, rfl, rfl⟩
    refine ⟨[some (eS st), some (.int (n : Nat)), some (.int (B : Nat)), some (.int (sp : Nat)), some (.new ((glU B n).map eT)), o5, some (.new ((btA (glU B n) st n).map kB)), o7, some (.new ((pre.filter (goodB' (glU B n) st sp)).map kB)), some (kB b), o10, o11, o12, o13, o14, o15, o16, o17], S2, by simp, ?_⟩
    have hb : b ∈ btA (glU B n) st n := mem_of_split hx
    have bl : b.length = n := (btA_iff.mp hb).1
    have ln := len n (Nat.le_refl _)
    have pl : pre.length < 100000 := by
      have := congrArg List.length hx
      rw [List.length_append, List.length_cons] at this
      omega
    rw [sSeq_d, sAsg_n (d := .bl false) (S' := S2) (by simp), RS.next_nx]
    simp only [List.set_cons_succ, List.set_cons_zero]
    rw [sSeq_d]
    obtain ⟨o5', o14, o15, o16, o17, e0⟩ := full_loop (sp := sp) hs hB (b := b) (by omega) (some (.new ((glU B n).map eT))) o5 (some (.new ((btA (glU B n) st n).map kB))) o7 (some (.new ((pre.filter (goodB' (glU B n) st sp)).map kB))) o10 o11 o12 o14 o15 o16 o17 rfl S2
    rw [e0, RS.next_nx]
    have fl := List.length_filter_le (goodB' (glU B n) st sp) pre
    have ec : (pre ++ [b]).filter (goodB' (glU B n) st sp) = pre.filter (goodB' (glU B n) st sp) ++ (if (glU B n).any (overB st sp b) = true then [] else [b]) := by
      have e1 : [b].filter (goodB' (glU B n) st sp) = if (glU B n).any (overB st sp b) = true then [] else [b] := by
        rw [List.filter_cons, List.filter_nil]
        have e2 : goodB' (glU B n) st sp b = !(glU B n).any (overB st sp b) := rfl
        rw [e2]
        generalize (glU B n).any (overB st sp b) = z
        cases z
        · rfl
        · rfl
      rw [List.filter_append, e1]
    refine Nx.of (sAsg_n (d := .new (((pre ++ [b]).filter (goodB' (glU B n) st sp)).map kB)) (S' := S2) ?_) ⟨_, _, _, _, _, _, _, rfl, rfl⟩
    refine eOpK (a := .new ((pre.filter (goodB' (glU B n) st sp)).map kB)) (b := .new ((if (glU B n).any (overB st sp b) = true then [] else [b]).map kB)) (by rfl) ?_ ?_
    · rw [eIf_d, tB (b := (glU B n).any (overB st sp b)) (by rfl)]
      cases (glU B n).any (overB st sp b) with
      | true => simp only [R.bind_ok, if_true, eNew_d, aCall_d, aNil_d, gDisp_d, List.length_nil, z0]; rfl
      | false => simp only [R.bind_ok, Bool.false_eq_true, if_false, eNew_d, aCall_d, aCons_d, aNil_d, eVar_d, List.getElem?_cons_succ, List.getElem?_cons_zero, gDisp_d, List.length_cons, List.length_nil, Nat.zero_add, z1, if_true]; rfl
    · rw [ec, gAdd_n, if_pos (by
        rw [sLim_eq]
        simp only [List.length_map]
        split
        · simp; omega
        · simp; omega), ← List.map_append]
  rintro env S2 ⟨o5, o9, o13, o14, o15, o16, o17, rfl, rfl⟩
  have ge := good_eq (most := B) (lines := n) (room := sp) (st := st)
  have ne : ∀ x ∈ (btA (glU B n) st n).filter (goodB' (glU B n) st sp), x ≠ [] := fun x hx e => by
    have := (btA_iff.mp (List.mem_filter.mp hx).1).1
    rw [e] at this
    simp at this
    omega
  have so := gSorted_B ne S2
  rw [ge] at so
  have ef : eFgt (eVar 8) [some (eS st), some (.int (n : Nat)), some (.int (B : Nat)), some (.int (sp : Nat)), some (.new ((glU B n).map eT)), o5, some (.new ((btA (glU B n) st n).map kB)), o7, some (.new (((btA (glU B n) st n).filter (goodB' (glU B n) st sp)).map kB)), o9, o10, o11, o12, o13, o14, o15, o16, o17] S2 = .ok (.new (((btA (glU B n) st n).filter (goodB' (glU B n) st sp)).map eB)) S2 := by
    rw [eFgt_v (d := .new (((btA (glU B n) st n).filter (goodB' (glU B n) st sp)).map kB)) rfl, fgt_kBs]
  rw [sRet_d, eNew_d, aCall_d, aCons_d, ef]
  simp only [R.bind_ok, aNil_d, so, R.st_ok, fnR_rt]
  refine gc_same (und_new fun d hd => ?_)
  obtain ⟨b, _, rfl⟩ := List.mem_map.mp hd
  exact und_eB _ b
end
end J

namespace J
open PySem PySem.Spec PyProof.Rows L2

theorem callN3 {env : Env} {S : Sto} {f g h u : CE} {a b c d : D} (hf : f env S = .ok a S) (hg : g env S = .ok b S) (hh : h env S = .ok c S) (hu : u env S = .ok d S) : eCallK 1 3 (fnG 4 G_next_beats) K_next_beats_lines_most_room (aCons f aNil) (aCons g (aCons h (aCons u aNil))) env S = G_next_beats [a, b, c, d] S := by
  simp [eCallK, hf, hg, hh, hu, K_next_beats_lines_most_room, pickL]
theorem callN {env : Env} {S : Sto} {f g h : CE} {a b c : D} (hf : f env S = .ok a S) (hg : g env S = .ok b S) (hh : h env S = .ok c S) : eCallK 1 2 (fnG 4 G_next_beats) K_next_beats_lines_most (aCons f aNil) (aCons g (aCons h aNil)) env S = G_next_beats [a, b, c, .int 1] S := by
  simp [eCallK, hf, hg, hh, K_next_beats_lines_most, pickL]
theorem callS {env : Env} {S S' : Sto} {f f2 g : CE} {a a2 b : D} (hf : f env S = .ok a S) (hf2 : f2 env S = .ok a2 S') (hg : g env S' = .ok b S') : eCallK 2 1 (fnG 3 G_step) K_step_lines (aCons f (aCons f2 aNil)) (aCons g aNil) env S = G_step [a, a2, b] S' := by
  simp [eCallK, hf, hf2, hg, K_step_lines, pickL]
theorem callG {env : Env} {S : Sto} {f g : CE} {a b : D} (hf : f env S = .ok a S) (hg : g env S = .ok b S) : eCallK 1 1 (fnG 2 G_ground) K_ground_lines (aCons f aNil) (aCons g aNil) env S = G_ground [a, b] S := by
  simp [eCallK, hf, hg, K_ground_lines, pickL]
theorem callB {env : Env} {S : Sto} {f g : CE} {a b : D} (hf : f env S = .ok a S) (hg : g env S = .ok b S) : eCallK 1 1 (fnG 2 G_balls_in) K_balls_in_lines (aCons f aNil) (aCons g aNil) env S = G_balls_in [a, b] S := by
  simp [eCallK, hf, hg, K_balls_in_lines, pickL]
/-! ### the ground, how many beats -/
theorem gr_sum : ∀ W : Fin 3, ∀ c : Fin 5, (1 ≤ (W : Nat)) → (grG W c).flatten.sum = (((c : Nat)) : Int) := by decide +kernel
theorem gr_gd {W c : Nat} (h1 : 1 ≤ W) (h2 : W ≤ 2) (h4 : c ≤ 4) : Gd W c (trim (grG W c)) := by
  have mem : ∀ r ∈ grG W c, r.length = W ∧ ∀ x ∈ r, 0 ≤ x ∧ x ≤ 4 := fun r hr => by
    unfold grG at hr
    obtain ⟨k, _, rfl⟩ := List.mem_map.mp hr
    refine ⟨by simp, fun x hx => ?_⟩
    obtain ⟨a, _, rfl⟩ := List.mem_map.mp hx
    split <;> omega
  refine ⟨⟨fun r hr => (mem r (trim_mem hr)).1, fun r hr x hx => ((mem r (trim_mem hr)).2 x hx).1, fun r hr x hx => ((mem r (trim_mem hr)).2 x hx).2, ?_, tr_trim _⟩, ?_⟩
  · have := trim_len (grG W c)
    have e : (grG W c).length = 15 := by simp [grG]
    omega
  · rw [flat_sum_trim]
    exact gr_sum ⟨W, by omega⟩ ⟨c, by omega⟩ h1
def mM : Nat → Nat
  | 0 => 1
  | 1 => 6
  | 2 => 21
  | 3 => 56
  | _ => 126
theorem lots_few : ∀ n : Fin 3, ∀ B : Fin 5, ∀ m : Fin 5, (1 ≤ (n : Nat)) → ((n : Nat) = 2 → (B : Nat) ≤ 3) → (lots (glU B n) m).length ≤ mM m := by decide +kernel
theorem mM_two : ∀ a b : Fin 5, (a : Nat) + (b : Nat) ≤ 4 → mM a * mM b ≤ 441 ∧ mM a ≤ 441 := by decide
theorem chB_few {n B sp N : Nat} {st : St} (h1 : 1 ≤ n) (h2 : n ≤ 2) (hB : B ≤ 4) (hB2 : n = 2 → B ≤ 3) (hN : N ≤ 4) (h : Gd n N st) : (chB st n B sp).length ≤ 441 := by
  have hd := dSum_le h.is h.sum
  have e : (chB st n B sp).length ≤ (btA (glU B n) st n).length := by
    rw [← good_eq, (srG_perm _).length_eq]
    exact List.length_filter_le _ _
  refine Nat.le_trans e ?_
  have few : ∀ a, (cellN st 0 a).toNat ≤ 4 → (lots (glU B n) (cellN st 0 a).toNat).length ≤ mM (cellN st 0 a).toNat := fun a ha => lots_few ⟨n, by omega⟩ ⟨B, by omega⟩ ⟨(cellN st 0 a).toNat, by omega⟩ h1 hB2
  have b1 : (btA (glU B n) st 1).length = (lots (glU B n) (cellN st 0 0).toNat).length := by
    show ((btA (glU B n) st 0).flatMap (btW (glU B n) st 0)).length = _
    simp [btA, btW]
  have hn : n = 1 ∨ n = 2 := by omega
  rcases hn with rfl | rfl
  · have e1 : dSum st 1 = (cellN st 0 0).toNat := by unfold dSum; rw [sm_succ]; simp [sm]
    rw [e1] at hd
    rw [b1]
    exact Nat.le_trans (few 0 (by omega)) (mM_two ⟨(cellN st 0 0).toNat, by omega⟩ ⟨0, by omega⟩ (by show (cellN st 0 0).toNat + 0 ≤ 4; omega)).2
  · have e1 : dSum st 2 = (cellN st 0 0).toNat + (cellN st 0 1).toNat := by unfold dSum; rw [sm_succ, sm_succ]; simp [sm]
    rw [e1] at hd
    have b2 : (btA (glU B 2) st 2).length ≤ (btA (glU B 2) st 1).length * (lots (glU B 2) (cellN st 0 1).toNat).length := flat_le (k := (lots (glU B 2) (cellN st 0 1).toNat).length) (f := btW (glU B 2) st 1) (xs := btA (glU B 2) st 1) fun row => by
      unfold btW
      rw [List.length_map]
      exact Nat.le_refl _
    refine Nat.le_trans b2 ?_
    rw [b1]
    exact Nat.le_trans (Nat.mul_le_mul (few 0 (by omega)) (few 1 (by omega))) (mM_two ⟨(cellN st 0 0).toNat, by omega⟩ ⟨(cellN st 0 1).toNat, by omega⟩ (by show (cellN st 0 0).toNat + (cellN st 0 1).toNat ≤ 4; omega)).1
/-! ### the law -/
noncomputable abbrev tuB : CS := sSeq (sAsg (eCallK 1 3 (fnG 4 G_next_beats) K_next_beats_lines_most_room (aCons (eVar 5) (aNil)) (aCons (eVar 2) (aCons (eVar 7) (aCons (eVar 8) (aNil))))) (gName 9))
  (sSeq (sIf (tBool (eOp gNe (eVar 9) (eCall (fnG 4 G_law_beats) (aCons (eVar 5) (aCons (eVar 2) (aCons (eVar 7) (aCons (eVar 8) (aNil))))))))
  (sRet (eC (.bl false)))
  (sNext))
  (sSeq (sIf (tAndD (tBool (eOp gEq (eVar 8) (eC (.int 1)))) (tBool (eOp gNe (eCallK 1 2 (fnG 4 G_next_beats) K_next_beats_lines_most (aCons (eVar 5) (aNil)) (aCons (eVar 2) (aCons (eVar 7) (aNil)))) (eVar 9))))
  (sRet (eC (.bl false)))
  (sNext))
  (sSeq (sIf (tBool (eOp gEq (eVar 9) (eNew (aCall gDisp (aNil)))))
  (sRet (eC (.bl true)))
  (sNext))
  (sSeq (sAsg (eCall (fnG 2 G_law_pick) (aCons (eVar 1) (aCons (eVar 9) (aNil)))) (gName 10))
  (sSeq (sAsg (eCallK 2 1 (fnG 3 G_step) K_step_lines (aCons (eVar 5) (aCons (eVar 10) (aNil))) (aCons (eVar 2) (aNil))) (gName 5))
  (sIf (tBool (eOp gNe (eCallK 1 1 (fnG 2 G_balls_in) K_balls_in_lines (aCons (eVar 5) (aNil)) (aCons (eVar 2) (aNil))) (eVar 3)))
  (sRet (eC (.bl false)))
  (sNext)))))))
theorem ne_Bs (xs : List Beat) (S : Sto) : gNe (.new (xs.map eB)) (.new (xs.map eB)) S = .ok (.bl false) S := gNe_self _ (pl_new fun x hx => by obtain ⟨b, _, rfl⟩ := List.mem_map.mp hx; exact pl_eB b) (Nat.le_trans (dep_new (k := 10) fun x hx => by obtain ⟨b, _, rfl⟩ := List.mem_map.mp hx; exact Nat.le_trans (dep_eB b) (by omega)) (by omega))
theorem turn_ok {W c B sp : Nat} (hW1 : 1 ≤ W) (hW2 : W ≤ 2) (hc : c ≤ 4) (hB1 : 1 ≤ B) (hB : B ≤ 4) (hB2 : W = 2 → B ≤ 3) (hsp1 : 1 ≤ sp) (hsp : sp ≤ 2) (w : Tw) (d0 : D) {st : St} (h : Gd W c st) (o6 o9 o10 o11 o12 : Option D) :
    NR (fun env S1 => ∃ w st o6 o9 o10 o11 o12, Gd W c st ∧ S1 = TS w [] ∧ env = [some d0, some (.ref 1), some (.int (W : Nat)), some (.int (c : Nat)), some (.new ((grG W c).map fun r => .new (r.map .int))), some (eS st), o6, some (.int (B : Nat)), some (.int (sp : Nat)), o9, o10, o11, o12]) (fun d S1 => d = .bl true ∧ ∃ w, S1 = TS w []) (tuB [some d0, some (.ref 1), some (.int (W : Nat)), some (.int (c : Nat)), some (.new ((grG W c).map fun r => .new (r.map .int))), some (eS st), o6, some (.int (B : Nat)), some (.int (sp : Nat)), o9, o10, o11, o12] (TS w [])) := by
  have hBW : B * W ≤ 6 := by
    have : W = 1 ∨ W = 2 := by omega
    rcases this with rfl | rfl
    · omega
    · have := hB2 rfl; omega
  have hBW1 : 1 ≤ B * W := Nat.mul_pos hB1 hW1
  have pw : ∀ N, N ≤ 4 → 6 ^ N ≤ 100000 := fun N hN => Nat.le_trans (Nat.pow_le_pow_right (by omega) hN) (by decide)
  have nb := next_beats_ok (n := W) (N := c) (most := B) (room := sp) (B := 6) hW1 (by omega) hB1 (by omega) hsp1 (by omega) hBW (by omega) (pw c hc) h (TS w [])
  have nb1 := next_beats_ok (n := W) (N := c) (most := B) (room := 1) (B := 6) hW1 (by omega) hB1 (by omega) (by omega) (by omega) hBW (by omega) (pw c hc) h (TS w [])
  have lb := law_beats_ok (sp := sp) h.is hW1 (by omega) hB1 (by omega) (by omega) (Nat.le_trans (Nat.pow_le_pow_left hBW _) (pw _ (Nat.le_trans (dSum_le h.is h.sum) hc))) (TS w [])
  unfold tuB
  rw [sSeq_d, sAsg_n (d := .new ((chB st W B sp).map eB)) (S' := TS w []) (by rw [callN3 (a := eS st) (b := .int (W : Nat)) (c := .int (B : Nat)) (d := .int (sp : Nat)) (by rfl) (by rfl) (by rfl) (by rfl)]; exact nb), RS.next_nx]
  simp only [List.set_cons_succ, List.set_cons_zero]
  have n1 := ne_Bs (chB st W B sp) (TS w [])
  rw [sSeq_d, sIf_no (tB (eOpK (a := .new ((chB st W B sp).map eB)) (b := .new ((chB st W B sp).map eB)) (by rfl) (by simp only [sSeq_d, sAsg_d, sExpr_d, sRet_d, sIf_d, sNext_d, eCall_d, aCons_d, aNil_d, eVar_d, eC_d, eOp_d, eUn_d, eNew_d, aCall_d, aComp_d, eTup_d, tBool_d, tOrD_d, tAndD_d, tNotD_d, eIf_d, eAnd_d, eOr_d, eNot_d, List.getElem?_cons_succ, List.getElem?_cons_zero, List.set_cons_succ, List.set_cons_zero, List.length_cons, List.length_nil, Nat.zero_add, Nat.reduceAdd, R.bind_ok, R.bind_exc, R.st_ok, R.st_exc, RS.next_nx, RS.next_rt, RS.next_exc, gName_d, gSt_ok, fnG_d, toB_bl, if_true, Bool.not_true, Bool.not_false, Bool.false_eq_true, if_false, fnR_rt, fnR_exc, gc_exc, lb]) n1)), RS.next_nx]
  have c1 : tAndD (tBool (eOp gEq (eVar 8) (eC (.int 1)))) (tBool (eOp gNe (eCallK 1 2 (fnG 4 G_next_beats) K_next_beats_lines_most (aCons (eVar 5) (aNil)) (aCons (eVar 2) (aCons (eVar 7) (aNil)))) (eVar 9))) [some d0, some (.ref 1), some (.int (W : Nat)), some (.int (c : Nat)), some (.new ((grG W c).map fun r => .new (r.map .int))), some (eS st), o6, some (.int (B : Nat)), some (.int (sp : Nat)), some (.new ((chB st W B sp).map eB)), o10, o11, o12] (TS w []) = .ok false (TS w []) := by
    by_cases q : sp = 1
    · subst q
      refine tAnd_tf (tB (eOpK (a := .int ((1 : Nat) : Int)) (b := .int 1) (by rfl) (by rfl) (by simp))) (tB (eOpK (a := .new ((chB st W B 1).map eB)) (b := .new ((chB st W B 1).map eB)) ?_ (by rfl) n1))
      rw [callN (a := eS st) (b := .int (W : Nat)) (c := .int (B : Nat)) (by rfl) (by rfl) (by rfl)]
      exact nb1
    · exact tAnd_f (tB (eOpK (a := .int (sp : Nat)) (b := .int 1) (by rfl) (by rfl) (by rw [gEq_i, decide_eq_false (by omega)])))
  rw [sSeq_d, sIf_no c1, RS.next_nx]
  have z0 : (0 : Nat) ≤ sLim := Nat.zero_le _
  have em : eNew (aCall gDisp (aNil)) [some d0, some (.ref 1), some (.int (W : Nat)), some (.int (c : Nat)), some (.new ((grG W c).map fun r => .new (r.map .int))), some (eS st), o6, some (.int (B : Nat)), some (.int (sp : Nat)), some (.new ((chB st W B sp).map eB)), o10, o11, o12] (TS w []) = .ok (.new []) (TS w []) := by simp only [eNew_d, aCall_d, aNil_d, R.bind_ok, gDisp_d, List.length_nil, z0, if_true]
  have ge : gEq (.new ((chB st W B sp).map eB)) (.new []) (TS w []) = .ok (.bl (decide (chB st W B sp = []))) (TS w []) := gEq_pl _ (pl_new fun x hx => by obtain ⟨b, _, rfl⟩ := List.mem_map.mp hx; exact pl_eB b) (by simp [D.pl, D.pls]) (Nat.le_trans (dep_new (k := 10) fun x hx => by obtain ⟨b, _, rfl⟩ := List.mem_map.mp hx; exact Nat.le_trans (dep_eB b) (by omega)) (by omega)) (by simp [D.dep, D.deps]) (by
    rw [decide_eq_true_eq]
    constructor
    · intro e; rw [e]; rfl
    · intro e
      cases hq : chB st W B sp with
      | nil => rfl
      | cons a r => rw [hq] at e; simp at e)
  by_cases q : chB st W B sp = []
  · rw [decide_eq_true q] at ge
    rw [sSeq_d, sIf_yes (tB (eOpK (a := .new ((chB st W B sp).map eB)) (b := .new []) (by rfl) em ge))]
    exact NR.rt (d := .bl true) (S := TS w []) (by simp) ⟨rfl, w, rfl⟩
  rw [decide_eq_false q] at ge
  rw [sSeq_d, sIf_no (tB (eOpK (a := .new ((chB st W B sp).map eB)) (b := .new []) (by rfl) em ge)), RS.next_nx]
  have few := chB_few (sp := sp) hW1 hW2 hB hB2 hc h
  obtain ⟨b, w1, hb, pk⟩ := pick_ok w [] eB (fun x m => und_eB m x) (chB st W B sp) q (by omega)
  rw [sSeq_d, sAsg_n (d := eB b) (S' := TS w1 []) (by simp only [sSeq_d, sAsg_d, sExpr_d, sRet_d, sIf_d, sNext_d, eCall_d, aCons_d, aNil_d, eVar_d, eC_d, eOp_d, eUn_d, eNew_d, aCall_d, aComp_d, eTup_d, tBool_d, tOrD_d, tAndD_d, tNotD_d, eIf_d, eAnd_d, eOr_d, eNot_d, List.getElem?_cons_succ, List.getElem?_cons_zero, List.set_cons_succ, List.set_cons_zero, List.length_cons, List.length_nil, Nat.zero_add, Nat.reduceAdd, R.bind_ok, R.bind_exc, R.st_ok, R.st_exc, RS.next_nx, RS.next_rt, RS.next_exc, gName_d, gSt_ok, fnG_d, toB_bl, if_true, Bool.not_true, Bool.not_false, Bool.false_eq_true, if_false, fnR_rt, fnR_exc, gc_exc, pk]), RS.next_nx]
  simp only [List.set_cons_succ, List.set_cons_zero]
  have g2 := h.nxt (by omega) (by omega) (by omega) hb
  have sp1 : G_step [eS st, eB b, .int (W : Nat)] (TS w1 []) = .ok (eS (nxt W st b)) (TS w1 []) := by
    refine step_cps h.is hW1 (by omega) (chB_ok (by omega) (by omega) h.is hb) (TS w1 []) (fun z => z = .ok (eS (nxt W st b)) (TS w1 [])) (fun a e => ?_) (fun _ k a e => ?_) (fun _ _ => rfl)
    · rw [chB_cl1 h.is hb] at e; cases e
    · rw [chB_cl2 (by omega) (by omega) (by omega) h.is hb] at e; cases e
  rw [sSeq_d, sAsg_n (d := eS (nxt W st b)) (S' := TS w1 []) (by rw [callS (a := eS st) (a2 := eB b) (b := .int (W : Nat)) (S' := TS w1 []) (by rfl) (by rfl) (by rfl)]; exact sp1), RS.next_nx]
  simp only [List.set_cons_succ, List.set_cons_zero]
  have bl := balls_in_ok g2.is hW1 (by omega) (TS w1 [])
  rw [g2.sum] at bl
  refine NR.nx (sIf_no (tB (eOpK (a := .int (c : Nat)) (b := .int (c : Nat)) ?_ (by rfl) (by simp)))) ⟨w1, nxt W st b, _, _, _, _, _, g2, rfl, rfl⟩
  rw [callB (a := eS (nxt W st b)) (b := .int (W : Nat)) (by rfl) (by rfl)]
  exact bl
theorem main (ns : List Int) (hns : ns.length ≤ 63) : ∃ S, G_law [.scr (ns.map .int)] [] = .ok (.bl true) S := by
  refine ⟨[], ?_⟩
  rw [G_law_eq, F_law]
  obtain ⟨w0, ht⟩ := town_ok ns
  obtain ⟨v, w1, v0, v1, hd1⟩ := draw_ok w0 [] 2 (by omega) (by omega)
  obtain ⟨dw, rfl⟩ : ∃ a : Nat, v = (a : Int) := ⟨v.toNat, by omega⟩
  obtain ⟨v, w2, v2, v3, hd2⟩ := draw_ok w1 [] 5 (by omega) (by omega)
  obtain ⟨c, rfl⟩ : ∃ a : Nat, v = (a : Int) := ⟨v.toNat, by omega⟩
  obtain ⟨W, hW⟩ : ∃ W, W = 1 + dw := ⟨_, rfl⟩
  obtain ⟨v, w3, v4, v5, hd3⟩ := draw_ok w2 [] (if W = 1 then 4 else 3) (by split <;> omega) (by split <;> omega)
  obtain ⟨db, rfl⟩ : ∃ a : Nat, v = (a : Int) := ⟨v.toNat, by omega⟩
  obtain ⟨B, hBe⟩ : ∃ B, B = 1 + db := ⟨_, rfl⟩
  obtain ⟨v, w4, v6, v7, hd4⟩ := draw_ok w3 [] 2 (by omega) (by omega)
  obtain ⟨ds, rfl⟩ : ∃ a : Nat, v = (a : Int) := ⟨v.toNat, by omega⟩
  obtain ⟨sp, hsp⟩ : ∃ sp, sp = 1 + ds := ⟨_, rfl⟩
  have hB : B ≤ 4 := by split at v5 <;> omega
  have hB2 : W = 2 → B ≤ 3 := fun e => by rw [if_neg (by omega)] at v5; omega
  generalize hd0 : D.scr (ns.map .int) = d0 at *
  have g1 : gAdd (.int 1) (.int (dw : Nat)) (TS w1 []) = .ok (.int (W : Nat)) (TS w1 []) := by
    have : ((W : Nat) : Int) = 1 + (dw : Int) := by omega
    rw [this]; simp
  have g3 : gAdd (.int 1) (.int (db : Nat)) (TS w3 []) = .ok (.int (B : Nat)) (TS w3 []) := by
    have : ((B : Nat) : Int) = 1 + (db : Int) := by omega
    rw [this]; simp
  have g4 : gAdd (.int 1) (.int (ds : Nat)) (TS w4 []) = .ok (.int (sp : Nat)) (TS w4 []) := by
    have : ((sp : Nat) : Int) = 1 + (ds : Int) := by omega
    rw [this]; simp
  rw [sSeq_d, sAsg_n (d := .ref 1) (S' := TS w0 []) (by simp [ht]), RS.next_nx]
  simp only [List.set_cons_succ, List.set_cons_zero]
  rw [sSeq_d, sAsg_n (d := .int (W : Nat)) (S' := TS w1 []) (by simp only [sSeq_d, sAsg_d, sExpr_d, sRet_d, sIf_d, sNext_d, eCall_d, aCons_d, aNil_d, eVar_d, eC_d, eOp_d, eUn_d, eNew_d, aCall_d, aComp_d, eTup_d, tBool_d, tOrD_d, tAndD_d, tNotD_d, eIf_d, eAnd_d, eOr_d, eNot_d, List.getElem?_cons_succ, List.getElem?_cons_zero, List.set_cons_succ, List.set_cons_zero, List.length_cons, List.length_nil, Nat.zero_add, Nat.reduceAdd, R.bind_ok, R.bind_exc, R.st_ok, R.st_exc, RS.next_nx, RS.next_rt, RS.next_exc, gName_d, gSt_ok, fnG_d, toB_bl, if_true, Bool.not_true, Bool.not_false, Bool.false_eq_true, if_false, fnR_rt, fnR_exc, gc_exc, hd1, g1]), RS.next_nx]
  simp only [List.set_cons_succ, List.set_cons_zero]
  rw [sSeq_d, sAsg_n (d := .int (c : Nat)) (S' := TS w2 []) (by simp only [sSeq_d, sAsg_d, sExpr_d, sRet_d, sIf_d, sNext_d, eCall_d, aCons_d, aNil_d, eVar_d, eC_d, eOp_d, eUn_d, eNew_d, aCall_d, aComp_d, eTup_d, tBool_d, tOrD_d, tAndD_d, tNotD_d, eIf_d, eAnd_d, eOr_d, eNot_d, List.getElem?_cons_succ, List.getElem?_cons_zero, List.set_cons_succ, List.set_cons_zero, List.length_cons, List.length_nil, Nat.zero_add, Nat.reduceAdd, R.bind_ok, R.bind_exc, R.st_ok, R.st_exc, RS.next_nx, RS.next_rt, RS.next_exc, gName_d, gSt_ok, fnG_d, toB_bl, if_true, Bool.not_true, Bool.not_false, Bool.false_eq_true, if_false, fnR_rt, fnR_exc, gc_exc, hd2]), RS.next_nx]
  simp only [List.set_cons_succ, List.set_cons_zero]
  have ei : eIf (tBool (eOp gEq (eVar 2) (eC (.int 1)))) (eC (.int 4)) (eC (.int 3)) [some d0, some (.ref 1), some (.int (W : Nat)), some (.int (c : Nat)), none, none, none, none, none, none, none, none, none] (TS w2 []) = .ok (.int (if W = 1 then 4 else 3)) (TS w2 []) := by
    by_cases q : W = 1
    · subst q; rfl
    · have : decide ((W : Int) = 1) = false := decide_eq_false (by omega)
      rw [if_neg q]
      simp only [sSeq_d, sAsg_d, sExpr_d, sRet_d, sIf_d, sNext_d, eCall_d, aCons_d, aNil_d, eVar_d, eC_d, eOp_d, eUn_d, eNew_d, aCall_d, aComp_d, eTup_d, tBool_d, tOrD_d, tAndD_d, tNotD_d, eIf_d, eAnd_d, eOr_d, eNot_d, List.getElem?_cons_succ, List.getElem?_cons_zero, List.set_cons_succ, List.set_cons_zero, List.length_cons, List.length_nil, Nat.zero_add, Nat.reduceAdd, R.bind_ok, R.bind_exc, R.st_ok, R.st_exc, RS.next_nx, RS.next_rt, RS.next_exc, gName_d, gSt_ok, fnG_d, toB_bl, if_true, Bool.not_true, Bool.not_false, Bool.false_eq_true, if_false, fnR_rt, fnR_exc, gc_exc, gEq_i, this]
  have pa : sPar 7 8 (aCons (eOp gAdd (eC (.int 1)) (eCall (fnG 2 G_law_draw) (aCons (eVar 1) (aCons (eIf (tBool (eOp gEq (eVar 2) (eC (.int 1)))) (eC (.int 4)) (eC (.int 3))) (aNil))))) (aCons (eOp gAdd (eC (.int 1)) (eCall (fnG 2 G_law_draw) (aCons (eVar 1) (aCons (eC (.int 2)) (aNil))))) (aNil))) [some d0, some (.ref 1), some (.int (W : Nat)), some (.int (c : Nat)), none, none, none, none, none, none, none, none, none] (TS w2 []) = .nx [some d0, some (.ref 1), some (.int (W : Nat)), some (.int (c : Nat)), none, none, none, some (.int (B : Nat)), some (.int (sp : Nat)), none, none, none, none] (TS w4 []) := by
    have e1 : eCall (fnG 2 G_law_draw) (aCons (eVar 1) (aCons (eIf (tBool (eOp gEq (eVar 2) (eC (.int 1)))) (eC (.int 4)) (eC (.int 3))) (aNil))) [some d0, some (.ref 1), some (.int (W : Nat)), some (.int (c : Nat)), none, none, none, none, none, none, none, none, none] (TS w2 []) = .ok (.int (db : Nat)) (TS w3 []) := by
      rw [eCall_d, aCons_d, eVar_d]
      simp only [List.getElem?_cons_succ, List.getElem?_cons_zero, R.bind_ok]
      rw [aCons_d, ei]
      simp only [R.bind_ok, aNil_d]
      exact hd3
    rw [sPar_d, aCons_d, eOp_d, eC_d]
    simp only [R.bind_ok, e1, g3]
    simp only [sSeq_d, sAsg_d, sExpr_d, sRet_d, sIf_d, sNext_d, eCall_d, aCons_d, aNil_d, eVar_d, eC_d, eOp_d, eUn_d, eNew_d, aCall_d, aComp_d, eTup_d, tBool_d, tOrD_d, tAndD_d, tNotD_d, eIf_d, eAnd_d, eOr_d, eNot_d, List.getElem?_cons_succ, List.getElem?_cons_zero, List.set_cons_succ, List.set_cons_zero, List.length_cons, List.length_nil, Nat.zero_add, Nat.reduceAdd, R.bind_ok, R.bind_exc, R.st_ok, R.st_exc, RS.next_nx, RS.next_rt, RS.next_exc, gName_d, gSt_ok, fnG_d, toB_bl, if_true, Bool.not_true, Bool.not_false, Bool.false_eq_true, if_false, fnR_rt, fnR_exc, gc_exc, hd4, g4]
  rw [sSeq_d, pa, RS.next_nx]
  have r15 : rng1 [.int 15] (TS w4 []) = .ok (.fix ((List.range 15).map fun i : Nat => .int (i : Nat))) (TS w4 []) := by simpa using rng1_n 15 (TS w4 []) (by omega)
  have rW : rng1 [.int (W : Nat)] (TS w4 []) = .ok (.fix ((List.range W).map fun i : Nat => .int (i : Nat))) (TS w4 []) := rng1_n W (TS w4 []) (by omega)
  have du : aComp (cFor (iRng1D (aCons (eC (.int 15)) (aNil))) (gName 11) (tYesD) [11] (cElt (eNew (aComp (cFor (iRng1D (aCons (eVar 2) (aNil))) (gName 12) (tYesD) [12] (cElt (eIf (tBool (eOp gLt (eOp gAdd (eOp gMul (eVar 11) (eVar 2)) (eVar 12)) (eVar 3))) (eC (.int 1)) (eC (.int 0))))))))) [some d0, some (.ref 1), some (.int (W : Nat)), some (.int (c : Nat)), none, none, none, some (.int (B : Nat)), some (.int (sp : Nat)), none, none, none, none] (TS w4 []) = .ok ((grG W c).map fun r => .new (r.map .int)) (TS w4 []) := by
    have e : ((grG W c).map fun r => D.new (r.map .int)) = (List.range 15).map fun k => .new (((List.range W).map fun a => if k * W + a < c then (1 : Int) else 0).map .int) := by unfold grG; rw [List.map_map]; rfl
    rw [e]
    refine comp_map (S1 := TS w4 []) (fun k : Nat => .int (k : Nat)) (fun k : Nat => .new (((List.range W).map fun a => if k * W + a < c then (1 : Int) else 0).map .int)) (List.range 15) (by simp only [iRng1_d, sSeq_d, sAsg_d, sExpr_d, sRet_d, sIf_d, sNext_d, eCall_d, aCons_d, aNil_d, eVar_d, eC_d, eOp_d, eUn_d, eNew_d, aCall_d, aComp_d, eTup_d, tBool_d, tOrD_d, tAndD_d, tNotD_d, eIf_d, eAnd_d, eOr_d, eNot_d, List.getElem?_cons_succ, List.getElem?_cons_zero, List.set_cons_succ, List.set_cons_zero, List.length_cons, List.length_nil, Nat.zero_add, Nat.reduceAdd, R.bind_ok, R.bind_exc, R.st_ok, R.st_exc, RS.next_nx, RS.next_rt, RS.next_exc, gName_d, gSt_ok, fnG_d, toB_bl, if_true, Bool.not_true, Bool.not_false, Bool.false_eq_true, if_false, fnR_rt, fnR_exc, gc_exc, r15]) (by rw [sLim_eq]; simp) fun k hk => ?_
    refine ⟨[some d0, some (.ref 1), some (.int (W : Nat)), some (.int (c : Nat)), none, none, none, some (.int (B : Nat)), some (.int (sp : Nat)), none, none, some (.int (k : Nat)), none], by simp [wipeE], ?_⟩
    have ci : aComp (cFor (iRng1D (aCons (eVar 2) (aNil))) (gName 12) (tYesD) [12] (cElt (eIf (tBool (eOp gLt (eOp gAdd (eOp gMul (eVar 11) (eVar 2)) (eVar 12)) (eVar 3))) (eC (.int 1)) (eC (.int 0))))) [some d0, some (.ref 1), some (.int (W : Nat)), some (.int (c : Nat)), none, none, none, some (.int (B : Nat)), some (.int (sp : Nat)), none, none, some (.int (k : Nat)), none] (TS w4 []) = .ok ((List.range W).map fun a => .int (if k * W + a < c then (1 : Int) else 0)) (TS w4 []) := by
      refine comp_map (S1 := TS w4 []) (fun a : Nat => .int (a : Nat)) (fun a : Nat => .int (if k * W + a < c then (1 : Int) else 0)) (List.range W) (by simp only [iRng1_d, sSeq_d, sAsg_d, sExpr_d, sRet_d, sIf_d, sNext_d, eCall_d, aCons_d, aNil_d, eVar_d, eC_d, eOp_d, eUn_d, eNew_d, aCall_d, aComp_d, eTup_d, tBool_d, tOrD_d, tAndD_d, tNotD_d, eIf_d, eAnd_d, eOr_d, eNot_d, List.getElem?_cons_succ, List.getElem?_cons_zero, List.set_cons_succ, List.set_cons_zero, List.length_cons, List.length_nil, Nat.zero_add, Nat.reduceAdd, R.bind_ok, R.bind_exc, R.st_ok, R.st_exc, RS.next_nx, RS.next_rt, RS.next_exc, gName_d, gSt_ok, fnG_d, toB_bl, if_true, Bool.not_true, Bool.not_false, Bool.false_eq_true, if_false, fnR_rt, fnR_exc, gc_exc, rW]) (by rw [sLim_eq]; simp; omega) fun a _ => ?_
      refine ⟨[some d0, some (.ref 1), some (.int (W : Nat)), some (.int (c : Nat)), none, none, none, some (.int (B : Nat)), some (.int (sp : Nat)), none, none, some (.int (k : Nat)), some (.int (a : Nat))], by simp [wipeE], ?_⟩
      have m1 : gMul (.int (k : Nat)) (.int (W : Nat)) (TS w4 []) = .ok (.int ((k * W : Nat) : Int)) (TS w4 []) := by
        rw [gMul_r _ _ _ (by omega)]
        simp
      have m2 : gAdd (.int ((k * W : Nat) : Int)) (.int (a : Nat)) (TS w4 []) = .ok (.int ((k * W + a : Nat) : Int)) (TS w4 []) := by simp
      have m3 : gLt (.int ((k * W + a : Nat) : Int)) (.int (c : Nat)) (TS w4 []) = .ok (.bl (decide (k * W + a < c))) (TS w4 []) := by
        have e : decide (((k * W + a : Nat) : Int) < (c : Int)) = decide (k * W + a < c) := decide_eq_decide.mpr (by omega)
        rw [gLt_i, e]
      rw [eIf_d, tB (b := decide (k * W + a < c)) (eOpK (eOpK (eOpK (by rfl) (by rfl) m1) (by rfl) m2) (by rfl) m3)]
      by_cases q : k * W + a < c
      · simp [q]
      · simp [q]
    rw [eNew_d, ci]
    simp [List.map_map, Function.comp_def]
  rw [sSeq_d, sAsg_n (d := .new ((grG W c).map fun r => .new (r.map .int))) (S' := TS w4 []) (by rw [eNew_d, du]; rfl), RS.next_nx]
  simp only [List.set_cons_succ, List.set_cons_zero]
  have gr := ground_ok (n := W) (by omega) (by omega) (balls := c) (by omega) (TS w4 [])
  have lst := law_state_ok (S := TS w4 []) (g := grG W c) RowsOf.data (by simp [grG]) (fun r hr => by
    unfold grG at hr
    obtain ⟨k, _, rfl⟩ := List.mem_map.mp hr
    refine ⟨by simp; omega, fun x hx => ?_⟩
    obtain ⟨a, _, rfl⟩ := List.mem_map.mp hx
    split <;> omega)
  have ns : gNe (eS (trim (grG W c))) (eS (trim (grG W c))) (TS w4 []) = .ok (.bl false) (TS w4 []) := gNe_self _ (pl_eS _) (Nat.le_trans (dep_eS _) (by omega))
  have cg := callG (S := TS w4 []) (env := [some d0, some (.ref 1), some (.int (W : Nat)), some (.int (c : Nat)), some (.new ((grG W c).map fun r => .new (r.map .int))), none, none, some (.int (B : Nat)), some (.int (sp : Nat)), none, none, none, none]) (f := eVar 3) (g := eVar 2) (a := .int (c : Nat)) (b := .int (W : Nat)) (by rfl) (by rfl)
  rw [gr] at cg
  rw [sSeq_d, sIf_no (tB (eOpK (a := eS (trim (grG W c))) (b := eS (trim (grG W c))) cg (by simp only [sSeq_d, sAsg_d, sExpr_d, sRet_d, sIf_d, sNext_d, eCall_d, aCons_d, aNil_d, eVar_d, eC_d, eOp_d, eUn_d, eNew_d, aCall_d, aComp_d, eTup_d, tBool_d, tOrD_d, tAndD_d, tNotD_d, eIf_d, eAnd_d, eOr_d, eNot_d, List.getElem?_cons_succ, List.getElem?_cons_zero, List.set_cons_succ, List.set_cons_zero, List.length_cons, List.length_nil, Nat.zero_add, Nat.reduceAdd, R.bind_ok, R.bind_exc, R.st_ok, R.st_exc, RS.next_nx, RS.next_rt, RS.next_exc, gName_d, gSt_ok, fnG_d, toB_bl, if_true, Bool.not_true, Bool.not_false, Bool.false_eq_true, if_false, fnR_rt, fnR_exc, gc_exc, lst]) ns)), RS.next_nx]
  rw [sSeq_d, sAsg_n (d := eS (trim (grG W c))) (S' := TS w4 []) cg, RS.next_nx]
  simp only [List.set_cons_succ, List.set_cons_zero]
  have r4 : rng1 [.int 4] (TS w4 []) = .ok (.fix ((List.range 4).map fun i : Nat => .int (i : Nat))) (TS w4 []) := by simpa using rng1_n 4 (TS w4 []) (by omega)
  rw [sSeq_d, sFor_fix (ds := (List.range 4).map fun i : Nat => .int (i : Nat)) (S1 := TS w4 []) (by simp only [iRng1_d, sSeq_d, sAsg_d, sExpr_d, sRet_d, sIf_d, sNext_d, eCall_d, aCons_d, aNil_d, eVar_d, eC_d, eOp_d, eUn_d, eNew_d, aCall_d, aComp_d, eTup_d, tBool_d, tOrD_d, tAndD_d, tNotD_d, eIf_d, eAnd_d, eOr_d, eNot_d, List.getElem?_cons_succ, List.getElem?_cons_zero, List.set_cons_succ, List.set_cons_zero, List.length_cons, List.length_nil, Nat.zero_add, Nat.reduceAdd, R.bind_ok, R.bind_exc, R.st_ok, R.st_exc, RS.next_nx, RS.next_rt, RS.next_exc, gName_d, gSt_ok, fnG_d, toB_bl, if_true, Bool.not_true, Bool.not_false, Bool.false_eq_true, if_false, fnR_rt, fnR_exc, gc_exc, r4])]
  refine forL_R (fun z => gc [] (fnR (RS.next z _)) = _) (fun i : Nat => .int (i : Nat)) (fun _ env S1 => ∃ w st o6 o9 o10 o11 o12, Gd W c st ∧ S1 = TS w [] ∧ env = [some d0, some (.ref 1), some (.int (W : Nat)), some (.int (c : Nat)), some (.new ((grG W c).map fun r => .new (r.map .int))), some (eS st), o6, some (.int (B : Nat)), some (.int (sp : Nat)), o9, o10, o11, o12]) (fun d S1 => d = .bl true ∧ ∃ w, S1 = TS w []) (List.range 4) ⟨w4, _, none, none, none, none, none, gr_gd (by omega) (by omega) (by omega), rfl, rfl⟩ ?_ ?_ ?_
  · rintro pre k post env S1 _ ⟨w, st, o6, o9, o10, o11, o12, hg, rfl, rfl⟩
    exact ⟨[some d0, some (.ref 1), some (.int (W : Nat)), some (.int (c : Nat)), some (.new ((grG W c).map fun r => .new (r.map .int))), some (eS st), some (.int (k : Nat)), some (.int (B : Nat)), some (.int (sp : Nat)), o9, o10, o11, o12], TS w [], by simp, turn_ok (by omega) (by omega) (by omega) (by omega) hB hB2 (by omega) (by omega) w d0 hg (some (.int (k : Nat))) o9 o10 o11 o12⟩
  · rintro env S1 ⟨w, st, o6, o9, o10, o11, o12, hg, rfl, rfl⟩
    simp only [RS.next_nx, sSeq_d, sAsg_d, sExpr_d, sRet_d, sIf_d, sNext_d, eCall_d, aCons_d, aNil_d, eVar_d, eC_d, eOp_d, eUn_d, eNew_d, aCall_d, aComp_d, eTup_d, tBool_d, tOrD_d, tAndD_d, tNotD_d, eIf_d, eAnd_d, eOr_d, eNot_d, List.getElem?_cons_succ, List.getElem?_cons_zero, List.set_cons_succ, List.set_cons_zero, List.length_cons, List.length_nil, Nat.zero_add, Nat.reduceAdd, R.bind_ok, R.bind_exc, R.st_ok, R.st_exc, RS.next_nx, RS.next_rt, RS.next_exc, gName_d, gSt_ok, fnG_d, toB_bl, if_true, Bool.not_true, Bool.not_false, Bool.false_eq_true, if_false, fnR_rt, fnR_exc, gc_exc]
    exact gc_end w [] true
  · rintro d S1 ⟨rfl, w, rfl⟩
    exact gc_end w [] true
end J

namespace J
open PySem PySem.Spec PyProof.Rows L2
def top (i : Nat) : Stmt := PySem.Challenge.pw_handsarc_k04_whole_next_beats.main.body.getD i (.Pass ⟨0, 0, 0, 0⟩)
abbrev s_clash : Stmt := (clsBody (top 5)).getD 0 (.Pass ⟨0, 0, 0, 0⟩)
abbrev s_law_town : Stmt := top 28
abbrev s_law_draw : Stmt := top 29
abbrev s_is_whole : Stmt := top 6
abbrev s_look_number : Stmt := top 7
abbrev s_trimmed : Stmt := top 17
abbrev s_ground_of : Stmt := top 23
abbrev s_ground : Stmt := top 22
abbrev s_law_state : Stmt := top 31
abbrev s_is_state : Stmt := top 15
abbrev s_look_state : Stmt := top 16
abbrev s_due_at : Stmt := top 18
abbrev s_dealt : Stmt := top 24
abbrev s_choices : Stmt := top 25
abbrev s_next_beats : Stmt := top 26
abbrev s_law_lots : Stmt := top 32
abbrev s_law_beats : Stmt := top 33
abbrev s_law_pick : Stmt := top 30
abbrev s_is_throw : Stmt := top 12
abbrev s_is_beat : Stmt := top 13
abbrev s_stepped : Stmt := top 19
abbrev s_step : Stmt := top 20
abbrev s_balls_in : Stmt := top 21
abbrev s_law : Stmt := top 34
abbrev FnP (K : PySem.W.Frag) (x : Str) (st : Stmt) (f : Addr) (fd : FuncData) : Prop := FunD K x x (defArgs st) (defBody st) (defScope st) [] [] f fd
structure Bs (K : PySem.W.Frag) (mg : Str → Option Value) : Prop where
  d_law_town : ∃ f fd, FunD K "_law_town" "_law_town" (defArgs s_law_town) (defBody s_law_town) (defScope s_law_town) [] [] f fd ∧ mg "_law_town" = some (.ref f)
  d_law_draw : ∃ f fd, FunD K "_law_draw" "_law_draw" (defArgs s_law_draw) (defBody s_law_draw) (defScope s_law_draw) [] [] f fd ∧ mg "_law_draw" = some (.ref f)
  d_is_whole : ∃ f fd, FunD K "is_whole" "is_whole" (defArgs s_is_whole) (defBody s_is_whole) (defScope s_is_whole) [] [] f fd ∧ mg "is_whole" = some (.ref f)
  d_look_number : ∃ f fd, FunD K "look_number" "look_number" (defArgs s_look_number) (defBody s_look_number) (defScope s_look_number) [] [] f fd ∧ mg "look_number" = some (.ref f)
  d_trimmed : ∃ f fd, FunD K "trimmed" "trimmed" (defArgs s_trimmed) (defBody s_trimmed) (defScope s_trimmed) [] [] f fd ∧ mg "trimmed" = some (.ref f)
  d_ground_of : ∃ f fd, FunD K "ground_of" "ground_of" (defArgs s_ground_of) (defBody s_ground_of) (defScope s_ground_of) [] [] f fd ∧ mg "ground_of" = some (.ref f)
  d_ground : ∃ f fd, FunD K "ground" "ground" (defArgs s_ground) (defBody s_ground) (defScope s_ground) [] [] f fd ∧ mg "ground" = some (.ref f)
  d_law_state : ∃ f fd, FunD K "_law_state" "_law_state" (defArgs s_law_state) (defBody s_law_state) (defScope s_law_state) [] [] f fd ∧ mg "_law_state" = some (.ref f)
  d_is_state : ∃ f fd, FunD K "is_state" "is_state" (defArgs s_is_state) (defBody s_is_state) (defScope s_is_state) [] [] f fd ∧ mg "is_state" = some (.ref f)
  d_look_state : ∃ f fd, FunD K "look_state" "look_state" (defArgs s_look_state) (defBody s_look_state) (defScope s_look_state) [] [] f fd ∧ mg "look_state" = some (.ref f)
  d_due_at : ∃ f fd, FunD K "due_at" "due_at" (defArgs s_due_at) (defBody s_due_at) (defScope s_due_at) [] [] f fd ∧ mg "due_at" = some (.ref f)
  d_dealt : ∃ f fd, FunD K "dealt" "dealt" (defArgs s_dealt) (defBody s_dealt) (defScope s_dealt) [] [] f fd ∧ mg "dealt" = some (.ref f)
  d_choices : ∃ f fd, FunD K "choices" "choices" (defArgs s_choices) (defBody s_choices) (defScope s_choices) [] [] f fd ∧ mg "choices" = some (.ref f)
  d_next_beats : ∃ f fd, FunD K "next_beats" "next_beats" (defArgs s_next_beats) (defBody s_next_beats) (defScope s_next_beats) [] [("room", V.int 1)] f fd ∧ mg "next_beats" = some (.ref f)
  d_law_lots : ∃ f fd, FunD K "_law_lots" "_law_lots" (defArgs s_law_lots) (defBody s_law_lots) (defScope s_law_lots) [] [] f fd ∧ mg "_law_lots" = some (.ref f)
  d_law_beats : ∃ f fd, FunD K "_law_beats" "_law_beats" (defArgs s_law_beats) (defBody s_law_beats) (defScope s_law_beats) [] [] f fd ∧ mg "_law_beats" = some (.ref f)
  d_law_pick : ∃ f fd, FunD K "_law_pick" "_law_pick" (defArgs s_law_pick) (defBody s_law_pick) (defScope s_law_pick) [] [] f fd ∧ mg "_law_pick" = some (.ref f)
  d_is_throw : ∃ f fd, FunD K "is_throw" "is_throw" (defArgs s_is_throw) (defBody s_is_throw) (defScope s_is_throw) [] [] f fd ∧ mg "is_throw" = some (.ref f)
  d_is_beat : ∃ f fd, FunD K "is_beat" "is_beat" (defArgs s_is_beat) (defBody s_is_beat) (defScope s_is_beat) [] [] f fd ∧ mg "is_beat" = some (.ref f)
  d_stepped : ∃ f fd, FunD K "stepped" "stepped" (defArgs s_stepped) (defBody s_stepped) (defScope s_stepped) [] [] f fd ∧ mg "stepped" = some (.ref f)
  d_step : ∃ f fd, FunD K "step" "step" (defArgs s_step) (defBody s_step) (defScope s_step) [] [] f fd ∧ mg "step" = some (.ref f)
  d_balls_in : ∃ f fd, FunD K "balls_in" "balls_in" (defArgs s_balls_in) (defBody s_balls_in) (defScope s_balls_in) [] [] f fd ∧ mg "balls_in" = some (.ref f)
  d_law : ∃ f fd, FunD K "law" "law" (defArgs s_law) (defBody s_law) (defScope s_law) [] [] f fd ∧ mg "law" = some (.ref f)
  b_all : mg "all" = none
  b_any : mg "any" = none
  b_bool : mg "bool" = none
  b_dict : mg "dict" = none
  b_enumerate : mg "enumerate" = none
  b_int : mg "int" = none
  b_isinstance : mg "isinstance" = none
  b_len : mg "len" = none
  b_list : mg "list" = none
  b_max : mg "max" = none
  b_range : mg "range" = none
  b_sorted : mg "sorted" = none
  b_sum : mg "sum" = none
  b_tuple : mg "tuple" = none
  c_MOST_HIGH : ∃ t, mg "MOST_HIGH" = some (.int 15 t)
  c_MOST_LINES : ∃ t, mg "MOST_LINES" = some (.int 6 t)
  c_MOST_ROOM : ∃ t, mg "MOST_ROOM" = some (.int 4 t)
  x_BadNumber : mg "BadNumber" = some (.ref (He.ga K "BadNumber"))
  x_BadRow : mg "BadRow" = some (.ref (He.ga K "BadRow"))
  x_BadState : mg "BadState" = some (.ref (He.ga K "BadState"))
  x_Clash : mg "Clash" = some (.ref (He.ga K "Clash"))
  e_BadNumber : (He.Fa.exc "BadNumber").ok K = true
  e_BadRow : (He.Fa.exc "BadRow").ok K = true
  e_BadState : (He.Fa.exc "BadState").ok K = true
  d_clash : ∃ fd, FunD K "__init__" "Clash.__init__" (defArgs s_clash) (defBody s_clash) (defScope s_clash) [] [] (clI K) fd
  cl : ClOk K
section
variable {P : Program} {w : World} {K : PySem.W.Frag} {mg : Str → Option Value} {base : Heap}
theorem scClashInit : FnScope ["self", "beat", "line"] ["self", "beat", "line"] (defScope s_clash) := ⟨rfl, rfl, rfl, by decide +kernel, rfl, by decide +kernel, by decide +kernel⟩
theorem okClashInit (B : Bs K mg) : CalI P w K mg base := by
  obtain ⟨fd, F⟩ := B.d_clash
  exact ⟨fd, clash_fn B.cl F scClashInit (by first | exact Or.inl rfl | exact Or.inr (Or.inl rfl) | exact Or.inr (Or.inr rfl)) (by first | exact Or.inl rfl | exact Or.inr (Or.inl rfl) | exact Or.inr (Or.inr rfl)) (by first | exact Or.inl rfl | exact Or.inr (Or.inl rfl) | exact Or.inr (Or.inr rfl)) (fun _ _ _ _ _ _ => rfl) (fun _ _ _ _ _ _ => rfl), F.bindsN fun _ _ _ _ _ _ us hl => match us, hl with | [_, _, _], _ => rfl⟩
theorem sc_law_town : FnScope ["script"] ["script"] (defScope s_law_town) := ⟨rfl, rfl, rfl, by decide +kernel, rfl, by decide +kernel, by decide +kernel⟩
theorem ok_law_town (B : Bs K mg) : Cal P w K mg base 1 "_law_town" 1 G_law_town := by
  obtain ⟨f, fd, F, hm⟩ := B.d_law_town
  refine ⟨f, fd, ["script"], (fn_ok (N := ["script"]) (ps := ["script"]) (k := 0) (fb := F_law_town) F sc_law_town (by decide) ?_), hm, F.kp, F.bindsN fun _ _ _ _ _ _ us hl => match us, hl with | [_], _ => rfl⟩
  intro cdv A outer s H E hr
  exact (dss_one (ds_ret (DN.alloc (dn_disp (da_cons (de_if (t_ne hr (de_var (pv 0)) (DN.new (dn_disp da_nil))) (DN.alloc (n_listD rfl B.b_list (da_cons (de_var (pv 0)) da_nil))) (DN.alloc (dn_disp (da_cons de_int da_nil)))) (da_cons de_int da_nil))))))
theorem sc_law_draw : FnScope ["town", "count", "numbers", "at", "cell", "mixed"] ["town", "count"] (defScope s_law_draw) := ⟨rfl, rfl, rfl, by decide +kernel, rfl, by decide +kernel, by decide +kernel⟩
theorem ok_law_draw (B : Bs K mg) : Cal P w K mg base 1 "_law_draw" 2 G_law_draw := by
  obtain ⟨f, fd, F, hm⟩ := B.d_law_draw
  refine ⟨f, fd, ["town", "count"], fn_ref (fn_ok (N := ["town", "count", "numbers", "at", "cell", "mixed"]) (ps := ["town", "count"]) (k := 0) (fb := F_law_draw) F sc_law_draw (by decide) ?_) ref_gc, hm, F.kp, F.bindsN fun _ _ _ _ _ _ us hl => match us, hl with | [_, _], _ => rfl⟩
  intro cdv A outer s H E hr
  exact (dss_cons (ds_set sc_law_draw.nd rfl (by first | exact Or.inl rfl | exact Or.inr rfl) (x_ix hr (de_var (pv 0)) de_int (fun _ _ => rfl)))
  (dss_cons (ds_setItem hr (de_var (pv 0)) de_int (b_add (x_ix hr (de_var (pv 0)) de_int (fun _ _ => rfl)) de_int))
  (dss_cons (ds_set sc_law_draw.nd rfl (by first | exact Or.inl rfl | exact Or.inr rfl) (b_mod (x_ix hr (de_var (pv 0)) de_int (fun _ _ => rfl)) (f_len rfl B.b_len (da_cons (de_var (pv 2)) da_nil))))
  (dss_cons (ds_set sc_law_draw.nd rfl (by first | exact Or.inl rfl | exact Or.inr rfl) (x_ix hr (de_var (pv 2)) (de_var (pv 3)) (fun _ _ => rfl)))
  (dss_cons (ds_if (t_ge (de_var (pv 4)) de_int)
  (dss_cons (ds_setItem hr (de_var (pv 2)) (de_var (pv 3)) (b_div (de_var (pv 4)) (de_var (pv 1))))
  (dss_one (ds_ret (b_mod (de_var (pv 4)) (de_var (pv 1))))))
  dss_nil)
  (dss_cons (ds_set sc_law_draw.nd rfl (by first | exact Or.inl rfl | exact Or.inr rfl) (b_mod (b_add (de_var (pv 4)) (b_mul de_int (x_ix hr (de_var (pv 0)) de_int (fun _ _ => rfl)))) de_int))
  (dss_cons (ds_set sc_law_draw.nd rfl (by first | exact Or.inl rfl | exact Or.inr rfl) (b_mod (b_pow (de_var (pv 5)) de_int) de_int))
  (dss_one (ds_ret (b_mod (b_div (b_mod (b_add (b_mul (b_div (de_var (pv 5)) de_int) de_int) (de_var (pv 5))) de_int) de_int) (de_var (pv 1))))))))))))
theorem sc_is_whole : FnScope ["thing", "low", "high"] ["thing", "low", "high"] (defScope s_is_whole) := ⟨rfl, rfl, rfl, by decide +kernel, rfl, by decide +kernel, by decide +kernel⟩
theorem ok_is_whole (B : Bs K mg) : Cal P w K mg base 1 "is_whole" 3 G_is_whole := by
  obtain ⟨f, fd, F, hm⟩ := B.d_is_whole
  refine ⟨f, fd, ["thing", "low", "high"], fn_ref (fn_ok (N := ["thing", "low", "high"]) (ps := ["thing", "low", "high"]) (k := 0) (fb := F_is_whole) F sc_is_whole (by decide) ?_) ref_gc, hm, F.kp, F.bindsN fun _ _ _ _ _ _ us hl => match us, hl with | [_, _, _], _ => rfl⟩
  intro cdv A outer s H E hr
  exact (dss_one (ds_ret (de_and (de_isi "int" (by simp) rfl B.b_isinstance rfl B.b_int (by decide +kernel) (de_var (pv 0))) (de_and (de_not (de_isi "bool" (by simp) rfl B.b_isinstance rfl B.b_bool (by decide +kernel) (de_var (pv 0)))) (de_one (de_chain op_le o_le op_le o_le (de_var (pv 1)) (de_var (pv 0)) (de_var (pv 2))))))))
theorem sc_look_number : FnScope ["thing", "low", "high"] ["thing", "low", "high"] (defScope s_look_number) := ⟨rfl, rfl, rfl, by decide +kernel, rfl, by decide +kernel, by decide +kernel⟩
theorem ok_look_number (B : Bs K mg) : Cal P w K mg base 2 "look_number" 3 G_look_number := by
  obtain ⟨f, fd, F, hm⟩ := B.d_look_number
  refine ⟨f, fd, ["thing", "low", "high"], fn_ref (fn_ok (N := ["thing", "low", "high"]) (ps := ["thing", "low", "high"]) (k := 1) (fb := F_look_number) F sc_look_number (by decide) ?_) ref_gc, hm, F.kp, F.bindsN fun _ _ _ _ _ _ us hl => match us, hl with | [_, _, _], _ => rfl⟩
  intro cdv A outer s H E hr
  exact (dss_one (ds_if (dt_not (dt_val (de_cal (ok_is_whole B) hr (by decide) rfl (takes_of rfl rfl rfl rfl) (da_cons (de_var (pv 0)) (da_cons (de_var (pv 1)) (da_cons (de_var (pv 2)) da_nil))))))
  (dss_one (ds_raise rfl (takes_of rfl rfl rfl rfl) B.x_BadNumber B.e_BadNumber rfl))
  dss_nil))
theorem sc_trimmed : FnScope ["rows", "found", "one"] ["rows"] (defScope s_trimmed) := ⟨rfl, rfl, rfl, by decide +kernel, rfl, by decide +kernel, by decide +kernel⟩
theorem ok_trimmed (B : Bs K mg) : Cal P w K mg base 1 "trimmed" 1 G_trimmed := by
  obtain ⟨f, fd, F, hm⟩ := B.d_trimmed
  refine ⟨f, fd, ["rows"], fn_ref (fn_ok (N := ["rows", "found", "one"]) (ps := ["rows"]) (k := 0) (fb := F_trimmed) F sc_trimmed (by decide) ?_) ref_gc, hm, F.kp, F.bindsN fun _ _ _ _ _ _ us hl => match us, hl with | [_], _ => rfl⟩
  intro cdv A outer s H E hr
  exact (dss_cons (ds_asgA (ps_setCompW rfl rfl sc_trimmed.nd rfl rfl rfl (own := [("one", 2)]) (vs := [2]) (us := []) (blkOk_by (by kernel_rfl)) rfl (di_seq (de_var (pv 0))) (fun _ _ _ _ _ => (dg_name sc_trimmed.nd rfl (by first | exact Or.inl rfl | exact Or.inr rfl))) (fun _ _ _ _ _ => dts_nil) (fun _ _ _ _ _ _ => (inner_elt (fun _ _ h => h) rfl (f_tuple rfl B.b_tuple (da_cons (de_var (pv 2)) da_nil)))) (by intro _; rfl) (by intro g h; cases h <;> exact ⟨rfl, fun _ _ => rfl⟩)))
  (dss_cons (ds_while 200 (passes_of rfl) (DW.dt (dw_and (t_ne hr (de_var (pv 1)) (DN.new (dn_disp da_nil))) (dw_and1 (dt_not (dt_val (f_any rfl rfl B.b_any (da_cons (x_ix hr (de_var (pv 1)) (u_neg de_int) (fun _ _ => rfl)) da_nil)))))))
  (dss_one (ds_expr (de_pop0 (de_var (pv 1))))))
  (dss_one (ds_ret (f_tuple rfl B.b_tuple (da_cons (de_var (pv 1)) da_nil))))))
theorem sc_ground_of : FnScope ["balls", "lines", "rows", "k", "line"] ["balls", "lines"] (defScope s_ground_of) := ⟨rfl, rfl, rfl, by decide +kernel, rfl, by decide +kernel, by decide +kernel⟩
theorem ok_ground_of (B : Bs K mg) : Cal P w K mg base 2 "ground_of" 2 G_ground_of := by
  obtain ⟨f, fd, F, hm⟩ := B.d_ground_of
  refine ⟨f, fd, ["balls", "lines"], fn_ref (fn_ok (N := ["balls", "lines", "rows", "k", "line"]) (ps := ["balls", "lines"]) (k := 1) (fb := F_ground_of) F sc_ground_of (by decide) ?_) ref_gc, hm, F.kp, F.bindsN fun _ _ _ _ _ _ us hl => match us, hl with | [_, _], _ => rfl⟩
  intro cdv A outer s H E hr
  exact (dss_cons (ds_asgN (ps_setCompW rfl rfl sc_ground_of.nd rfl rfl rfl (own := [("k", 3)]) (vs := [3]) (us := []) (blkOk_by (by kernel_rfl)) rfl (di_range1 rfl B.b_range (da_cons (g_int rfl B.c_MOST_HIGH) da_nil)) (fun _ _ _ _ _ => (dg_name sc_ground_of.nd rfl (by first | exact Or.inl rfl | exact Or.inr rfl))) (fun _ _ _ _ _ => dts_nil) (fun _ _ _ _ _ _ => (inner_elt (fun _ _ h => h) rfl (DN.new (dn_compW rfl rfl sc_ground_of.nd (own := [("line", 4)]) (vs := [4]) (us := []) (blkOk_by (by kernel_rfl)) rfl (di_range1 rfl B.b_range (da_cons (de_var (pv 1)) da_nil)) (fun _ _ _ _ _ => (dg_name sc_ground_of.nd rfl (by first | exact Or.inl rfl | exact Or.inr rfl))) (fun _ _ _ _ _ => dts_nil) (fun _ _ _ _ _ _ => (inner_elt (fun _ _ h => h) rfl (de_if (t_lt (b_add (b_mul (de_var (pv 3)) (de_var (pv 1))) (de_var (pv 4))) (de_var (pv 0))) de_int de_int))) (by intro _; rfl) (by intro g h; cases h <;> exact ⟨rfl, fun _ _ => rfl⟩))))) (by intro _; rfl) (by intro g h; cases h <;> exact ⟨rfl, fun _ _ => rfl⟩)))
  (dss_one (ds_ret (de_cal (ok_trimmed B) hr (by decide) rfl (takes_of rfl rfl rfl rfl) (da_cons (de_var (pv 2)) da_nil)))))
theorem sc_ground : FnScope ["balls", "lines"] ["balls", "lines"] (defScope s_ground) := ⟨rfl, rfl, rfl, by decide +kernel, rfl, by decide +kernel, by decide +kernel⟩
theorem fo_ground (B : Bs K mg) : ∃ f fd, FunD K "ground" "ground" (defArgs s_ground) (defBody s_ground) (defScope s_ground) [] [] f fd ∧ mg "ground" = some (.ref f) ∧ FnOk P w K mg base (CX P w) 3 f fd ["balls", "lines"] (spD K mg 2 G_ground) := by
  obtain ⟨f, fd, F, hm⟩ := B.d_ground
  refine ⟨f, fd, F, hm, fn_ref (fn_ok (N := ["balls", "lines"]) (ps := ["balls", "lines"]) (k := 2) (fb := F_ground) F sc_ground (by decide) ?_) ref_gc⟩
  intro cdv A outer s H E hr
  exact (dss_cons (ds_expr (de_cal (ok_look_number B) hr (by decide) rfl (takes_of rfl rfl rfl rfl) (da_cons (de_var (pv 1)) (da_cons de_int (da_cons (g_int rfl B.c_MOST_LINES) da_nil)))))
  (dss_cons (ds_expr (de_cal (ok_look_number B) hr (by decide) rfl (takes_of rfl rfl rfl rfl) (da_cons (de_var (pv 0)) (da_cons de_int (da_cons (b_mul (g_int rfl B.c_MOST_HIGH) (de_var (pv 1))) da_nil)))))
  (dss_one (ds_ret (de_cal (ok_ground_of B) hr (by decide) rfl (takes_of rfl rfl rfl rfl) (da_cons (de_var (pv 0)) (da_cons (de_var (pv 1)) da_nil)))))))
theorem okK_ground_lines (B : Bs K mg) : CalK P w K mg base 3 "ground" 2 G_ground 1 ["lines"] K_ground_lines := by
  obtain ⟨f, fd, F, hm, ok⟩ := fo_ground (P := P) (w := w) (base := base) B
  exact ⟨f, fd, ["balls", "lines"], _, _, ok, hm, F.kp, kbn_all F 1 ["lines"] [0, 1] (fun _ _ _ _ _ _ us ws h1 h2 => match us, h1, ws, h2 with | [_], _, [_], _ => rfl), fun H ρ ds es vs zs r1 r2 => RepVs.pick (r1.append r2) [0, 1]⟩
theorem sc_law_state : FnScope ["rows", "found", "one"] ["rows"] (defScope s_law_state) := ⟨rfl, rfl, rfl, by decide +kernel, rfl, by decide +kernel, by decide +kernel⟩
theorem ok_law_state (B : Bs K mg) : Cal P w K mg base 1 "_law_state" 1 G_law_state := by
  obtain ⟨f, fd, F, hm⟩ := B.d_law_state
  refine ⟨f, fd, ["rows"], fn_ref (fn_ok (N := ["rows", "found", "one"]) (ps := ["rows"]) (k := 0) (fb := F_law_state) F sc_law_state (by decide) ?_) ref_gc, hm, F.kp, F.bindsN fun _ _ _ _ _ _ us hl => match us, hl with | [_], _ => rfl⟩
  intro cdv A outer s H E hr
  exact (dss_cons (ds_asgN (ps_setCompW rfl rfl sc_law_state.nd rfl rfl rfl (own := [("one", 2)]) (vs := [2]) (us := []) (blkOk_by (by kernel_rfl)) rfl (di_seq (de_var (pv 0))) (fun _ _ _ _ _ => (dg_name sc_law_state.nd rfl (by first | exact Or.inl rfl | exact Or.inr rfl))) (fun _ _ _ _ _ => dts_nil) (fun _ _ _ _ _ _ => (inner_elt (fun _ _ h => h) rfl (f_tuple rfl B.b_tuple (da_cons (de_var (pv 2)) da_nil)))) (by intro _; rfl) (by intro g h; cases h <;> exact ⟨rfl, fun _ _ => rfl⟩)))
  (dss_cons (ds_while 200 (passes_of rfl) (DW.dt (dw_and (t_ne hr (de_var (pv 1)) (DN.new (dn_disp da_nil))) (dw_and1 (t_eq hr (f_max rfl rfl B.b_max (da_cons (x_ix hr (de_var (pv 1)) (u_neg de_int) (fun _ _ => rfl)) da_nil)) de_int))))
  (dss_one (ds_set sc_law_state.nd rfl (by first | exact Or.inl rfl | exact Or.inr rfl) (de_slice (de_var (pv 1)) do_none (do_some (u_neg de_int))))))
  (dss_one (ds_ret (f_tuple rfl B.b_tuple (da_cons (de_var (pv 1)) da_nil))))))
theorem sc_is_state : FnScope ["thing", "lines", "beat", "one"] ["thing", "lines"] (defScope s_is_state) := ⟨rfl, rfl, rfl, by decide +kernel, rfl, by decide +kernel, by decide +kernel⟩
theorem ok_is_state (B : Bs K mg) : Cal P w K mg base 2 "is_state" 2 G_is_state := by
  obtain ⟨f, fd, F, hm⟩ := B.d_is_state
  refine ⟨f, fd, ["thing", "lines"], fn_ref (fn_ok (N := ["thing", "lines", "beat", "one"]) (ps := ["thing", "lines"]) (k := 1) (fb := F_is_state) F sc_is_state (by decide) ?_) ref_gc, hm, F.kp, F.bindsN fun _ _ _ _ _ _ us hl => match us, hl with | [_, _], _ => rfl⟩
  intro cdv A outer s H E hr
  exact (dss_cons (ds_if (DW.dt (dw_or (dt_not (dt_val (de_cal (ok_is_whole B) hr (by decide) rfl (takes_of rfl rfl rfl rfl) (da_cons (de_var (pv 1)) (da_cons de_int (da_cons (g_int rfl B.c_MOST_LINES) da_nil)))))) (dw_or (dt_not (dt_val (de_isi "tuple" (by simp) rfl B.b_isinstance rfl B.b_tuple (by decide +kernel) (de_var (pv 0))))) (dw_or1 (t_gt (f_len rfl B.b_len (da_cons (de_var (pv 0)) da_nil)) (g_int rfl B.c_MOST_HIGH))))))
  (dss_one (ds_ret de_bl))
  dss_nil)
  (dss_cons (ds_for (passes_of rfl) rfl (di_seq (de_var (pv 0))) (dg_name sc_is_state.nd rfl (by first | exact Or.inl rfl | exact Or.inr rfl))
  (dss_one (ds_if (DW.dt (dw_or (dt_not (dt_val (de_isi "tuple" (by simp) rfl B.b_isinstance rfl B.b_tuple (by decide +kernel) (de_var (pv 2))))) (dw_or (t_ne hr (f_len rfl B.b_len (da_cons (de_var (pv 2)) da_nil)) (de_var (pv 1))) (dw_or1 (dt_not (dt_val (f_all rfl rfl B.b_all (da_cons (DN.new (dn_compW rfl rfl sc_is_state.nd (own := [("one", 3)]) (vs := [3]) (us := []) (blkOk_by (by kernel_rfl)) rfl (di_seq (de_var (pv 2))) (fun _ _ _ _ _ => (dg_name sc_is_state.nd rfl (by first | exact Or.inl rfl | exact Or.inr rfl))) (fun _ _ _ _ _ => dts_nil) (fun _ _ _ _ _ _ => (inner_elt (fun _ _ h => h) rfl (de_cal (ok_is_whole B) hr (by decide) rfl (takesF _) (da_cons (de_var (pv 3)) (da_cons de_int (da_cons (g_int rfl B.c_MOST_ROOM) da_nil)))))) (by intro _; rfl) (by intro g h; cases h <;> exact ⟨rfl, fun _ _ => rfl⟩))) da_nil))))))))
  (dss_one (ds_ret de_bl))
  dss_nil)))
  (dss_one (ds_ret (de_or (c_eq hr (de_var (pv 0)) (de_tup da_nil)) (de_one (f_any rfl rfl B.b_any (da_cons (DN.new (dn_compW rfl rfl sc_is_state.nd (own := [("one", 3)]) (vs := [3]) (us := []) (blkOk_by (by kernel_rfl)) rfl (di_seq (x_ix hr (de_var (pv 0)) (u_neg de_int) (fun _ _ => rfl))) (fun _ _ _ _ _ => (dg_name sc_is_state.nd rfl (by first | exact Or.inl rfl | exact Or.inr rfl))) (fun _ _ _ _ _ => dts_nil) (fun _ _ _ _ _ _ => (inner_elt (fun _ _ h => h) rfl (c_gt (de_var (pv 3)) de_int))) (by intro _; rfl) (by intro g h; cases h <;> exact ⟨rfl, fun _ _ => rfl⟩))) da_nil))))))))
theorem sc_look_state : FnScope ["thing", "lines"] ["thing", "lines"] (defScope s_look_state) := ⟨rfl, rfl, rfl, by decide +kernel, rfl, by decide +kernel, by decide +kernel⟩
theorem ok_look_state (B : Bs K mg) : Cal P w K mg base 3 "look_state" 2 G_look_state := by
  obtain ⟨f, fd, F, hm⟩ := B.d_look_state
  refine ⟨f, fd, ["thing", "lines"], fn_ref (fn_ok (N := ["thing", "lines"]) (ps := ["thing", "lines"]) (k := 2) (fb := F_look_state) F sc_look_state (by decide) ?_) ref_gc, hm, F.kp, F.bindsN fun _ _ _ _ _ _ us hl => match us, hl with | [_, _], _ => rfl⟩
  intro cdv A outer s H E hr
  exact (dss_one (ds_if (dt_not (dt_val (de_cal (ok_is_state B) hr (by decide) rfl (takes_of rfl rfl rfl rfl) (da_cons (de_var (pv 0)) (da_cons (de_var (pv 1)) da_nil)))))
  (dss_one (ds_raise rfl (takes_of rfl rfl rfl rfl) B.x_BadState B.e_BadState rfl))
  dss_nil))
theorem sc_due_at : FnScope ["state", "beat", "line"] ["state", "beat", "line"] (defScope s_due_at) := ⟨rfl, rfl, rfl, by decide +kernel, rfl, by decide +kernel, by decide +kernel⟩
theorem ok_due_at (B : Bs K mg) : Cal P w K mg base 1 "due_at" 3 G_due_at := by
  obtain ⟨f, fd, F, hm⟩ := B.d_due_at
  refine ⟨f, fd, ["state", "beat", "line"], fn_ref (fn_ok (N := ["state", "beat", "line"]) (ps := ["state", "beat", "line"]) (k := 0) (fb := F_due_at) F sc_due_at (by decide) ?_) ref_gc, hm, F.kp, F.bindsN fun _ _ _ _ _ _ us hl => match us, hl with | [_, _, _], _ => rfl⟩
  intro cdv A outer s H E hr
  exact (dss_one (ds_ret (de_if (t_lt (de_var (pv 1)) (f_len rfl B.b_len (da_cons (de_var (pv 0)) da_nil))) (x_ix hr (x_ix hr (de_var (pv 0)) (de_var (pv 1)) (fun _ _ => rfl)) (de_var (pv 2)) (fun _ _ => rfl)) de_int)))
theorem sc_dealt : FnScope ["many", "goals", "free", "found", "k", "goal", "rest", "one"] ["many", "goals", "free"] (defScope s_dealt) := ⟨rfl, rfl, rfl, by decide +kernel, rfl, by decide +kernel, by decide +kernel⟩
theorem okR_dealt (B : Bs K mg) : ∀ k : Nat, Cal P w K mg base (1 + k) "dealt" 3 (GR_dealt k)
  | 0 => by
    obtain ⟨f, fd, F, hm⟩ := B.d_dealt
    refine ⟨f, fd, ["many", "goals", "free"], fn_ref (fn_ok (N := ["many", "goals", "free", "found", "k", "goal", "rest", "one"]) (ps := ["many", "goals", "free"]) (k := 0) (fb := sBad) F sc_dealt (by decide) ?_) ref_gc, hm, F.kp, F.bindsN fun _ _ _ _ _ _ us hl => match us, hl with | [_, _, _], _ => rfl⟩
    intro cdv A outer s H E hr
    exact dss_never
  | k + 1 => by
    have ih := okR_dealt B k
    obtain ⟨f, fd, F, hm⟩ := B.d_dealt
    refine ⟨f, fd, ["many", "goals", "free"], fn_ref (fn_ok (N := ["many", "goals", "free", "found", "k", "goal", "rest", "one"]) (ps := ["many", "goals", "free"]) (k := 1 + k) (fb := FR_dealt (GR_dealt k)) F sc_dealt (by decide) ?_) ref_gc, hm, F.kp, F.bindsN fun _ _ _ _ _ _ us hl => match us, hl with | [_, _, _], _ => rfl⟩
    intro cdv A outer s H E hr
    exact (dss_cons (ds_if (t_eq hr (de_var (pv 0)) de_int)
  (dss_one (ds_ret (DN.new (dn_disp (da_cons (de_tup da_nil) da_nil)))))
  dss_nil)
  (dss_cons (ds_set sc_dealt.nd rfl (by first | exact Or.inl rfl | exact Or.inr rfl) (DN.alloc (dn_disp da_nil)))
  (dss_cons (ds_for (passes_of rfl) rfl (di_enum rfl B.b_enumerate (da_cons (de_var (pv 1)) da_nil)) (dg_tup rfl (dgs_cons (dg_name sc_dealt.nd rfl (by first | exact Or.inl rfl | exact Or.inr rfl)) (dgs_cons (dg_name sc_dealt.nd rfl (by first | exact Or.inl rfl | exact Or.inr rfl)) dgs_nil)))
  (dss_one (ds_if (t_gt (de_get2 hr (de_var (pv 2)) (da_cons (de_var (pv 5)) (da_cons de_int da_nil))) de_int)
  (dss_cons (ds_set sc_dealt.nd rfl (by first | exact Or.inl rfl | exact Or.inr rfl) (f_dictS hr rfl B.b_dict (da_cons (de_var (pv 2)) da_nil)))
  (dss_cons (ds_augItem hr pip_sub o_sub (de_var (pv 6)) (de_var (pv 5)) de_int)
  (dss_one (ds_aug sc_dealt.nd rfl (by first | exact Or.inl rfl | exact Or.inr rfl) pip_add o_iadd (DN.new (dn_compW rfl rfl sc_dealt.nd (own := [("one", 7)]) (vs := [7]) (us := []) (blkOk_by (by kernel_rfl)) rfl (di_seq (de_cal ih hr (by omega) rfl (takes_of rfl rfl rfl rfl) (da_cons (b_sub (de_var (pv 0)) de_int) (da_cons (de_slice (de_var (pv 1)) (do_some (de_var (pv 4))) do_none) (da_cons (de_var (pv 6)) da_nil))))) (fun _ _ _ _ _ => (dg_name sc_dealt.nd rfl (by first | exact Or.inl rfl | exact Or.inr rfl))) (fun _ _ _ _ _ => dts_nil) (fun _ _ _ _ _ _ => (inner_elt (fun _ _ h => h) rfl (b_add (de_tup (da_cons (de_var (pv 5)) da_nil)) (de_var (pv 7))))) (by intro _; rfl) (by intro g h; cases h <;> exact ⟨rfl, fun _ _ => rfl⟩)))))))
  dss_nil)))
  (dss_one (ds_ret (de_var (pv 3)))))))
theorem ok_dealt (B : Bs K mg) : Cal P w K mg base 7 "dealt" 3 G_dealt := okR_dealt B 6
theorem sc_choices : FnScope ["state", "lines", "most", "room", "goals", "free", "found", "line", "longer", "high", "goal", "beat", "left", "own", "rest"] ["state", "lines", "most", "room"] (defScope s_choices) := ⟨rfl, rfl, rfl, by decide +kernel, rfl, by decide +kernel, by decide +kernel⟩
theorem ok_choices (B : Bs K mg) : Cal P w K mg base 8 "choices" 4 G_choices := by
  obtain ⟨f, fd, F, hm⟩ := B.d_choices
  refine ⟨f, fd, ["state", "lines", "most", "room"], fn_ref (fn_ok (N := ["state", "lines", "most", "room", "goals", "free", "found", "line", "longer", "high", "goal", "beat", "left", "own", "rest"]) (ps := ["state", "lines", "most", "room"]) (k := 7) (fb := F_choices) F sc_choices (by decide) ?_) ref_gc, hm, F.kp, F.bindsN fun _ _ _ _ _ _ us hl => match us, hl with | [_, _, _, _], _ => rfl⟩
  intro cdv A outer s H E hr
  exact (dss_cons (ds_asgN (ps_setCompW rfl rfl sc_choices.nd rfl rfl rfl (own := [("high", 9), ("line", 7)]) (vs := [9]) (us := ([7] ++ [])) (blkOk_by (by kernel_rfl)) rfl (di_range3 rfl B.b_range (da_cons (de_var (pv 2)) (da_cons de_int (da_cons (u_neg de_int) da_nil)))) (fun _ _ _ _ _ => (dg_name sc_choices.nd rfl (by first | exact Or.inl rfl | exact Or.inr rfl))) (fun _ _ _ _ _ => dts_nil) (fun _ _ _ _ _ _ => (inner_forW rfl (fun _ _ h => h) rfl rfl (by intro g h; cases h <;> exact ⟨rfl, fun _ => rfl⟩) (di_range3 rfl B.b_range (da_cons (b_sub (de_var (pv 1)) de_int) (da_cons (u_neg de_int) (da_cons (u_neg de_int) da_nil)))) (dg_name sc_choices.nd rfl (by first | exact Or.inl rfl | exact Or.inr rfl)) dts_nil (inner_elt (fun _ _ h => h) rfl (de_tup (da_cons (de_var (pv 9)) (da_cons (de_var (pv 7)) da_nil)))))) (by intro _; rfl) (by intro g h; cases h <;> exact ⟨rfl, fun _ _ => rfl⟩)))
  (dss_cons (ds_setDc (own := [("goal", 10)]) (vs := [10]) hr rfl rfl sc_choices.nd rfl rfl rfl (blkOk_by (by kernel_rfl)) (di_seq (de_var (pv 4))) (fun _ _ _ _ _ => (dg_name sc_choices.nd rfl (by first | exact Or.inl rfl | exact Or.inr rfl))) (fun _ _ _ _ _ => (de_var (pv 10))) (fun _ _ _ _ _ => (b_sub (de_var (pv 3)) (de_cal (ok_due_at B) hr (by decide) rfl (takesF _) (da_cons (de_var (pv 0)) (da_cons (x_ix hr (de_var (pv 10)) de_int (fun _ _ => rfl)) (da_cons (x_ix hr (de_var (pv 10)) de_int (fun _ _ => rfl)) da_nil)))))) (by intro _; rfl))
  (dss_cons (ds_set sc_choices.nd rfl (by first | exact Or.inl rfl | exact Or.inr rfl) (DN.new (dn_disp (da_cons (de_tup (da_cons (de_tup da_nil) (da_cons (de_var (pv 5)) da_nil))) da_nil))))
  (dss_cons (ds_for (passes_of rfl) rfl (di_range1 rfl B.b_range (da_cons (de_var (pv 1)) da_nil)) (dg_name sc_choices.nd rfl (by first | exact Or.inl rfl | exact Or.inr rfl))
  (dss_cons (ds_set sc_choices.nd rfl (by first | exact Or.inl rfl | exact Or.inr rfl) (DN.alloc (dn_disp da_nil)))
  (dss_cons (ds_for (passes_of rfl) rfl (di_seq (de_var (pv 6))) (dg_tup rfl (dgs_cons (dg_name sc_choices.nd rfl (by first | exact Or.inl rfl | exact Or.inr rfl)) (dgs_cons (dg_name sc_choices.nd rfl (by first | exact Or.inl rfl | exact Or.inr rfl)) dgs_nil)))
  (dss_one (ds_for (passes_of rfl) rfl (di_seq (de_cal (ok_dealt B) hr (by decide) rfl (takes_of rfl rfl rfl rfl) (da_cons (de_cal (ok_due_at B) hr (by decide) rfl (takes_of rfl rfl rfl rfl) (da_cons (de_var (pv 0)) (da_cons de_int (da_cons (de_var (pv 7)) da_nil)))) (da_cons (de_var (pv 4)) (da_cons (de_var (pv 12)) da_nil))))) (dg_name sc_choices.nd rfl (by first | exact Or.inl rfl | exact Or.inr rfl))
  (dss_cons (ds_set sc_choices.nd rfl (by first | exact Or.inl rfl | exact Or.inr rfl) (f_dictS hr rfl B.b_dict (da_cons (de_var (pv 12)) da_nil)))
  (dss_cons (ds_for (passes_of rfl) rfl (di_seq (de_var (pv 13))) (dg_name sc_choices.nd rfl (by first | exact Or.inl rfl | exact Or.inr rfl))
  (dss_one (ds_augItem hr pip_sub o_sub (de_var (pv 14)) (de_var (pv 10)) de_int)))
  (dss_one (ds_expr (de_append (de_var (pv 8)) (da_cons (de_tup (da_cons (b_add (de_var (pv 11)) (de_tup (da_cons (de_var (pv 13)) da_nil))) (da_cons (de_var (pv 14)) da_nil))) da_nil)))))))))
  (dss_one (ds_set sc_choices.nd rfl (by first | exact Or.inl rfl | exact Or.inr rfl) (de_var (pv 8)))))))
  (dss_one (ds_ret (DN.new (n_sortedD hr rfl B.b_sorted (da_cons (DN.new (dn_compW rfl rfl sc_choices.nd (own := [("beat", 11), ("left", 12)]) (vs := ([11] ++ ([12] ++ []))) (us := []) (blkOk_by (by kernel_rfl)) rfl (di_seq (de_var (pv 6))) (fun _ _ _ _ _ => (dg_tup rfl (dgs_cons (dg_name sc_choices.nd rfl (by first | exact Or.inl rfl | exact Or.inr rfl)) (dgs_cons (dg_name sc_choices.nd rfl (by first | exact Or.inl rfl | exact Or.inr rfl)) dgs_nil)))) (fun _ _ _ _ _ => dts_nil) (fun _ _ _ _ _ _ => (inner_elt (fun _ _ h => h) rfl (de_var (pv 11)))) (by intro _; rfl) (by intro g h; cases h <;> exact ⟨rfl, fun _ _ => rfl⟩))) da_nil)))))))))
theorem sc_next_beats : FnScope ["state", "lines", "most", "room"] ["state", "lines", "most", "room"] (defScope s_next_beats) := ⟨rfl, rfl, rfl, by decide +kernel, rfl, by decide +kernel, by decide +kernel⟩
theorem fo_next_beats (B : Bs K mg) : ∃ f fd, FunD K "next_beats" "next_beats" (defArgs s_next_beats) (defBody s_next_beats) (defScope s_next_beats) [] [("room", V.int 1)] f fd ∧ mg "next_beats" = some (.ref f) ∧ FnOk P w K mg base (CX P w) 9 f fd ["state", "lines", "most", "room"] (spD K mg 4 G_next_beats) := by
  obtain ⟨f, fd, F, hm⟩ := B.d_next_beats
  refine ⟨f, fd, F, hm, fn_ref (fn_ok (N := ["state", "lines", "most", "room"]) (ps := ["state", "lines", "most", "room"]) (k := 8) (fb := F_next_beats) F sc_next_beats (by decide) ?_) ref_gc⟩
  intro cdv A outer s H E hr
  exact (dss_cons (ds_expr (de_cal (ok_look_number B) hr (by decide) rfl (takes_of rfl rfl rfl rfl) (da_cons (de_var (pv 1)) (da_cons de_int (da_cons (g_int rfl B.c_MOST_LINES) da_nil)))))
  (dss_cons (ds_expr (de_cal (ok_look_state B) hr (by decide) rfl (takes_of rfl rfl rfl rfl) (da_cons (de_var (pv 0)) (da_cons (de_var (pv 1)) da_nil))))
  (dss_cons (ds_expr (de_cal (ok_look_number B) hr (by decide) rfl (takes_of rfl rfl rfl rfl) (da_cons (de_var (pv 2)) (da_cons de_int (da_cons (g_int rfl B.c_MOST_HIGH) da_nil)))))
  (dss_cons (ds_expr (de_cal (ok_look_number B) hr (by decide) rfl (takes_of rfl rfl rfl rfl) (da_cons (de_var (pv 3)) (da_cons de_int (da_cons (g_int rfl B.c_MOST_ROOM) da_nil)))))
  (dss_one (ds_ret (de_cal (ok_choices B) hr (by decide) rfl (takes_of rfl rfl rfl rfl) (da_cons (de_var (pv 0)) (da_cons (de_var (pv 1)) (da_cons (de_var (pv 2)) (da_cons (de_var (pv 3)) da_nil)))))))))))
theorem okK_next_beats_lines_most_room (B : Bs K mg) : CalK P w K mg base 9 "next_beats" 4 G_next_beats 1 ["lines", "most", "room"] K_next_beats_lines_most_room := by
  obtain ⟨f, fd, F, hm, ok⟩ := fo_next_beats (P := P) (w := w) (base := base) B
  exact ⟨f, fd, ["state", "lines", "most", "room"], _, _, ok, hm, F.kp, kbn_all F 1 ["lines", "most", "room"] [0, 1, 2, 3] (fun _ _ _ _ _ _ us ws h1 h2 => match us, h1, ws, h2 with | [_], _, [_, _, _], _ => rfl), fun H ρ ds es vs zs r1 r2 => RepVs.pick (r1.append r2) [0, 1, 2, 3]⟩
theorem okK_next_beats_lines_most (B : Bs K mg) : CalK P w K mg base 9 "next_beats" 4 G_next_beats 1 ["lines", "most"] K_next_beats_lines_most := by
  obtain ⟨f, fd, F, hm, ok⟩ := fo_next_beats (P := P) (w := w) (base := base) B
  obtain ⟨mv, kb⟩ := kbn_dfl (ps := ["state", "lines", "most", "room"]) F 1 ["lines", "most"] [0, 1, 2, 3] [("room", V.int 1)] (by simp) (fun q hq => by simpa using hq) (fun _ _ _ _ _ _ us ws mv h1 h2 h3 => match us, h1, ws, h2, mv, h3 with | [_], _, [_, _], _, [_], _ => ⟨_, _, _, _, _, _, rfl, rfl, rfl⟩)
  exact ⟨f, fd, ["state", "lines", "most", "room"], _, _, ok, hm, F.kp, kb, fun H ρ ds es vs zs r1 r2 => RepVs.pick ((r1.append r2).append (RepVs.all_ints [1])) [0, 1, 2, 3]⟩
theorem sc_law_lots : FnScope ["count", "goals", "found", "k", "longer", "row", "goal"] ["count", "goals"] (defScope s_law_lots) := ⟨rfl, rfl, rfl, by decide +kernel, rfl, by decide +kernel, by decide +kernel⟩
theorem ok_law_lots (B : Bs K mg) : Cal P w K mg base 1 "_law_lots" 2 G_law_lots := by
  obtain ⟨f, fd, F, hm⟩ := B.d_law_lots
  refine ⟨f, fd, ["count", "goals"], fn_ref (fn_ok (N := ["count", "goals", "found", "k", "longer", "row", "goal"]) (ps := ["count", "goals"]) (k := 0) (fb := F_law_lots) F sc_law_lots (by decide) ?_) ref_gc, hm, F.kp, F.bindsN fun _ _ _ _ _ _ us hl => match us, hl with | [_, _], _ => rfl⟩
  intro cdv A outer s H E hr
  exact (dss_cons (ds_set sc_law_lots.nd rfl (by first | exact Or.inl rfl | exact Or.inr rfl) (DN.new (dn_disp (da_cons (de_tupK da_nil) da_nil))))
  (dss_cons (ds_for (passes_of rfl) rfl (di_range1 rfl B.b_range (da_cons (de_var (pv 0)) da_nil)) (dg_name sc_law_lots.nd rfl (by first | exact Or.inl rfl | exact Or.inr rfl))
  (dss_cons (ds_set sc_law_lots.nd rfl (by first | exact Or.inl rfl | exact Or.inr rfl) (DN.new (dn_disp da_nil)))
  (dss_cons (ds_for (passes_of rfl) rfl (di_seq (de_var (pv 2))) (dg_name sc_law_lots.nd rfl (by first | exact Or.inl rfl | exact Or.inr rfl))
  (dss_one (ds_set sc_law_lots.nd rfl (by first | exact Or.inl rfl | exact Or.inr rfl) (b_add (de_var (pv 4)) (DN.new (dn_compW rfl rfl sc_law_lots.nd (own := [("goal", 6)]) (vs := [6]) (us := []) (blkOk_by (by kernel_rfl)) rfl (di_seq (de_var (pv 1))) (fun _ _ _ _ _ => (dg_name sc_law_lots.nd rfl (by first | exact Or.inl rfl | exact Or.inr rfl))) (fun _ _ _ _ _ => (dts_one (DW.dt (dw_or (t_eq hr (de_fgt (de_var (pv 5))) (de_tup da_nil)) (dw_or1 (t_leD hr (de_var (pv 6)) (x_ix hr (de_fgt (de_var (pv 5))) (u_neg de_int) (fun _ _ => rfl)))))))) (fun _ _ _ _ _ _ => (inner_elt (fun _ _ h => h) rfl (b_addK (de_var (pv 5)) (de_tupK (da_cons (de_var (pv 6)) da_nil))))) (by intro _; rfl) (by intro g h; cases h <;> exact ⟨rfl, fun _ _ => rfl⟩)))))))
  (dss_one (ds_set sc_law_lots.nd rfl (by first | exact Or.inl rfl | exact Or.inr rfl) (de_var (pv 4)))))))
  (dss_one (ds_ret (de_var (pv 2))))))
theorem sc_law_beats : FnScope ["state", "width", "tall", "space", "goals", "high", "found", "at", "good", "beat", "now", "longer", "row", "full", "goal", "more", "before", "own"] ["state", "width", "tall", "space"] (defScope s_law_beats) := ⟨rfl, rfl, rfl, by decide +kernel, rfl, by decide +kernel, by decide +kernel⟩
theorem ok_law_beats (B : Bs K mg) : Cal P w K mg base 2 "_law_beats" 4 G_law_beats := by
  obtain ⟨f, fd, F, hm⟩ := B.d_law_beats
  refine ⟨f, fd, ["state", "width", "tall", "space"], fn_ref (fn_ok (N := ["state", "width", "tall", "space", "goals", "high", "found", "at", "good", "beat", "now", "longer", "row", "full", "goal", "more", "before", "own"]) (ps := ["state", "width", "tall", "space"]) (k := 1) (fb := F_law_beats) F sc_law_beats (by decide) ?_) ref_gc, hm, F.kp, F.bindsN fun _ _ _ _ _ _ us hl => match us, hl with | [_, _, _, _], _ => rfl⟩
  intro cdv A outer s H E hr
  exact (dss_cons (ds_set sc_law_beats.nd rfl (by first | exact Or.inl rfl | exact Or.inr rfl) (DN.new (dn_disp da_nil)))
  (dss_cons (ds_for (passes_of rfl) rfl (di_range2 rfl B.b_range (da_cons de_int (da_cons (b_add (de_var (pv 2)) de_int) da_nil))) (dg_name sc_law_beats.nd rfl (by first | exact Or.inl rfl | exact Or.inr rfl))
  (dss_one (ds_set sc_law_beats.nd rfl (by first | exact Or.inl rfl | exact Or.inr rfl) (b_add (de_var (pv 4)) (DN.new (dn_compW rfl rfl sc_law_beats.nd (own := [("at", 7)]) (vs := [7]) (us := []) (blkOk_by (by kernel_rfl)) rfl (di_range1 rfl B.b_range (da_cons (de_var (pv 1)) da_nil)) (fun _ _ _ _ _ => (dg_name sc_law_beats.nd rfl (by first | exact Or.inl rfl | exact Or.inr rfl))) (fun _ _ _ _ _ => dts_nil) (fun _ _ _ _ _ _ => (inner_elt (fun _ _ h => h) rfl (de_tup (da_cons (de_var (pv 5)) (da_cons (de_var (pv 7)) da_nil))))) (by intro _; rfl) (by intro g h; cases h <;> exact ⟨rfl, fun _ _ => rfl⟩)))))))
  (dss_cons (ds_set sc_law_beats.nd rfl (by first | exact Or.inl rfl | exact Or.inr rfl) (DN.new (dn_disp (da_cons (de_tup da_nil) da_nil))))
  (dss_cons (ds_for (passes_of rfl) rfl (di_range1 rfl B.b_range (da_cons (de_var (pv 1)) da_nil)) (dg_name sc_law_beats.nd rfl (by first | exact Or.inl rfl | exact Or.inr rfl))
  (dss_cons (ds_set sc_law_beats.nd rfl (by first | exact Or.inl rfl | exact Or.inr rfl) (de_if (t_ne hr (de_var (pv 0)) (de_tup da_nil)) (x_ix hr (x_ix hr (de_var (pv 0)) de_int (fun _ _ => rfl)) (de_var (pv 7)) (fun _ _ => rfl)) de_int))
  (dss_cons (ds_set sc_law_beats.nd rfl (by first | exact Or.inl rfl | exact Or.inr rfl) (DN.new (dn_disp da_nil)))
  (dss_cons (ds_for (passes_of rfl) rfl (di_seq (de_var (pv 6))) (dg_name sc_law_beats.nd rfl (by first | exact Or.inl rfl | exact Or.inr rfl))
  (dss_one (ds_set sc_law_beats.nd rfl (by first | exact Or.inl rfl | exact Or.inr rfl) (b_add (de_var (pv 11)) (DN.new (dn_compW rfl rfl sc_law_beats.nd (own := [("own", 17)]) (vs := [17]) (us := []) (blkOk_by (by kernel_rfl)) rfl (di_seq (de_cal (ok_law_lots B) hr (by decide) rfl (takes_of rfl rfl rfl rfl) (da_cons (de_var (pv 10)) (da_cons (de_var (pv 4)) da_nil)))) (fun _ _ _ _ _ => (dg_name sc_law_beats.nd rfl (by first | exact Or.inl rfl | exact Or.inr rfl))) (fun _ _ _ _ _ => dts_nil) (fun _ _ _ _ _ _ => (inner_elt (fun _ _ h => h) rfl (b_add (de_var (pv 12)) (de_tup (da_cons (de_var (pv 17)) da_nil))))) (by intro _; rfl) (by intro g h; cases h <;> exact ⟨rfl, fun _ _ => rfl⟩)))))))
  (dss_one (ds_set sc_law_beats.nd rfl (by first | exact Or.inl rfl | exact Or.inr rfl) (de_var (pv 11))))))))
  (dss_cons (ds_set sc_law_beats.nd rfl (by first | exact Or.inl rfl | exact Or.inr rfl) (DN.new (dn_disp da_nil)))
  (dss_cons (ds_for (passes_of rfl) rfl (di_seq (de_var (pv 6))) (dg_name sc_law_beats.nd rfl (by first | exact Or.inl rfl | exact Or.inr rfl))
  (dss_cons (ds_set sc_law_beats.nd rfl (by first | exact Or.inl rfl | exact Or.inr rfl) de_bl)
  (dss_cons (ds_for (passes_of rfl) rfl (di_seq (de_var (pv 4))) (dg_tup rfl (dgs_cons (dg_name sc_law_beats.nd rfl (by first | exact Or.inl rfl | exact Or.inr rfl)) (dgs_cons (dg_name sc_law_beats.nd rfl (by first | exact Or.inl rfl | exact Or.inr rfl)) dgs_nil)))
  (dss_cons (ds_set sc_law_beats.nd rfl (by first | exact Or.inl rfl | exact Or.inr rfl) (f_sum rfl rfl B.b_sum (da_cons (DN.new (dn_compW rfl rfl sc_law_beats.nd (own := [("own", 17)]) (vs := [17]) (us := []) (blkOk_by (by kernel_rfl)) rfl (di_seq (de_var (pv 9))) (fun _ _ _ _ _ => (dg_name sc_law_beats.nd rfl (by first | exact Or.inl rfl | exact Or.inr rfl))) (fun _ _ _ _ _ => dts_nil) (fun _ _ _ _ _ _ => (inner_elt (fun _ _ h => h) rfl (de_countK hr (de_var (pv 17)) (da_cons (de_tup (da_cons (de_var (pv 5)) (da_cons (de_var (pv 14)) da_nil))) da_nil)))) (by intro _; rfl) (by intro g h; cases h <;> exact ⟨rfl, fun _ _ => rfl⟩))) da_nil)))
  (dss_cons (ds_set sc_law_beats.nd rfl (by first | exact Or.inl rfl | exact Or.inr rfl) (de_if (t_lt (de_var (pv 5)) (f_len rfl B.b_len (da_cons (de_var (pv 0)) da_nil))) (x_ix hr (x_ix hr (de_var (pv 0)) (de_var (pv 5)) (fun _ _ => rfl)) (de_var (pv 14)) (fun _ _ => rfl)) de_int))
  (dss_one (ds_set sc_law_beats.nd rfl (by first | exact Or.inl rfl | exact Or.inr rfl) (de_or (de_var (pv 13)) (de_one (de_and (c_gt (de_var (pv 15)) de_int) (de_one (c_gt (b_add (de_var (pv 15)) (de_var (pv 16))) (de_var (pv 3))))))))))))
  (dss_one (ds_set sc_law_beats.nd rfl (by first | exact Or.inl rfl | exact Or.inr rfl) (b_add (de_var (pv 8)) (de_if (dt_val (de_var (pv 13))) (DN.new (dn_disp da_nil)) (DN.new (dn_disp (da_cons (de_var (pv 9)) da_nil))))))))))
  (dss_one (ds_ret (DN.new (n_sortedD hr rfl B.b_sorted (da_cons (de_fgt (de_var (pv 8))) da_nil)))))))))))
theorem sc_law_pick : FnScope ["town", "some"] ["town", "some"] (defScope s_law_pick) := ⟨rfl, rfl, rfl, by decide +kernel, rfl, by decide +kernel, by decide +kernel⟩
theorem ok_law_pick (B : Bs K mg) : Cal P w K mg base 2 "_law_pick" 2 G_law_pick := by
  obtain ⟨f, fd, F, hm⟩ := B.d_law_pick
  refine ⟨f, fd, ["town", "some"], fn_ref (fn_ok (N := ["town", "some"]) (ps := ["town", "some"]) (k := 1) (fb := F_law_pick) F sc_law_pick (by decide) ?_) ref_gc, hm, F.kp, F.bindsN fun _ _ _ _ _ _ us hl => match us, hl with | [_, _], _ => rfl⟩
  intro cdv A outer s H E hr
  exact (dss_one (ds_ret (x_ix hr (de_var (pv 1)) (de_cal (ok_law_draw B) hr (by decide) rfl (takes_of rfl rfl rfl rfl) (da_cons (de_var (pv 0)) (da_cons (f_len rfl B.b_len (da_cons (de_var (pv 1)) da_nil)) da_nil))) (fun _ _ => rfl))))
theorem sc_is_throw : FnScope ["thing", "lines"] ["thing", "lines"] (defScope s_is_throw) := ⟨rfl, rfl, rfl, by decide +kernel, rfl, by decide +kernel, by decide +kernel⟩
theorem ok_is_throw (B : Bs K mg) : Cal P w K mg base 2 "is_throw" 2 G_is_throw := by
  obtain ⟨f, fd, F, hm⟩ := B.d_is_throw
  refine ⟨f, fd, ["thing", "lines"], fn_ref (fn_ok (N := ["thing", "lines"]) (ps := ["thing", "lines"]) (k := 1) (fb := F_is_throw) F sc_is_throw (by decide) ?_) ref_gc, hm, F.kp, F.bindsN fun _ _ _ _ _ _ us hl => match us, hl with | [_, _], _ => rfl⟩
  intro cdv A outer s H E hr
  exact (dss_cons (ds_if (DW.dt (dw_or (dt_not (dt_val (de_isi "tuple" (by simp) rfl B.b_isinstance rfl B.b_tuple (by decide +kernel) (de_var (pv 0))))) (dw_or1 (t_ne hr (f_len rfl B.b_len (da_cons (de_var (pv 0)) da_nil)) de_int))))
  (dss_one (ds_ret de_bl))
  dss_nil)
  (dss_one (ds_ret (de_and (de_cal (ok_is_whole B) hr (by decide) rfl (takes_of rfl rfl rfl rfl) (da_cons (x_ix hr (de_var (pv 0)) de_int (fun _ _ => rfl)) (da_cons de_int (da_cons (g_int rfl B.c_MOST_HIGH) da_nil)))) (de_one (de_cal (ok_is_whole B) hr (by decide) rfl (takes_of rfl rfl rfl rfl) (da_cons (x_ix hr (de_var (pv 0)) de_int (fun _ _ => rfl)) (da_cons de_int (da_cons (b_sub (de_var (pv 1)) de_int) da_nil)))))))))
theorem sc_is_beat : FnScope ["thing", "lines", "own", "one"] ["thing", "lines"] (defScope s_is_beat) := ⟨rfl, rfl, rfl, by decide +kernel, rfl, by decide +kernel, by decide +kernel⟩
theorem ok_is_beat (B : Bs K mg) : Cal P w K mg base 3 "is_beat" 2 G_is_beat := by
  obtain ⟨f, fd, F, hm⟩ := B.d_is_beat
  refine ⟨f, fd, ["thing", "lines"], fn_ref (fn_ok (N := ["thing", "lines", "own", "one"]) (ps := ["thing", "lines"]) (k := 2) (fb := F_is_beat) F sc_is_beat (by decide) ?_) ref_gc, hm, F.kp, F.bindsN fun _ _ _ _ _ _ us hl => match us, hl with | [_, _], _ => rfl⟩
  intro cdv A outer s H E hr
  exact (dss_cons (ds_if (DW.dt (dw_or (dt_not (dt_val (de_isi "tuple" (by simp) rfl B.b_isinstance rfl B.b_tuple (by decide +kernel) (de_var (pv 0))))) (dw_or1 (t_ne hr (f_len rfl B.b_len (da_cons (de_var (pv 0)) da_nil)) (de_var (pv 1))))))
  (dss_one (ds_ret de_bl))
  dss_nil)
  (dss_cons (ds_for (passes_of rfl) rfl (di_seq (de_var (pv 0))) (dg_name sc_is_beat.nd rfl (by first | exact Or.inl rfl | exact Or.inr rfl))
  (dss_cons (ds_if (DW.dt (dw_or (dt_not (dt_val (de_isi "tuple" (by simp) rfl B.b_isinstance rfl B.b_tuple (by decide +kernel) (de_var (pv 2))))) (dw_or (t_gt (f_len rfl B.b_len (da_cons (de_var (pv 2)) da_nil)) (g_int rfl B.c_MOST_ROOM)) (dw_or1 (dt_not (dt_val (f_all rfl rfl B.b_all (da_cons (DN.new (dn_compW rfl rfl sc_is_beat.nd (own := [("one", 3)]) (vs := [3]) (us := []) (blkOk_by (by kernel_rfl)) rfl (di_seq (de_var (pv 2))) (fun _ _ _ _ _ => (dg_name sc_is_beat.nd rfl (by first | exact Or.inl rfl | exact Or.inr rfl))) (fun _ _ _ _ _ => dts_nil) (fun _ _ _ _ _ _ => (inner_elt (fun _ _ h => h) rfl (de_cal (ok_is_throw B) hr (by decide) rfl (takesF _) (da_cons (de_var (pv 3)) (da_cons (de_var (pv 1)) da_nil))))) (by intro _; rfl) (by intro g h; cases h <;> exact ⟨rfl, fun _ _ => rfl⟩))) da_nil))))))))
  (dss_one (ds_ret de_bl))
  dss_nil)
  (dss_one (ds_if (t_ne hr (DN.new (n_listD rfl B.b_list (da_cons (de_var (pv 2)) da_nil))) (de_rev (DN.new (n_sortedD hr rfl B.b_sorted (da_cons (de_var (pv 2)) da_nil)))))
  (dss_one (ds_ret de_bl))
  dss_nil))))
  (dss_one (ds_ret de_bl))))
theorem sc_stepped : FnScope ["state", "beat", "at", "lines", "rows", "line", "own", "k", "row", "high", "goal", "number"] ["state", "beat", "at"] (defScope s_stepped) := ⟨rfl, rfl, rfl, by decide +kernel, rfl, by decide +kernel, by decide +kernel⟩
theorem ok_stepped (B : Bs K mg) : Cal P w K mg base 3 "stepped" 3 G_stepped := by
  obtain ⟨f, fd, F, hm⟩ := B.d_stepped
  refine ⟨f, fd, ["state", "beat", "at"], fn_ref (fn_ok (N := ["state", "beat", "at", "lines", "rows", "line", "own", "k", "row", "high", "goal", "number"]) (ps := ["state", "beat", "at"]) (k := 2) (fb := F_stepped) F sc_stepped (by decide) ?_) ref_gc, hm, F.kp, F.bindsN fun _ _ _ _ _ _ us hl => match us, hl with | [_, _, _], _ => rfl⟩
  intro cdv A outer s H E hr
  exact (dss_cons (ds_set sc_stepped.nd rfl (by first | exact Or.inl rfl | exact Or.inr rfl) (f_len rfl B.b_len (da_cons (de_var (pv 1)) da_nil)))
  (dss_cons (ds_asgN (ps_setCompW rfl rfl sc_stepped.nd rfl rfl rfl (own := [("k", 7)]) (vs := [7]) (us := []) (blkOk_by (by kernel_rfl)) rfl (di_range1 rfl B.b_range (da_cons (g_int rfl B.c_MOST_HIGH) da_nil)) (fun _ _ _ _ _ => (dg_name sc_stepped.nd rfl (by first | exact Or.inl rfl | exact Or.inr rfl))) (fun _ _ _ _ _ => dts_nil) (fun _ _ _ _ _ _ => (inner_elt (fun _ _ h => h) rfl (DN.alloc (dn_compW rfl rfl sc_stepped.nd (own := [("line", 5)]) (vs := [5]) (us := []) (blkOk_by (by kernel_rfl)) rfl (di_range1 rfl B.b_range (da_cons (de_var (pv 3)) da_nil)) (fun _ _ _ _ _ => (dg_name sc_stepped.nd rfl (by first | exact Or.inl rfl | exact Or.inr rfl))) (fun _ _ _ _ _ => dts_nil) (fun _ _ _ _ _ _ => (inner_elt (fun _ _ h => h) rfl (de_cal (ok_due_at B) hr (by decide) rfl (takesF _) (da_cons (de_var (pv 0)) (da_cons (b_add (de_var (pv 7)) de_int) (da_cons (de_var (pv 5)) da_nil)))))) (by intro _; rfl) (by intro g h; cases h <;> exact ⟨rfl, fun _ _ => rfl⟩))))) (by intro _; rfl) (by intro g h; cases h <;> exact ⟨rfl, fun _ _ => rfl⟩)))
  (dss_cons (ds_for (passes_of rfl) rfl (di_enum rfl B.b_enumerate (da_cons (de_var (pv 1)) da_nil)) (dg_tup rfl (dgs_cons (dg_name sc_stepped.nd rfl (by first | exact Or.inl rfl | exact Or.inr rfl)) (dgs_cons (dg_name sc_stepped.nd rfl (by first | exact Or.inl rfl | exact Or.inr rfl)) dgs_nil)))
  (dss_cons (ds_if (t_ne hr (f_len rfl B.b_len (da_cons (de_var (pv 6)) da_nil)) (de_cal (ok_due_at B) hr (by decide) rfl (takes_of rfl rfl rfl rfl) (da_cons (de_var (pv 0)) (da_cons de_int (da_cons (de_var (pv 5)) da_nil)))))
  (dss_one (ds_raiseC B.cl (okClashInit B) hr (by decide) rfl (takes_of rfl rfl rfl rfl) B.x_Clash rfl (da_cons (de_var (pv 2)) (da_cons (de_var (pv 5)) da_nil))))
  dss_nil)
  (dss_one (ds_for (passes_of rfl) rfl (di_seq (de_var (pv 6))) (dg_tup rfl (dgs_cons (dg_name sc_stepped.nd rfl (by first | exact Or.inl rfl | exact Or.inr rfl)) (dgs_cons (dg_name sc_stepped.nd rfl (by first | exact Or.inl rfl | exact Or.inr rfl)) dgs_nil)))
  (dss_one (ds_augItem hr pip_add o_iadd (x_ix hr (de_var (pv 4)) (b_sub (de_var (pv 9)) de_int) (fun _ _ => rfl)) (de_var (pv 10)) de_int))))))
  (dss_cons (ds_for (passes_of rfl) rfl (di_enum rfl B.b_enumerate (da_cons (de_var (pv 4)) da_nil)) (dg_tup rfl (dgs_cons (dg_name sc_stepped.nd rfl (by first | exact Or.inl rfl | exact Or.inr rfl)) (dgs_cons (dg_name sc_stepped.nd rfl (by first | exact Or.inl rfl | exact Or.inr rfl)) dgs_nil)))
  (dss_one (ds_for (passes_of rfl) rfl (di_enum rfl B.b_enumerate (da_cons (de_var (pv 8)) da_nil)) (dg_tup rfl (dgs_cons (dg_name sc_stepped.nd rfl (by first | exact Or.inl rfl | exact Or.inr rfl)) (dgs_cons (dg_name sc_stepped.nd rfl (by first | exact Or.inl rfl | exact Or.inr rfl)) dgs_nil)))
  (dss_one (ds_if (t_gt (de_var (pv 11)) (g_int rfl B.c_MOST_ROOM))
  (dss_one (ds_raiseC B.cl (okClashInit B) hr (by decide) rfl (takes_of rfl rfl rfl rfl) B.x_Clash rfl (da_cons (b_add (b_add (de_var (pv 2)) (de_var (pv 7))) de_int) (da_cons (de_var (pv 5)) da_nil))))
  dss_nil)))))
  (dss_one (ds_ret (de_cal (ok_trimmed B) hr (by decide) rfl (takes_of rfl rfl rfl rfl) (da_cons (de_var (pv 4)) da_nil))))))))
theorem sc_step : FnScope ["state", "beat", "lines"] ["state", "beat", "lines"] (defScope s_step) := ⟨rfl, rfl, rfl, by decide +kernel, rfl, by decide +kernel, by decide +kernel⟩
theorem fo_step (B : Bs K mg) : ∃ f fd, FunD K "step" "step" (defArgs s_step) (defBody s_step) (defScope s_step) [] [] f fd ∧ mg "step" = some (.ref f) ∧ FnOk P w K mg base (CX P w) 4 f fd ["state", "beat", "lines"] (spD K mg 3 G_step) := by
  obtain ⟨f, fd, F, hm⟩ := B.d_step
  refine ⟨f, fd, F, hm, fn_ref (fn_ok (N := ["state", "beat", "lines"]) (ps := ["state", "beat", "lines"]) (k := 3) (fb := F_step) F sc_step (by decide) ?_) ref_gc⟩
  intro cdv A outer s H E hr
  exact (dss_cons (ds_expr (de_cal (ok_look_number B) hr (by decide) rfl (takes_of rfl rfl rfl rfl) (da_cons (de_var (pv 2)) (da_cons de_int (da_cons (g_int rfl B.c_MOST_LINES) da_nil)))))
  (dss_cons (ds_expr (de_cal (ok_look_state B) hr (by decide) rfl (takes_of rfl rfl rfl rfl) (da_cons (de_var (pv 0)) (da_cons (de_var (pv 2)) da_nil))))
  (dss_cons (ds_if (dt_not (dt_val (de_cal (ok_is_beat B) hr (by decide) rfl (takes_of rfl rfl rfl rfl) (da_cons (de_var (pv 1)) (da_cons (de_var (pv 2)) da_nil)))))
  (dss_one (ds_raise rfl (takes_of rfl rfl rfl rfl) B.x_BadRow B.e_BadRow rfl))
  dss_nil)
  (dss_one (ds_ret (de_cal (ok_stepped B) hr (by decide) rfl (takes_of rfl rfl rfl rfl) (da_cons (de_var (pv 0)) (da_cons (de_var (pv 1)) (da_cons de_int da_nil)))))))))
theorem okK_step_lines (B : Bs K mg) : CalK P w K mg base 4 "step" 3 G_step 2 ["lines"] K_step_lines := by
  obtain ⟨f, fd, F, hm, ok⟩ := fo_step (P := P) (w := w) (base := base) B
  exact ⟨f, fd, ["state", "beat", "lines"], _, _, ok, hm, F.kp, kbn_all F 2 ["lines"] [0, 1, 2] (fun _ _ _ _ _ _ us ws h1 h2 => match us, h1, ws, h2 with | [_, _], _, [_], _ => rfl), fun H ρ ds es vs zs r1 r2 => RepVs.pick (r1.append r2) [0, 1, 2]⟩
theorem sc_balls_in : FnScope ["state", "lines", "beat", "number"] ["state", "lines"] (defScope s_balls_in) := ⟨rfl, rfl, rfl, by decide +kernel, rfl, by decide +kernel, by decide +kernel⟩
theorem fo_balls_in (B : Bs K mg) : ∃ f fd, FunD K "balls_in" "balls_in" (defArgs s_balls_in) (defBody s_balls_in) (defScope s_balls_in) [] [] f fd ∧ mg "balls_in" = some (.ref f) ∧ FnOk P w K mg base (CX P w) 4 f fd ["state", "lines"] (spD K mg 2 G_balls_in) := by
  obtain ⟨f, fd, F, hm⟩ := B.d_balls_in
  refine ⟨f, fd, F, hm, fn_ref (fn_ok (N := ["state", "lines", "beat", "number"]) (ps := ["state", "lines"]) (k := 3) (fb := F_balls_in) F sc_balls_in (by decide) ?_) ref_gc⟩
  intro cdv A outer s H E hr
  exact (dss_cons (ds_expr (de_cal (ok_look_number B) hr (by decide) rfl (takes_of rfl rfl rfl rfl) (da_cons (de_var (pv 1)) (da_cons de_int (da_cons (g_int rfl B.c_MOST_LINES) da_nil)))))
  (dss_cons (ds_expr (de_cal (ok_look_state B) hr (by decide) rfl (takes_of rfl rfl rfl rfl) (da_cons (de_var (pv 0)) (da_cons (de_var (pv 1)) da_nil))))
  (dss_one (ds_ret (f_sum rfl rfl B.b_sum (da_cons (DN.new (dn_compW rfl rfl sc_balls_in.nd (own := [("beat", 2), ("number", 3)]) (vs := [2]) (us := ([3] ++ [])) (blkOk_by (by kernel_rfl)) rfl (di_seq (de_var (pv 0))) (fun _ _ _ _ _ => (dg_name sc_balls_in.nd rfl (by first | exact Or.inl rfl | exact Or.inr rfl))) (fun _ _ _ _ _ => dts_nil) (fun _ _ _ _ _ _ => (inner_forW rfl (fun _ _ h => h) rfl rfl (by intro g h; cases h <;> exact ⟨rfl, fun _ => rfl⟩) (di_seq (de_var (pv 2))) (dg_name sc_balls_in.nd rfl (by first | exact Or.inl rfl | exact Or.inr rfl)) dts_nil (inner_elt (fun _ _ h => h) rfl (de_var (pv 3))))) (by intro _; rfl) (by intro g h; cases h <;> exact ⟨rfl, fun _ _ => rfl⟩))) da_nil))))))
theorem okK_balls_in_lines (B : Bs K mg) : CalK P w K mg base 4 "balls_in" 2 G_balls_in 1 ["lines"] K_balls_in_lines := by
  obtain ⟨f, fd, F, hm, ok⟩ := fo_balls_in (P := P) (w := w) (base := base) B
  exact ⟨f, fd, ["state", "lines"], _, _, ok, hm, F.kp, kbn_all F 1 ["lines"] [0, 1] (fun _ _ _ _ _ _ us ws h1 h2 => match us, h1, ws, h2 with | [_], _, [_], _ => rfl), fun H ρ ds es vs zs r1 r2 => RepVs.pick (r1.append r2) [0, 1]⟩
theorem sc_law : FnScope ["script", "town", "width", "count", "due", "state", "turn_of", "tall", "space", "told", "beat", "k", "at"] ["script"] (defScope s_law) := ⟨rfl, rfl, rfl, by decide +kernel, rfl, by decide +kernel, by decide +kernel⟩
theorem body_law {f : Addr} {fd : FuncData} (B : Bs K mg) (F : FnP K "law" s_law f fd) : FnOk P w K mg base (CX P w) 10 f fd ["script"] (spD K mg 1 G_law) := by
  refine fn_ref (fn_ok (N := ["script", "town", "width", "count", "due", "state", "turn_of", "tall", "space", "told", "beat", "k", "at"]) (ps := ["script"]) (k := 9) (fb := F_law) F sc_law (by decide) ?_) ref_gc
  intro cdv A outer s H E hr
  exact (dss_cons (ds_set sc_law.nd rfl (by first | exact Or.inl rfl | exact Or.inr rfl) (de_cal (ok_law_town B) hr (by decide) rfl (takes_of rfl rfl rfl rfl) (da_cons (de_var (pv 0)) da_nil)))
  (dss_cons (ds_set sc_law.nd rfl (by first | exact Or.inl rfl | exact Or.inr rfl) (b_add de_int (de_cal (ok_law_draw B) hr (by decide) rfl (takes_of rfl rfl rfl rfl) (da_cons (de_var (pv 1)) (da_cons de_int da_nil)))))
  (dss_cons (ds_set sc_law.nd rfl (by first | exact Or.inl rfl | exact Or.inr rfl) (de_cal (ok_law_draw B) hr (by decide) rfl (takes_of rfl rfl rfl rfl) (da_cons (de_var (pv 1)) (da_cons de_int da_nil))))
  (dss_cons (ds_par rfl sc_law.nd rfl rfl (by decide) rfl rfl (da_cons (b_add de_int (de_cal (ok_law_draw B) hr (by decide) rfl (takes_of rfl rfl rfl rfl) (da_cons (de_var (pv 1)) (da_cons (de_if (t_eq hr (de_var (pv 2)) de_int) de_int de_int) da_nil)))) (da_cons (b_add de_int (de_cal (ok_law_draw B) hr (by decide) rfl (takes_of rfl rfl rfl rfl) (da_cons (de_var (pv 1)) (da_cons de_int da_nil)))) da_nil)) rfl)
  (dss_cons (ds_asgN (ps_setCompW rfl rfl sc_law.nd rfl rfl rfl (own := [("k", 11)]) (vs := [11]) (us := []) (blkOk_by (by kernel_rfl)) rfl (di_range1 rfl B.b_range (da_cons de_int da_nil)) (fun _ _ _ _ _ => (dg_name sc_law.nd rfl (by first | exact Or.inl rfl | exact Or.inr rfl))) (fun _ _ _ _ _ => dts_nil) (fun _ _ _ _ _ _ => (inner_elt (fun _ _ h => h) rfl (DN.new (dn_compW rfl rfl sc_law.nd (own := [("at", 12)]) (vs := [12]) (us := []) (blkOk_by (by kernel_rfl)) rfl (di_range1 rfl B.b_range (da_cons (de_var (pv 2)) da_nil)) (fun _ _ _ _ _ => (dg_name sc_law.nd rfl (by first | exact Or.inl rfl | exact Or.inr rfl))) (fun _ _ _ _ _ => dts_nil) (fun _ _ _ _ _ _ => (inner_elt (fun _ _ h => h) rfl (de_if (t_lt (b_add (b_mul (de_var (pv 11)) (de_var (pv 2))) (de_var (pv 12))) (de_var (pv 3))) de_int de_int))) (by intro _; rfl) (by intro g h; cases h <;> exact ⟨rfl, fun _ _ => rfl⟩))))) (by intro _; rfl) (by intro g h; cases h <;> exact ⟨rfl, fun _ _ => rfl⟩)))
  (dss_cons (ds_if (t_ne hr (de_calK (okK_ground_lines B) hr (by decide) rfl (takes_of rfl rfl rfl rfl) rfl (da_cons (de_var (pv 3)) da_nil) (dk_cons (de_var (pv 2)) dk_nil)) (de_cal (ok_law_state B) hr (by decide) rfl (takes_of rfl rfl rfl rfl) (da_cons (de_var (pv 4)) da_nil)))
  (dss_one (ds_ret de_bl))
  dss_nil)
  (dss_cons (ds_set sc_law.nd rfl (by first | exact Or.inl rfl | exact Or.inr rfl) (de_calK (okK_ground_lines B) hr (by decide) rfl (takes_of rfl rfl rfl rfl) rfl (da_cons (de_var (pv 3)) da_nil) (dk_cons (de_var (pv 2)) dk_nil)))
  (dss_cons (ds_for (passes_of rfl) rfl (di_range1 rfl B.b_range (da_cons de_int da_nil)) (dg_name sc_law.nd rfl (by first | exact Or.inl rfl | exact Or.inr rfl))
  (dss_cons (ds_set sc_law.nd rfl (by first | exact Or.inl rfl | exact Or.inr rfl) (de_calK (okK_next_beats_lines_most_room B) hr (by decide) rfl (takes_of rfl rfl rfl rfl) rfl (da_cons (de_var (pv 5)) da_nil) (dk_cons (de_var (pv 2)) (dk_cons (de_var (pv 7)) (dk_cons (de_var (pv 8)) dk_nil)))))
  (dss_cons (ds_if (t_ne hr (de_var (pv 9)) (de_cal (ok_law_beats B) hr (by decide) rfl (takes_of rfl rfl rfl rfl) (da_cons (de_var (pv 5)) (da_cons (de_var (pv 2)) (da_cons (de_var (pv 7)) (da_cons (de_var (pv 8)) da_nil))))))
  (dss_one (ds_ret de_bl))
  dss_nil)
  (dss_cons (ds_if (DW.dt (dw_and (t_eq hr (de_var (pv 8)) de_int) (dw_and1 (t_ne hr (de_calK (okK_next_beats_lines_most B) hr (by decide) rfl (takes_of rfl rfl rfl rfl) rfl (da_cons (de_var (pv 5)) da_nil) (dk_cons (de_var (pv 2)) (dk_cons (de_var (pv 7)) dk_nil))) (de_var (pv 9))))))
  (dss_one (ds_ret de_bl))
  dss_nil)
  (dss_cons (ds_if (t_eq hr (de_var (pv 9)) (DN.new (dn_disp da_nil)))
  (dss_one (ds_ret de_bl))
  dss_nil)
  (dss_cons (ds_set sc_law.nd rfl (by first | exact Or.inl rfl | exact Or.inr rfl) (de_cal (ok_law_pick B) hr (by decide) rfl (takes_of rfl rfl rfl rfl) (da_cons (de_var (pv 1)) (da_cons (de_var (pv 9)) da_nil))))
  (dss_cons (ds_set sc_law.nd rfl (by first | exact Or.inl rfl | exact Or.inr rfl) (de_calK (okK_step_lines B) hr (by decide) rfl (takes_of rfl rfl rfl rfl) rfl (da_cons (de_var (pv 5)) (da_cons (de_var (pv 10)) da_nil)) (dk_cons (de_var (pv 2)) dk_nil)))
  (dss_one (ds_if (t_ne hr (de_calK (okK_balls_in_lines B) hr (by decide) rfl (takes_of rfl rfl rfl rfl) rfl (da_cons (de_var (pv 5)) da_nil) (dk_cons (de_var (pv 2)) dk_nil)) (de_var (pv 3)))
  (dss_one (ds_ret de_bl))
  dss_nil)))))))))
  (dss_one (ds_ret de_bl))))))))))
end
end J

namespace J
open PySem PySem.Spec PyProof.Rows L2
def d_law_town : He.DefD := ⟨("_law_town", none), "_law_town", "_law_town", defArgs s_law_town, defBody s_law_town, defScope s_law_town, [], []⟩
def d_law_draw : He.DefD := ⟨("_law_draw", none), "_law_draw", "_law_draw", defArgs s_law_draw, defBody s_law_draw, defScope s_law_draw, [], []⟩
def d_is_whole : He.DefD := ⟨("is_whole", none), "is_whole", "is_whole", defArgs s_is_whole, defBody s_is_whole, defScope s_is_whole, [], []⟩
def d_look_number : He.DefD := ⟨("look_number", none), "look_number", "look_number", defArgs s_look_number, defBody s_look_number, defScope s_look_number, [], []⟩
def d_trimmed : He.DefD := ⟨("trimmed", none), "trimmed", "trimmed", defArgs s_trimmed, defBody s_trimmed, defScope s_trimmed, [], []⟩
def d_ground_of : He.DefD := ⟨("ground_of", none), "ground_of", "ground_of", defArgs s_ground_of, defBody s_ground_of, defScope s_ground_of, [], []⟩
def d_ground : He.DefD := ⟨("ground", none), "ground", "ground", defArgs s_ground, defBody s_ground, defScope s_ground, [], []⟩
def d_law_state : He.DefD := ⟨("_law_state", none), "_law_state", "_law_state", defArgs s_law_state, defBody s_law_state, defScope s_law_state, [], []⟩
def d_is_state : He.DefD := ⟨("is_state", none), "is_state", "is_state", defArgs s_is_state, defBody s_is_state, defScope s_is_state, [], []⟩
def d_look_state : He.DefD := ⟨("look_state", none), "look_state", "look_state", defArgs s_look_state, defBody s_look_state, defScope s_look_state, [], []⟩
def d_due_at : He.DefD := ⟨("due_at", none), "due_at", "due_at", defArgs s_due_at, defBody s_due_at, defScope s_due_at, [], []⟩
def d_dealt : He.DefD := ⟨("dealt", none), "dealt", "dealt", defArgs s_dealt, defBody s_dealt, defScope s_dealt, [], []⟩
def d_choices : He.DefD := ⟨("choices", none), "choices", "choices", defArgs s_choices, defBody s_choices, defScope s_choices, [], []⟩
def d_next_beats : He.DefD := ⟨("next_beats", none), "next_beats", "next_beats", defArgs s_next_beats, defBody s_next_beats, defScope s_next_beats, [], [("room", .int 1)]⟩
def d_law_lots : He.DefD := ⟨("_law_lots", none), "_law_lots", "_law_lots", defArgs s_law_lots, defBody s_law_lots, defScope s_law_lots, [], []⟩
def d_law_beats : He.DefD := ⟨("_law_beats", none), "_law_beats", "_law_beats", defArgs s_law_beats, defBody s_law_beats, defScope s_law_beats, [], []⟩
def d_law_pick : He.DefD := ⟨("_law_pick", none), "_law_pick", "_law_pick", defArgs s_law_pick, defBody s_law_pick, defScope s_law_pick, [], []⟩
def d_is_throw : He.DefD := ⟨("is_throw", none), "is_throw", "is_throw", defArgs s_is_throw, defBody s_is_throw, defScope s_is_throw, [], []⟩
def d_is_beat : He.DefD := ⟨("is_beat", none), "is_beat", "is_beat", defArgs s_is_beat, defBody s_is_beat, defScope s_is_beat, [], []⟩
def d_stepped : He.DefD := ⟨("stepped", none), "stepped", "stepped", defArgs s_stepped, defBody s_stepped, defScope s_stepped, [], []⟩
def d_step : He.DefD := ⟨("step", none), "step", "step", defArgs s_step, defBody s_step, defScope s_step, [], []⟩
def d_balls_in : He.DefD := ⟨("balls_in", none), "balls_in", "balls_in", defArgs s_balls_in, defBody s_balls_in, defScope s_balls_in, [], []⟩
def d_law : He.DefD := ⟨("law", none), "law", "law", defArgs s_law, defBody s_law, defScope s_law, [], []⟩
def d_clash : He.DefD := ⟨("Clash", some "__init__"), "__init__", "Clash.__init__", defArgs s_clash, defBody s_clash, defScope s_clash, [], []⟩
def fn : List He.DefD := ([d_law_town, d_law_draw, d_is_whole, d_look_number, d_trimmed, d_ground_of, d_ground, d_law_state, d_is_state, d_look_state, d_due_at, d_dealt, d_choices, d_next_beats, d_law_lots, d_law_beats, d_law_pick, d_is_throw, d_is_beat, d_stepped, d_step, d_balls_in, d_law, d_clash] : List He.DefD)
def fa : List He.Fa := ([.glo "_law_town", .glo "_law_draw", .glo "is_whole", .glo "look_number", .glo "trimmed", .glo "ground_of", .glo "ground", .glo "_law_state", .glo "is_state", .glo "look_state", .glo "due_at", .glo "dealt", .glo "choices", .glo "next_beats", .glo "_law_lots", .glo "_law_beats", .glo "_law_pick", .glo "is_throw", .glo "is_beat", .glo "stepped", .glo "step", .glo "balls_in", .glo "law", .free "all", .free "any", .free "bool", .free "dict", .free "enumerate", .free "int", .free "isinstance"] : List He.Fa) ++ ([.free "len", .free "list", .free "max", .free "range", .free "sorted", .free "sum", .free "tuple", .int "MOST_HIGH" 15, .int "MOST_LINES" 6, .int "MOST_ROOM" 4, .glo "BadNumber", .glo "BadRow", .glo "BadState", .glo "Clash", .exc "BadNumber", .exc "BadRow", .exc "BadState"] : List He.Fa)
abbrev loose : List PySem.Str := (["ArcError", "BadNumber", "BadRow", "BadState", "Clash", "is_whole", "look_number", "MOST_LINES", "MOST_HIGH", "MOST_ROOM", "is_throw", "is_beat", "is_state", "look_state", "trimmed", "due_at", "stepped", "step", "balls_in", "ground", "ground_of", "dealt", "choices", "next_beats", "_law_town", "_law_draw", "_law_pick", "_law_state", "_law_lots", "_law_beats"] : List PySem.Str)
abbrev Rr : PySem.W.OpenRow := PySem.W.OpenLaw.row PySem.Challenge.rw_handsarc_k04_whole_next_beats
def exF : PySem.W.Frag → Bool := fun K => true && clB K
abbrev hk : PySem.W.Hook := hookJ 5 fa fn exF
def ob (s : PySem.W.SharedT) : He.AlD × Bool := obsJ 5 fa fn exF (HandSHeadRun.getT s)
theorem ob_eq (s : PySem.W.SharedT) : ob s = hk.obs s.abs := obsJ_eq (HandSHeadRun.getT_eq s)
theorem run_top (w : World) : HandSHeadRun.RunEq Rr (PySem.W.view Rr.prog [34]) hk ob 6000 loose w := by
  intro os
  kernel_rfl
theorem bs {K : PySem.W.Frag} {h : Heap} {mg : Str → Option Value} (X : K.In h) (G : h.Ns mainGlobals mg) (c : He.SaysD fa fn K) (ce : exF K = true) : Bs K mg where
  d_law_town := by obtain ⟨fd, F⟩ := c.def_ 0 (d := d_law_town) rfl; exact ⟨_, fd, F, He.glo_ok X G (c.fact 0 (f := .glo "_law_town") rfl)⟩
  d_law_draw := by obtain ⟨fd, F⟩ := c.def_ 1 (d := d_law_draw) rfl; exact ⟨_, fd, F, He.glo_ok X G (c.fact 1 (f := .glo "_law_draw") rfl)⟩
  d_is_whole := by obtain ⟨fd, F⟩ := c.def_ 2 (d := d_is_whole) rfl; exact ⟨_, fd, F, He.glo_ok X G (c.fact 2 (f := .glo "is_whole") rfl)⟩
  d_look_number := by obtain ⟨fd, F⟩ := c.def_ 3 (d := d_look_number) rfl; exact ⟨_, fd, F, He.glo_ok X G (c.fact 3 (f := .glo "look_number") rfl)⟩
  d_trimmed := by obtain ⟨fd, F⟩ := c.def_ 4 (d := d_trimmed) rfl; exact ⟨_, fd, F, He.glo_ok X G (c.fact 4 (f := .glo "trimmed") rfl)⟩
  d_ground_of := by obtain ⟨fd, F⟩ := c.def_ 5 (d := d_ground_of) rfl; exact ⟨_, fd, F, He.glo_ok X G (c.fact 5 (f := .glo "ground_of") rfl)⟩
  d_ground := by obtain ⟨fd, F⟩ := c.def_ 6 (d := d_ground) rfl; exact ⟨_, fd, F, He.glo_ok X G (c.fact 6 (f := .glo "ground") rfl)⟩
  d_law_state := by obtain ⟨fd, F⟩ := c.def_ 7 (d := d_law_state) rfl; exact ⟨_, fd, F, He.glo_ok X G (c.fact 7 (f := .glo "_law_state") rfl)⟩
  d_is_state := by obtain ⟨fd, F⟩ := c.def_ 8 (d := d_is_state) rfl; exact ⟨_, fd, F, He.glo_ok X G (c.fact 8 (f := .glo "is_state") rfl)⟩
  d_look_state := by obtain ⟨fd, F⟩ := c.def_ 9 (d := d_look_state) rfl; exact ⟨_, fd, F, He.glo_ok X G (c.fact 9 (f := .glo "look_state") rfl)⟩
  d_due_at := by obtain ⟨fd, F⟩ := c.def_ 10 (d := d_due_at) rfl; exact ⟨_, fd, F, He.glo_ok X G (c.fact 10 (f := .glo "due_at") rfl)⟩
  d_dealt := by obtain ⟨fd, F⟩ := c.def_ 11 (d := d_dealt) rfl; exact ⟨_, fd, F, He.glo_ok X G (c.fact 11 (f := .glo "dealt") rfl)⟩
  d_choices := by obtain ⟨fd, F⟩ := c.def_ 12 (d := d_choices) rfl; exact ⟨_, fd, F, He.glo_ok X G (c.fact 12 (f := .glo "choices") rfl)⟩
  d_next_beats := by obtain ⟨fd, F⟩ := c.def_ 13 (d := d_next_beats) rfl; exact ⟨_, fd, F, He.glo_ok X G (c.fact 13 (f := .glo "next_beats") rfl)⟩
  d_law_lots := by obtain ⟨fd, F⟩ := c.def_ 14 (d := d_law_lots) rfl; exact ⟨_, fd, F, He.glo_ok X G (c.fact 14 (f := .glo "_law_lots") rfl)⟩
  d_law_beats := by obtain ⟨fd, F⟩ := c.def_ 15 (d := d_law_beats) rfl; exact ⟨_, fd, F, He.glo_ok X G (c.fact 15 (f := .glo "_law_beats") rfl)⟩
  d_law_pick := by obtain ⟨fd, F⟩ := c.def_ 16 (d := d_law_pick) rfl; exact ⟨_, fd, F, He.glo_ok X G (c.fact 16 (f := .glo "_law_pick") rfl)⟩
  d_is_throw := by obtain ⟨fd, F⟩ := c.def_ 17 (d := d_is_throw) rfl; exact ⟨_, fd, F, He.glo_ok X G (c.fact 17 (f := .glo "is_throw") rfl)⟩
  d_is_beat := by obtain ⟨fd, F⟩ := c.def_ 18 (d := d_is_beat) rfl; exact ⟨_, fd, F, He.glo_ok X G (c.fact 18 (f := .glo "is_beat") rfl)⟩
  d_stepped := by obtain ⟨fd, F⟩ := c.def_ 19 (d := d_stepped) rfl; exact ⟨_, fd, F, He.glo_ok X G (c.fact 19 (f := .glo "stepped") rfl)⟩
  d_step := by obtain ⟨fd, F⟩ := c.def_ 20 (d := d_step) rfl; exact ⟨_, fd, F, He.glo_ok X G (c.fact 20 (f := .glo "step") rfl)⟩
  d_balls_in := by obtain ⟨fd, F⟩ := c.def_ 21 (d := d_balls_in) rfl; exact ⟨_, fd, F, He.glo_ok X G (c.fact 21 (f := .glo "balls_in") rfl)⟩
  d_law := by obtain ⟨fd, F⟩ := c.def_ 22 (d := d_law) rfl; exact ⟨_, fd, F, He.glo_ok X G (c.fact 22 (f := .glo "law") rfl)⟩
  b_all := He.free_ok X G (c.fact 23 (f := .free "all") rfl)
  b_any := He.free_ok X G (c.fact 24 (f := .free "any") rfl)
  b_bool := He.free_ok X G (c.fact 25 (f := .free "bool") rfl)
  b_dict := He.free_ok X G (c.fact 26 (f := .free "dict") rfl)
  b_enumerate := He.free_ok X G (c.fact 27 (f := .free "enumerate") rfl)
  b_int := He.free_ok X G (c.fact 28 (f := .free "int") rfl)
  b_isinstance := He.free_ok X G (c.fact 29 (f := .free "isinstance") rfl)
  b_len := He.free_ok X G (c.fact 30 (f := .free "len") rfl)
  b_list := He.free_ok X G (c.fact 31 (f := .free "list") rfl)
  b_max := He.free_ok X G (c.fact 32 (f := .free "max") rfl)
  b_range := He.free_ok X G (c.fact 33 (f := .free "range") rfl)
  b_sorted := He.free_ok X G (c.fact 34 (f := .free "sorted") rfl)
  b_sum := He.free_ok X G (c.fact 35 (f := .free "sum") rfl)
  b_tuple := He.free_ok X G (c.fact 36 (f := .free "tuple") rfl)
  c_MOST_HIGH := He.int_ok X G (c.fact 37 (f := .int "MOST_HIGH" 15) rfl)
  c_MOST_LINES := He.int_ok X G (c.fact 38 (f := .int "MOST_LINES" 6) rfl)
  c_MOST_ROOM := He.int_ok X G (c.fact 39 (f := .int "MOST_ROOM" 4) rfl)
  x_BadNumber := He.glo_ok X G (c.fact 40 (f := .glo "BadNumber") rfl)
  x_BadRow := He.glo_ok X G (c.fact 41 (f := .glo "BadRow") rfl)
  x_BadState := He.glo_ok X G (c.fact 42 (f := .glo "BadState") rfl)
  x_Clash := He.glo_ok X G (c.fact 43 (f := .glo "Clash") rfl)
  e_BadNumber := c.fact 44 (f := .exc "BadNumber") rfl
  e_BadRow := c.fact 45 (f := .exc "BadRow") rfl
  e_BadState := c.fact 46 (f := .exc "BadState") rfl
  d_clash := c.def_ 23 (d := d_clash) rfl
  cl := clB_ok (He.ba ce).2
theorem facts {P : Program} {w : World} {K : PySem.W.Frag} {h : Heap} {mg : Str → Option Value} {f : Addr} (X : K.In h) (G : h.Ns mainGlobals mg) (hfa : mg ("law" : Str) = some (.ref f)) (c : He.SaysD fa fn K) (ce : exF K = true) :
    ∃ fd : FuncData, (∀ (s : Shared) (v : Value), BindsTo s fd ⟨[v], []⟩ [("script", v)]) ∧ ∀ base : Heap, K.In base → base.Ns mainGlobals mg → FnOk P w K mg base (CX P w) 10 f fd ["script"] (spD K mg 1 G_law) := by
  have B := bs X G c ce
  obtain ⟨f1, fd, F, hm⟩ := B.d_law
  have e := hfa.symm.trans hm
  cases e
  have b := FunD.bindsA (ps := ["script"]) F fun _ _ _ _ _ _ us hl => match us, hl with | [_], _ => rfl
  refine ⟨fd, fun s v => b s [v] rfl, fun base _ _ => ?_⟩
  exact body_law B F
end J
open PySem PySem.W PySem.Calls PyProof.Rows
theorem PySem.Challenge.cw_handsarc_k04_whole_next_beats_holds : PySem.Challenge.rw_handsarc_k04_whole_next_beats.Holds := by
  w_on; o_law
  refine HandSHeadRun.head_any (r := OpenLaw.row PySem.Challenge.rw_handsarc_k04_whole_next_beats) (q := view (OpenLaw.row PySem.Challenge.rw_handsarc_k04_whole_next_beats).prog [34]) (H := J.hk) (ob := J.ob) (M := 6000) (loose := J.loose) (d := HandSHeadRun.topDef (OpenLaw.row PySem.Challenge.rw_handsarc_k04_whole_next_beats).prog 34) (kwd := []) J.ob_eq
    (by kernel_rfl) (fun s => by kernel_rfl) J.run_top (by kernel_rfl) (by kernel_rfl) (by kernel_rfl) (by rfl) (by first | assumption | decide +kernel) (by decide +kernel) ⟨rfl, rfl, rfl, rfl, rfl, by decide +kernel⟩ ?hw ?hc
  case hw => w_witness2
  case hc =>
    refine J.walk_J (l := PySem.Challenge.rw_handsarc_k04_whole_next_beats) (n := 63) (k := 10) (x := "script") rfl (by decide) (by kernel_rfl) ⟨rfl, by decide, by decide⟩ ?F
    intro w mg fa h Y G hmg0
    obtain ⟨K, KX, c, ce⟩ := Y
    have hmg : mg ("law" : PySem.Str) = some (.ref fa) := by
      have e : (HandSHeadRun.topDef (OpenLaw.row PySem.Challenge.rw_handsarc_k04_whole_next_beats).prog 34).name = ("law" : PySem.Str) := by kernel_rfl
      rw [← e]
      exact hmg0
    obtain ⟨fd, hb, hF⟩ := J.facts (P := (PySem.Challenge.rw_handsarc_k04_whole_next_beats).prog) (w := w) KX G hmg c ce
    exact ⟨K, fd, J.spD K mg 1 J.G_law, KX, hb, J.law_end J.main, hF⟩
