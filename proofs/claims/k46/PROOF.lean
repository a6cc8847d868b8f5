import PyProof.Rows.All
import Wide.All
import OpenK.AllK
import Wide.FinOn
import HandS.ForMost
import HandS.ForExc
import HandS.Wide
import HandS.WideMore
import HandS.Defaults
import HandS.Slots
import HandS.Lambda
import HandS.SlotsOwn
import HandS.IsInst
import HandS.Zip
import HandS.HeadHook2
import HandS.TupAny
import HandS.Style
import HandS.Flow
import KE.DataEq
import HandS.WideBits
import HandS.Iter
import HandS.Ends
import KE.GoesEnum
import KE.KStateDown
import HandS.Head0
import HandS.Head1
import HandS.Head2
import HandS.HeadEnd
import HandS.HeadHook3
import HandS.WrittenGet
import PyProof.StrBlock2
import PyProof.SliceStr2
import KE.KRevSl
import HandS.RaiseMore
import HandS.Star
import HandS.NoneIn
import KE.DataMinMax
import HandS.NamedTupGet
import HandS.Conv
import HandS.TupMul
import KE.KCallOwn
import KE.KFmtOwn
import PyProof.CallFns
import HandS.ClsMeth
import HandS.HotCalls
import HandS.ExcInit
import HandS.ExcIs
import HandS.ExcField
import KE.KTryMore
import HandS.EndTab
import HandS.HeadHook4
import HandS.MakeKwOnly
import HandS.ReplaceLit
import HandS.More
import HandS.FStr
import HandS.Property
import PyProof.Rows.RaiseClass
import PyProof.ExcBaseAll.ArithmeticError
import HandS.SetKeys
import PyProof.Rows.SetFrom
import PyProof.Rows.SetListFold
import HandS.Text
import PySem.Challenge.RW_arealots_k46_things_of_any_kind_judged
set_option Elab.async false
set_option linter.all false
set_option maxRecDepth 100000
set_option maxHeartbeats 2000000
/-! Ar1: data D beside the layer's values, the second heap F of what never changes, results R, what simulates what -/
namespace Ar
open PySem PySem.Spec PyProof.Rows L2

/-! ### data -/
inductive D where
  | non | bl (b : Bool) | int (i : Int) | str (x : Str)
  | tup (ds : List D) | lst (ds : List D) | scr (ds : List D)
  | ins (C : Str) (fs : List (Str × D))
  | slt (C : Str) (ds : List D)
  | dK (kvs : List (Key × D))
  | loc (n : Nat)
  | glo (x : Str)
  | ty (n : String)
  | exn (a dd : Addr) (f : Str) (d : D)
  | adr (a : Addr)
  | clo (f c : Addr) (q : Str) (σ : L2.St) (Γ : List (Option D))
  deriving Inhabited
/-- what a place holds that may change -/
inductive MO where
  | dead
  | lst (ds : List D)
  | frz (ds : List D)
  | ins (C : Str) (fs : List (Str × D))
  | dK (kvs : List (Key × D))
  | dT (kvs : List (List Key × D))
  | tab (P : Addr) (q : Str)
  deriving Inhabited
abbrev Mu := List MO
abbrev Gam := List (Option D)
abbrev ExK := Str × Option (Str × D)

mutual
inductive Dn (K : PySem.W.Frag) (ρ : List Addr) (F : Hp) : V → D → Prop
  | non : Dn K ρ F .non .non
  | bl (b : Bool) : Dn K ρ F (.bl b) (.bl b)
  | int (i : Int) : Dn K ρ F (.int i) (.int i)
  | str (x : Str) : Dn K ρ F (.str x) (.str x)
  | tup {a : Addr} {vs : List V} {ds : List D} : SqT K F a vs → DnAll K ρ F vs ds → Dn K ρ F (.ref a) (.tup ds)
  | lst {a : Addr} {vs : List V} {ds : List D} : F a = some (.lst vs) → DnAll K ρ F vs ds → Dn K ρ F (.ref a) (.lst ds)
  | scr {a : Addr} {vs : List V} {ds : List D} : SqL K F a vs → DnAll K ρ F vs ds → Dn K ρ F (.ref a) (.scr ds)
  | ins {a dx : Addr} {C : Str} {vs : List (Str × V)} {fs : List (Str × D)} : F a = some (.ins (He.ga K C) dx vs) → DnF K ρ F vs fs → Dn K ρ F (.ref a) (.ins C fs)
  | slt {a dx : Addr} {C : Str} {vs : List V} {ds : List D} : F a = some (SlX.SlO a (He.ga K C) dx (vs.map some)) → F dx = some (.xd []) → DnAll K ρ F vs ds → Dn K ρ F (.ref a) (.slt C ds)
  | dK {a : Addr} {vs : List (Key × V)} {kvs : List (Key × D)} : F a = some (.dK vs) → DnK K ρ F vs kvs → Dn K ρ F (.ref a) (.dK kvs)
  | loc {a : Addr} {n : Nat} : ρ[n]? = some a → Dn K ρ F (.ref a) (.loc n)
  | glo (x : Str) : Dn K ρ F (.ref (He.ga K x)) (.glo x)
  | ty (n : String) : Dn K ρ F (.ty n) (.ty n)
  | exn {a dd : Addr} {f : Str} {v : V} {d : D} : F dd = some (.xd [(f, v)]) → Dn K ρ F v d → Dn K ρ F (.ref a) (.exn a dd f d)
  | adr (a : Addr) : Dn K ρ F (.ref a) (.adr a)
  | clo {f c : Addr} {q : Str} {σ : L2.St} {Γ : List (Option D)} : F c = some (LamX.CodeO c q) → DnO K ρ F σ Γ → Dn K ρ F (.ref f) (.clo f c q σ Γ)
inductive DnO (K : PySem.W.Frag) (ρ : List Addr) (F : Hp) : L2.St → List (Option D) → Prop
  | nil : DnO K ρ F [] []
  | skip {o : Option V} {σ : L2.St} {Γ : List (Option D)} : DnO K ρ F σ Γ → DnO K ρ F (o :: σ) (none :: Γ)
  | cons {v : V} {d : D} {σ : L2.St} {Γ : List (Option D)} : Dn K ρ F v d → DnO K ρ F σ Γ → DnO K ρ F (some v :: σ) (some d :: Γ)
inductive DnAll (K : PySem.W.Frag) (ρ : List Addr) (F : Hp) : List V → List D → Prop
  | nil : DnAll K ρ F [] []
  | cons {v : V} {vs : List V} {d : D} {ds : List D} : Dn K ρ F v d → DnAll K ρ F vs ds → DnAll K ρ F (v :: vs) (d :: ds)
inductive DnF (K : PySem.W.Frag) (ρ : List Addr) (F : Hp) : List (Str × V) → List (Str × D) → Prop
  | nil : DnF K ρ F [] []
  | cons {f : Str} {v : V} {vs : List (Str × V)} {d : D} {ds : List (Str × D)} : Dn K ρ F v d → DnF K ρ F vs ds → DnF K ρ F ((f, v) :: vs) ((f, d) :: ds)
inductive DnK (K : PySem.W.Frag) (ρ : List Addr) (F : Hp) : List (Key × V) → List (Key × D) → Prop
  | nil : DnK K ρ F [] []
  | cons {f : Key} {v : V} {vs : List (Key × V)} {d : D} {ds : List (Key × D)} : Dn K ρ F v d → DnK K ρ F vs ds → DnK K ρ F ((f, v) :: vs) ((f, d) :: ds)
end
/-- the same of a dict with tuple keys -/
inductive DnT (K : PySem.W.Frag) (ρ : List Addr) (F : Hp) : List (List Key × V) → List (List Key × D) → Prop
  | nil : DnT K ρ F [] []
  | cons {f : List Key} {v : V} {vs : List (List Key × V)} {d : D} {ds : List (List Key × D)} : Dn K ρ F v d → DnT K ρ F vs ds → DnT K ρ F ((f, v) :: vs) ((f, d) :: ds)

def Sub (F H : Hp) : Prop := ∀ a o, F a = some o → H a = some o
theorem Sub.refl (F : Hp) : Sub F F := fun _ _ h => h
theorem Sub.trans {F G H : Hp} (a : Sub F G) (b : Sub G H) : Sub F H := fun x o h => b x o (a x o h)
theorem Sub.rd {F H : Hp} {a : Addr} {u : HO} (e : Sub F H) (h : Rd F a u) : Rd H a u := by
  rcases h with h | ⟨o, h⟩
  · exact Or.inl (e a _ h)
  · exact Or.inr ⟨o, e a _ h⟩
theorem Sub.sqL {K : PySem.W.Frag} {F H : Hp} {a : Addr} {xs : List V} (e : Sub F H) (h : SqL K F a xs) : SqL K H a xs := by
  rcases h with h | h
  · exact Or.inl (e.rd h)
  · exact Or.inr h
theorem Sub.sqT {K : PySem.W.Frag} {F H : Hp} {a : Addr} {xs : List V} (e : Sub F H) (h : SqT K F a xs) : SqT K H a xs := by
  rcases h with h | h
  · exact Or.inl (e.rd h)
  · exact Or.inr h

section
variable {K : PySem.W.Frag} {ρ ρ' : List Addr} {F F' : Hp}
mutual
theorem Dn.mono (p : ∀ (n : Nat) a, ρ[n]? = some a → ρ'[n]? = some a) (e : Sub F F') : ∀ {v : V} {d : D}, Dn K ρ F v d → Dn K ρ' F' v d
  | _, _, .non => .non
  | _, _, .bl b => .bl b
  | _, _, .int i => .int i
  | _, _, .str x => .str x
  | _, _, .tup h t => .tup (e.sqT h) (DnAll.mono p e t)
  | _, _, .lst h t => .lst (e _ _ h) (DnAll.mono p e t)
  | _, _, .scr h t => .scr (e.sqL h) (DnAll.mono p e t)
  | _, _, .ins h t => .ins (e _ _ h) (DnF.mono p e t)
  | _, _, .slt h h2 t => .slt (e _ _ h) (e _ _ h2) (DnAll.mono p e t)
  | _, _, .dK h t => .dK (e _ _ h) (DnK.mono p e t)
  | _, _, .loc h => .loc (p _ _ h)
  | _, _, .glo x => .glo x
  | _, _, .ty n => .ty n
  | _, _, .exn h t => .exn (e _ _ h) (Dn.mono p e t)
  | _, _, .adr a => .adr a
  | _, _, .clo h t => .clo (e _ _ h) (DnO.mono p e t)
theorem DnO.mono (p : ∀ (n : Nat) a, ρ[n]? = some a → ρ'[n]? = some a) (e : Sub F F') : ∀ {σ : L2.St} {Γ : List (Option D)}, DnO K ρ F σ Γ → DnO K ρ' F' σ Γ
  | _, _, .nil => .nil
  | _, _, .skip t => .skip (DnO.mono p e t)
  | _, _, .cons h t => .cons (Dn.mono p e h) (DnO.mono p e t)
theorem DnAll.mono (p : ∀ (n : Nat) a, ρ[n]? = some a → ρ'[n]? = some a) (e : Sub F F') : ∀ {vs : List V} {ds : List D}, DnAll K ρ F vs ds → DnAll K ρ' F' vs ds
  | _, _, .nil => .nil
  | _, _, .cons h t => .cons (Dn.mono p e h) (DnAll.mono p e t)
theorem DnF.mono (p : ∀ (n : Nat) a, ρ[n]? = some a → ρ'[n]? = some a) (e : Sub F F') : ∀ {vs : List (Str × V)} {ds : List (Str × D)}, DnF K ρ F vs ds → DnF K ρ' F' vs ds
  | _, _, .nil => .nil
  | _, _, .cons h t => .cons (Dn.mono p e h) (DnF.mono p e t)
theorem DnK.mono (p : ∀ (n : Nat) a, ρ[n]? = some a → ρ'[n]? = some a) (e : Sub F F') : ∀ {vs : List (Key × V)} {ds : List (Key × D)}, DnK K ρ F vs ds → DnK K ρ' F' vs ds
  | _, _, .nil => .nil
  | _, _, .cons h t => .cons (Dn.mono p e h) (DnK.mono p e t)
end
theorem DnT.mono (p : ∀ (n : Nat) a, ρ[n]? = some a → ρ'[n]? = some a) (e : Sub F F') : ∀ {vs : List (List Key × V)} {ds : List (List Key × D)}, DnT K ρ F vs ds → DnT K ρ' F' vs ds
  | _, _, .nil => .nil
  | _, _, .cons h t => .cons (h.mono p e) (DnT.mono p e t)
theorem DnAll.length : ∀ {vs : List V} {ds : List D}, DnAll K ρ F vs ds → vs.length = ds.length
  | _, _, .nil => rfl
  | _, _, .cons _ t => congrArg Nat.succ (DnAll.length t)
theorem DnAll.get : ∀ {vs : List V} {ds : List D} {i : Nat} {d : D}, DnAll K ρ F vs ds → ds[i]? = some d → ∃ v, vs[i]? = some v ∧ Dn K ρ F v d
  | _, _, 0, _, .cons h _, e => ⟨_, rfl, by simp at e; subst e; exact h⟩
  | _, _, i + 1, _, .cons _ t, e => by
    obtain ⟨v, h1, h2⟩ := DnAll.get (i := i) t (by simpa using e)
    exact ⟨v, by simpa using h1, h2⟩
  | _, _, _, _, .nil, e => by simp at e
theorem DnAll.getV : ∀ {vs : List V} {ds : List D} {i : Nat} {v : V}, DnAll K ρ F vs ds → vs[i]? = some v → ∃ d, ds[i]? = some d ∧ Dn K ρ F v d
  | _, _, 0, _, .cons h _, e => ⟨_, rfl, by simp at e; subst e; exact h⟩
  | _, _, i + 1, _, .cons _ t, e => by
    obtain ⟨v, h1, h2⟩ := DnAll.getV (i := i) t (by simpa using e)
    exact ⟨v, by simpa using h1, h2⟩
  | _, _, _, _, .nil, e => by simp at e
theorem DnAll.append : ∀ {vs ws : List V} {ds es : List D}, DnAll K ρ F vs ds → DnAll K ρ F ws es → DnAll K ρ F (vs ++ ws) (ds ++ es)
  | _, _, _, _, .nil, t => t
  | _, _, _, _, .cons h r, t => .cons h (DnAll.append r t)
theorem DnAll.take : ∀ {vs : List V} {ds : List D} (n : Nat), DnAll K ρ F vs ds → DnAll K ρ F (vs.take n) (ds.take n)
  | _, _, 0, _ => .nil
  | _, _, _ + 1, .nil => .nil
  | _, _, n + 1, .cons h t => .cons h (DnAll.take n t)
theorem DnAll.drop : ∀ {vs : List V} {ds : List D} (n : Nat), DnAll K ρ F vs ds → DnAll K ρ F (vs.drop n) (ds.drop n)
  | _, _, 0, h => h
  | _, _, _ + 1, .nil => .nil
  | _, _, n + 1, .cons _ t => DnAll.drop n t
theorem DnAll.set {v : V} {d : D} (h : Dn K ρ F v d) : ∀ {vs : List V} {ds : List D} (n : Nat), DnAll K ρ F vs ds → DnAll K ρ F (vs.set n v) (ds.set n d)
  | _, _, _, .nil => .nil
  | _, _, 0, .cons _ t => .cons h t
  | _, _, n + 1, .cons q t => .cons q (DnAll.set h n t)
end

/-! ### the two heaps -/
def MOk (K : PySem.W.Frag) (ρ : List Addr) (F H : Hp) (a : Addr) : MO → Prop
  | .dead => ∃ o, H a = some o
  | .lst ds => F a = none ∧ ∃ vs, H a = some (.lst vs) ∧ DnAll K ρ F vs ds
  | .frz ds => ∃ vs, F a = some (.lst vs) ∧ DnAll K ρ F vs ds
  | .ins C fs => F a = none ∧ ∃ dx vs, H a = some (.ins (He.ga K C) dx vs) ∧ DnF K ρ F vs fs
  | .dK kvs => F a = none ∧ ∃ vs, H a = some (.dK vs) ∧ DnK K ρ F vs kvs
  | .dT kvs => F a = none ∧ ∃ vs, H a = some (.dT vs) ∧ DnT K ρ F vs kvs
  | .tab P q => a = P ∧ F a = none ∧ ∃ ps : Array Value, H a = some (.tbl ps) ∧ TriplesOk ps.toList ∧ ∀ (pos : Pos) (cv : Value), codeAmong pos ps.toList = some cv → ∃ c, cv = .ref c ∧ F c = some (LamX.CodeO c q)

structure HpOk (K : PySem.W.Frag) (ρ : List Addr) (μ : Mu) (F H : Hp) : Prop where
  ex : Sub F H
  len : μ.length = ρ.length
  nd : ρ.Nodup
  mu : ∀ (n : Nat) a o, ρ[n]? = some a → μ[n]? = some o → MOk K ρ F H a o

/-- growth -/
structure Nx (ρ : List Addr) (F H : Hp) (ρ' : List Addr) (F' H' : Hp) : Prop where
  pre : ∀ (n : Nat) a, ρ[n]? = some a → ρ'[n]? = some a
  ex : Sub F F'
  keep : ∀ a o, H a = some o → a ∉ ρ → H' a = some o
  newR : ∀ a, a ∈ ρ' → a ∈ ρ ∨ H a = none
  newF : ∀ a o, F' a = some o → F a = some o ∨ H a = none ∨ a ∈ ρ
  there : ∀ a, H' a = none → H a = none

section
variable {K : PySem.W.Frag} {ρ ρ' ρ'' : List Addr} {F F' F'' H H' H'' : Hp} {μ μ' : Mu}
theorem Nx.refl : Nx ρ F H ρ F H := ⟨fun _ _ h => h, fun _ _ h => h, fun _ _ h _ => h, fun _ h => .inl h, fun _ _ h => .inl h, fun _ h => h⟩
theorem Nx.mem (x : Nx ρ F H ρ' F' H') {a : Addr} (h : a ∈ ρ) : a ∈ ρ' := by
  obtain ⟨n, e⟩ := List.mem_iff_getElem?.mp h
  exact List.mem_of_getElem? (x.pre n a e)
theorem Nx.trans (a : Nx ρ F H ρ' F' H') (b : Nx ρ' F' H' ρ'' F'' H'') : Nx ρ F H ρ'' F'' H'' where
  pre := fun n x h => b.pre n x (a.pre n x h)
  ex := a.ex.trans b.ex
  keep := fun x o h hn => b.keep x o (a.keep x o h hn) fun z => by
    rcases a.newR x z with z | z
    · exact hn z
    · rw [h] at z
      cases z
  newR := fun x h => by
    rcases b.newR x h with z | z
    · exact a.newR x z
    · exact .inr (a.there x z)
  newF := fun x o h => by
    rcases b.newF x o h with z | z | z
    · exact a.newF x o z
    · exact .inr (.inl (a.there x z))
    · rcases a.newR x z with y | y
      · exact .inr (.inr y)
      · exact .inr (.inl y)
  there := fun x h => a.there x (b.there x h)
theorem Dn.nx (x : Nx ρ F H ρ' F' H') {v : V} {d : D} (h : Dn K ρ F v d) : Dn K ρ' F' v d := h.mono x.pre x.ex
theorem DnAll.nx (x : Nx ρ F H ρ' F' H') {v : List V} {d : List D} (h : DnAll K ρ F v d) : DnAll K ρ' F' v d := h.mono x.pre x.ex

theorem HpOk.tracked (k : HpOk K ρ μ F H) {n : Nat} {a : Addr} (e : ρ[n]? = some a) : ∃ o, H a = some o := by
  have hn : n < μ.length := by
    rw [k.len]
    exact (List.getElem?_eq_some_iff.mp e).1
  have h := k.mu n a μ[n] e (List.getElem?_eq_getElem hn)
  cases hm : μ[n] with
  | dead => rw [hm] at h; exact h
  | lst ds => rw [hm] at h; obtain ⟨_, vs, e1, _⟩ := h; exact ⟨_, e1⟩
  | frz ds => rw [hm] at h; obtain ⟨vs, e1, _⟩ := h; exact ⟨_, k.ex _ _ e1⟩
  | ins C fs => rw [hm] at h; obtain ⟨_, dx, vs, e1, _⟩ := h; exact ⟨_, e1⟩
  | dK kvs => rw [hm] at h; obtain ⟨_, vs, e1, _⟩ := h; exact ⟨_, e1⟩
  | dT kvs => rw [hm] at h; obtain ⟨_, vs, e1, _⟩ := h; exact ⟨_, e1⟩
  | tab P q => rw [hm] at h; obtain ⟨_, _, ps, e1, _⟩ := h; exact ⟨_, e1⟩
theorem HpOk.fresh (k : HpOk K ρ μ F H) {a : Addr} (h : H a = none) : a ∉ ρ := fun z => by
  obtain ⟨n, e⟩ := List.mem_iff_getElem?.mp z
  obtain ⟨o, q⟩ := k.tracked e
  rw [h] at q
  cases q
theorem HpOk.freshF (k : HpOk K ρ μ F H) {a : Addr} (h : H a = none) : F a = none := by
  cases e : F a with
  | none => rfl
  | some o =>
    rw [k.ex a o e] at h
    cases h
/-- a place's entry stays where F grows and its object stays -/
theorem MOk.mono {a : Addr} {o : MO} (h : MOk K ρ F H a o) (p : ∀ (n : Nat) a, ρ[n]? = some a → ρ'[n]? = some a) (e : Sub F F') (ha : H' a = H a) (hf : F a = none → F' a = none) : MOk K ρ' F' H' a o := by
  cases o with
  | dead => obtain ⟨o, q⟩ := h; exact ⟨o, by rw [ha]; exact q⟩
  | lst ds => obtain ⟨z, vs, q, t⟩ := h; exact ⟨hf z, vs, by rw [ha]; exact q, t.mono p e⟩
  | frz ds => obtain ⟨vs, q, t⟩ := h; exact ⟨vs, e _ _ q, t.mono p e⟩
  | ins C fs => obtain ⟨z, dx, vs, q, t⟩ := h; exact ⟨hf z, dx, vs, by rw [ha]; exact q, t.mono p e⟩
  | dK kvs => obtain ⟨z, vs, q, t⟩ := h; exact ⟨hf z, vs, by rw [ha]; exact q, t.mono p e⟩
  | dT kvs => obtain ⟨z, vs, q, t⟩ := h; exact ⟨hf z, vs, by rw [ha]; exact q, t.mono p e⟩
  | tab P q =>
    obtain ⟨z0, z, ps, q1, q2, q3⟩ := h
    exact ⟨z0, hf z, ps, by rw [ha]; exact q1, q2, fun pos cv hc => by obtain ⟨c, e1, e2⟩ := q3 pos cv hc; exact ⟨c, e1, e _ _ e2⟩⟩
/-- a new object that never changes -/
theorem HpOk.newF (k : HpOk K ρ μ F H) {p : Addr} {o : HO} (hp : H p = none) : HpOk K ρ μ (upd F p o) (upd H p o) := by
  have sub : Sub F (upd F p o) := fun a u e => by
    rw [upd_ne (ne_of_none (k.ex a u e) hp)]
    exact e
  refine ⟨fun a u e => ?_, k.len, k.nd, fun n a u e1 e2 => ?_⟩
  · by_cases h : a = p
    · subst h
      rw [upd_same] at e ⊢
      exact e
    · rw [upd_ne h] at e ⊢
      exact k.ex a u e
  · obtain ⟨w, hw⟩ := k.tracked e1
    have ne : a ≠ p := ne_of_none hw hp
    exact (k.mu n a u e1 e2).mono (fun _ _ h => h) sub (upd_ne ne) fun z => by rw [upd_ne ne]; exact z
theorem Nx.newF_ (k : HpOk K ρ μ F H) {p : Addr} {o : HO} (hp : H p = none) : Nx ρ F H ρ (upd F p o) (upd H p o) := by
  refine ⟨fun _ _ h => h, fun a u e => ?_, fun a u e _ => ?_, fun _ h => .inl h, fun a u e => ?_, fun a e => ?_⟩
  · rw [upd_ne (ne_of_none (k.ex a u e) hp)]; exact e
  · rw [upd_ne (ne_of_none e hp)]; exact e
  · by_cases h : a = p
    · subst h; exact .inr (.inl hp)
    · rw [upd_ne h] at e; exact .inl e
  · by_cases h : a = p
    · subst h; exact hp
    · rw [upd_ne h] at e; exact e
/-- an object beside, tracked but not told of -/
theorem HpOk.beside (k : HpOk K ρ μ F H) {p : Addr} {o : HO} (hp : p ∉ ρ) (hf : F p = none) : HpOk K ρ μ F (upd H p o) := by
  refine ⟨fun a u e => ?_, k.len, k.nd, fun n a u e1 e2 => ?_⟩
  · rw [upd_ne fun z => by subst z; rw [hf] at e; cases e]
    exact k.ex a u e
  · have ne : a ≠ p := fun z => by subst z; exact hp (List.mem_of_getElem? e1)
    exact (k.mu n a u e1 e2).mono (fun _ _ h => h) (fun _ _ h => h) (upd_ne ne) fun z => z
/-- a place is written -/
theorem HpOk.write (k : HpOk K ρ μ F H) {n : Nat} {a : Addr} {o : HO} {m : MO} (e : ρ[n]? = some a) (hf : F a = none) (new : MOk K ρ F (upd H a o) a m) : HpOk K ρ (μ.set n m) F (upd H a o) := by
  have hn : n < μ.length := by
    rw [k.len]
    exact (List.getElem?_eq_some_iff.mp e).1
  refine ⟨fun b u q => ?_, by rw [List.length_set]; exact k.len, k.nd, fun j b u e1 e2 => ?_⟩
  · rw [upd_ne fun z => by subst z; rw [hf] at q; cases q]
    exact k.ex b u q
  · by_cases h : j = n
    · subst h
      rw [List.getElem?_set_self hn] at e2
      rw [e] at e1
      cases e1
      cases e2
      exact new
    · rw [List.getElem?_set_ne (Ne.symm h)] at e2
      have ne : b ≠ a := fun z => by
        subst z
        obtain ⟨h1, q1⟩ := List.getElem?_eq_some_iff.mp e1
        obtain ⟨h2, q2⟩ := List.getElem?_eq_some_iff.mp e
        exact h ((List.getElem_inj k.nd).mp (q1.trans q2.symm))
      exact (k.mu j b u e1 e2).mono (fun _ _ h => h) (fun _ _ h => h) (upd_ne ne) fun z => z
theorem Nx.write_ {n : Nat} {a : Addr} {o : HO} (e : ρ[n]? = some a) (hf : F a = none) (ht : H a ≠ none) : Nx ρ F H ρ F (upd H a o) := by
  refine ⟨fun _ _ h => h, fun _ _ h => h, fun b u q hb => ?_, fun _ h => .inl h, fun _ _ h => .inl h, fun b q => ?_⟩
  · rw [upd_ne fun z => hb (by rw [z]; exact List.mem_of_getElem? e)]; exact q
  · by_cases h : b = a
    · subst h; rw [upd_same] at q; cases q
    · rw [upd_ne h] at q; exact q
/-- a new place -/
theorem HpOk.newM (k : HpOk K ρ μ F H) {p : Addr} {o : HO} {m : MO} (hp : H p = none) (new : MOk K (ρ ++ [p]) F (upd H p o) p m) : HpOk K (ρ ++ [p]) (μ ++ [m]) F (upd H p o) := by
  have pf := k.freshF hp
  have pr := k.fresh hp
  have pre : ∀ (n : Nat) a, ρ[n]? = some a → (ρ ++ [p])[n]? = some a := fun n a e => by
    rw [List.getElem?_append_left (List.getElem?_eq_some_iff.mp e).1]; exact e
  refine ⟨fun a u e => ?_, by simp [k.len], ?_, fun j b u e1 e2 => ?_⟩
  · rw [upd_ne fun z => by subst z; rw [pf] at e; cases e]
    exact k.ex a u e
  · rw [List.nodup_append]
    refine ⟨k.nd, by simp, fun a ha b hb => ?_⟩
    have : b = p := by simpa using hb
    subst this
    intro z
    subst z
    exact pr ha
  · by_cases h : j < ρ.length
    · rw [List.getElem?_append_left h] at e1
      rw [List.getElem?_append_left (by rw [k.len]; exact h)] at e2
      have ne : b ≠ p := fun z => by subst z; exact pr (List.mem_of_getElem? e1)
      exact (k.mu j b u e1 e2).mono pre (fun _ _ h => h) (upd_ne ne) fun z => z
    · have hj : j < (ρ ++ [p]).length := (List.getElem?_eq_some_iff.mp e1).1
      rw [List.length_append, List.length_singleton] at hj
      have hj : j = ρ.length := by omega
      subst hj
      have eb : b = p := by simpa using e1.symm
      have eu : u = m := by
        rw [← k.len] at e2
        simpa using e2.symm
      subst eb eu
      exact new
theorem Nx.newM_ (k : HpOk K ρ μ F H) {p : Addr} {o : HO} (hp : H p = none) : Nx ρ F H (ρ ++ [p]) F (upd H p o) := by
  refine ⟨fun n a e => ?_, fun _ _ h => h, fun a u e _ => ?_, fun a h => ?_, fun _ _ h => .inl h, fun a e => ?_⟩
  · rw [List.getElem?_append_left (List.getElem?_eq_some_iff.mp e).1]; exact e
  · rw [upd_ne (ne_of_none e hp)]; exact e
  · rcases List.mem_append.mp h with h | h
    · exact .inl h
    · have : a = p := by simpa using h
      subst this
      exact .inr hp
  · by_cases h : a = p
    · subst h; exact hp
    · rw [upd_ne h] at e; exact e
/-- a list of ours is frozen -/
theorem HpOk.freeze (k : HpOk K ρ μ F H) {n : Nat} {a : Addr} {ds : List D} {vs : List V} (e : ρ[n]? = some a) (hf : F a = none) (hv : H a = some (.lst vs)) (hd : DnAll K ρ F vs ds) :
    HpOk K ρ (μ.set n (.frz ds)) (upd F a (.lst vs)) H ∧ Nx ρ F H ρ (upd F a (.lst vs)) H := by
  have hn : n < μ.length := by
    rw [k.len]
    exact (List.getElem?_eq_some_iff.mp e).1
  have sub : Sub F (upd F a (.lst vs)) := fun b u q => by
    rw [upd_ne fun z => by subst z; rw [hf] at q; cases q]
    exact q
  refine ⟨⟨fun b u q => ?_, by rw [List.length_set]; exact k.len, k.nd, fun j b u e1 e2 => ?_⟩, ⟨fun _ _ h => h, sub, fun _ _ h _ => h, fun _ h => .inl h, fun b u q => ?_, fun _ h => h⟩⟩
  · by_cases h : b = a
    · subst h
      rw [upd_same] at q
      cases q
      exact hv
    · rw [upd_ne h] at q
      exact k.ex b u q
  · by_cases h : j = n
    · subst h
      rw [List.getElem?_set_self hn] at e2
      rw [e] at e1
      cases e1
      cases e2
      exact ⟨vs, upd_same, hd.mono (fun _ _ h => h) sub⟩
    · rw [List.getElem?_set_ne (Ne.symm h)] at e2
      have ne : b ≠ a := fun z => by
        subst z
        obtain ⟨h1, q1⟩ := List.getElem?_eq_some_iff.mp e1
        obtain ⟨h2, q2⟩ := List.getElem?_eq_some_iff.mp e
        exact h ((List.getElem_inj k.nd).mp (q1.trans q2.symm))
      exact (k.mu j b u e1 e2).mono (fun _ _ h => h) sub rfl fun z => by rw [upd_ne ne]; exact z
  · by_cases h : b = a
    · subst h; exact .inr (.inr (List.mem_of_getElem? e))
    · rw [upd_ne h] at q; exact .inl q
end

/-! ### results -/
inductive R (α : Type) where
  | ok (a : α) (μ : Mu)
  | exc (e : ExK) (μ : Mu)
  | stk
def R.bind {α β : Type} : R α → (α → Mu → R β) → R β
  | .ok a μ, f => f a μ
  | .exc e μ, _ => .exc e μ
  | .stk, _ => .stk
def WpR {α : Type} (r : R α) (Q : α → Mu → Prop) (X : ExK → Mu → Prop) : Prop := match r with
  | .ok a μ => Q a μ
  | .exc e μ => X e μ
  | .stk => False
theorem WpR.bind {α β : Type} {r : R α} {f : α → Mu → R β} {Q : β → Mu → Prop} {X : ExK → Mu → Prop} (h : WpR (r.bind f) Q X) : WpR r (fun a μ => WpR (f a μ) Q X) X := by
  cases r with
  | ok a μ => exact h
  | exc e μ => exact h
  | stk => exact h
theorem WpR.mono {α : Type} {r : R α} {Q Q' : α → Mu → Prop} {X X' : ExK → Mu → Prop} (h : WpR r Q X) (hq : ∀ a μ, Q a μ → Q' a μ) (hx : ∀ e μ, X e μ → X' e μ) : WpR r Q' X' := by
  cases r with
  | ok a μ => exact hq _ _ h
  | exc e μ => exact hx _ _ h
  | stk => exact h
/-- from an option -/
def R.of {α : Type} (μ : Mu) : Option α → R α
  | some a => .ok a μ
  | none => .stk
theorem WpR.of {α : Type} {μ : Mu} {o : Option α} {Q : α → Mu → Prop} {X : ExK → Mu → Prop} (h : WpR (R.of μ o) Q X) : ∃ a, o = some a ∧ Q a μ := by
  cases o with
  | some a => exact ⟨a, rfl, h⟩
  | none => exact False.elim h
/-- no exception may come -/
def R.nox {α : Type} : R α → R α
  | .ok a μ => .ok a μ
  | _ => .stk
theorem WpR.nox {α : Type} {r : R α} {Q : α → Mu → Prop} {X X' : ExK → Mu → Prop} (h : WpR r.nox Q X) : WpR r Q X' := by
  cases r with
  | ok a μ => exact h
  | exc e μ => exact False.elim h
  | stk => exact False.elim h
/-- how a statement ends -/
inductive RS where
  | nx (Γ : Gam) (μ : Mu)
  | rt (d : D) (μ : Mu)
  | bk (Γ : Gam) (μ : Mu)
  | ct (Γ : Gam) (μ : Mu)
  | exc (e : ExK) (μ : Mu)
  | stk
structure PE4 where
  nx : Gam → Mu → Prop
  rt : D → Mu → Prop
  bk : Gam → Mu → Prop
  ct : Gam → Mu → Prop
  ex : ExK → Mu → Prop
def WpS (r : RS) (P : PE4) : Prop := match r with
  | .nx Γ μ => P.nx Γ μ
  | .rt d μ => P.rt d μ
  | .bk Γ μ => P.bk Γ μ
  | .ct Γ μ => P.ct Γ μ
  | .exc e μ => P.ex e μ
  | .stk => False
def R.thenS {α : Type} : R α → (α → Mu → RS) → RS
  | .ok a μ, f => f a μ
  | .exc e μ, _ => .exc e μ
  | .stk, _ => .stk
theorem WpS.thenS {α : Type} {r : R α} {f : α → Mu → RS} {P : PE4} (h : WpS (r.thenS f) P) : WpR r (fun a μ => WpS (f a μ) P) P.ex := by
  cases r with
  | ok a μ => exact h
  | exc e μ => exact h
  | stk => exact h
def RS.thenN : RS → (Gam → Mu → RS) → RS
  | .nx Γ μ, f => f Γ μ
  | r, _ => r
theorem WpS.thenN {r : RS} {f : Gam → Mu → RS} {P : PE4} (h : WpS (r.thenN f) P) : WpS r { P with nx := fun Γ μ => WpS (f Γ μ) P } := by
  cases r <;> exact h
theorem WpS.mono {r : RS} {P P' : PE4} (h : WpS r P) (h1 : ∀ Γ μ, P.nx Γ μ → P'.nx Γ μ) (h2 : ∀ d μ, P.rt d μ → P'.rt d μ) (h3 : ∀ Γ μ, P.bk Γ μ → P'.bk Γ μ) (h4 : ∀ Γ μ, P.ct Γ μ → P'.ct Γ μ) (h5 : ∀ e μ, P.ex e μ → P'.ex e μ) : WpS r P' := by
  cases r with
  | nx Γ μ => exact h1 _ _ h
  | rt d μ => exact h2 _ _ h
  | bk Γ μ => exact h3 _ _ h
  | ct Γ μ => exact h4 _ _ h
  | exc e μ => exact h5 _ _ h
  | stk => exact h

abbrev DE := Gam → Mu → R D
abbrev DT := Gam → Mu → R Bool
abbrev DA := Gam → Mu → R (List D)
abbrev DS := Gam → Mu → RS
abbrev DG := D → Gam → Mu → R Gam
abbrev DO := Gam → Mu → R (Option Int)

/-! ### what simulates what -/
structure Slots (K : PySem.W.Frag) (ρ : List Addr) (F : Hp) (Γ : Gam) (σ : L2.St) : Prop where
  len : Γ.length = σ.length
  at_ : ∀ (i : Nat) d, Γ[i]? = some (some d) → ∃ v, σ[i]? = some (some v) ∧ Dn K ρ F v d
theorem Slots.nx {K : PySem.W.Frag} {ρ ρ' : List Addr} {F F' H H' : Hp} {Γ : Gam} {σ : L2.St} (x : Nx ρ F H ρ' F' H') (h : Slots K ρ F Γ σ) : Slots K ρ' F' Γ σ := ⟨h.len, fun i d e =>
  let ⟨v, a, b⟩ := h.at_ i d e
  ⟨v, a, b.nx x⟩⟩
theorem Slots.set {K : PySem.W.Frag} {ρ : List Addr} {F : Hp} {Γ : Gam} {σ : L2.St} (h : Slots K ρ F Γ σ) {v : V} {d : D} (r : Dn K ρ F v d) (i : Nat) : Slots K ρ F (Γ.set i (some d)) (σ.set i (some v)) := by
  refine ⟨by rw [List.length_set, List.length_set]; exact h.len, fun j e hj => ?_⟩
  by_cases hi : i = j
  · subst hi
    have hl : i < Γ.length := by
      have := (List.getElem?_eq_some_iff.mp hj).1
      rw [List.length_set] at this
      exact this
    rw [List.getElem?_set_self hl] at hj
    cases hj
    exact ⟨v, List.getElem?_set_self (by rw [← h.len]; exact hl), r⟩
  · rw [List.getElem?_set_ne hi] at hj ⊢
    exact h.at_ j e hj
theorem Slots.unset {K : PySem.W.Frag} {ρ : List Addr} {F : Hp} {Γ : Gam} {σ : L2.St} (h : Slots K ρ F Γ σ) (o : Option V) (i : Nat) : Slots K ρ F (Γ.set i none) (σ.set i o) := by
  refine ⟨by rw [List.length_set, List.length_set]; exact h.len, fun j e hj => ?_⟩
  by_cases hi : i = j
  · subst hi
    have hl : i < Γ.length := by
      have := (List.getElem?_eq_some_iff.mp hj).1
      rw [List.length_set] at this
      exact this
    rw [List.getElem?_set_self hl] at hj
    cases hj
  · rw [List.getElem?_set_ne hi] at hj ⊢
    exact h.at_ j e hj

/-- what is wanted of an exception, in terms of data -/
def XOf (K : PySem.W.Frag) (E : XK) (e : ExK) (ρ : List Addr) (F H : Hp) : Prop := match e with
  | (x, none) => E (.ref (He.ga K x)) none H
  | (x, some (f, d)) => ∀ dd v, F dd = some (.xd [(f, v)]) → Dn K ρ F v d → E (.ref (He.ga K x)) (some dd) H
def XP (K : PySem.W.Frag) (E : XK) (ρ : List Addr) (F H : Hp) : ExK → Mu → Prop := fun e μ' => ∀ ρ' F' H', Nx ρ F H ρ' F' H' → HpOk K ρ' μ' F' H' → XOf K E e ρ' F' H'
theorem XP.nx {K : PySem.W.Frag} {E : XK} {ρ ρ' : List Addr} {F F' H H' : Hp} (x : Nx ρ F H ρ' F' H') {e : ExK} {μ : Mu} (h : XP K E ρ F H e μ) : XP K E ρ' F' H' e μ := fun ρ2 F2 H2 y k => h ρ2 F2 H2 (x.trans y) k

/-- the end of an expression -/
def QV (K : PySem.W.Frag) (ρ : List Addr) (F H : Hp) (Q : VK) : D → Mu → Prop := fun d μ' => ∀ ρ' F' H' v, Nx ρ F H ρ' F' H' → HpOk K ρ' μ' F' H' → Dn K ρ' F' v d → Q v H'
theorem QV.nx {K : PySem.W.Frag} {ρ ρ' : List Addr} {F F' H H' : Hp} {Q : VK} (x : Nx ρ F H ρ' F' H') {d : D} {μ : Mu} (h : QV K ρ F H Q d μ) : QV K ρ' F' H' Q d μ := fun ρ2 F2 H2 v y k r => h ρ2 F2 H2 v (x.trans y) k r
def SimE (K : PySem.W.Frag) (E : XK) (te : TE) (de : DE) : Prop := ∀ (ρ : List Addr) (F H : Hp) (Γ : Gam) (μ : Mu) (σ : L2.St), HpOk K ρ μ F H → Slots K ρ F Γ σ → ∀ Q : VK, WpR (de Γ μ) (QV K ρ F H Q) (XP K E ρ F H) → te σ H Q
def SimT (K : PySem.W.Frag) (E : XK) (tt : TT) (dt : DT) : Prop := ∀ (ρ : List Addr) (F H : Hp) (Γ : Gam) (μ : Mu) (σ : L2.St), HpOk K ρ μ F H → Slots K ρ F Γ σ → ∀ Q : Bool → Hp → Prop,
  WpR (dt Γ μ) (fun b μ' => ∀ ρ' F' H', Nx ρ F H ρ' F' H' → HpOk K ρ' μ' F' H' → Q b H') (XP K E ρ F H) → tt σ H Q
def SimA (K : PySem.W.Frag) (E : XK) (ta : TA) (da : DA) : Prop := ∀ (ρ : List Addr) (F H : Hp) (Γ : Gam) (μ : Mu) (σ : L2.St), HpOk K ρ μ F H → Slots K ρ F Γ σ → ∀ Q : List V → Hp → Prop,
  WpR (da Γ μ) (fun ds μ' => ∀ ρ' F' H' vs, Nx ρ F H ρ' F' H' → HpOk K ρ' μ' F' H' → DnAll K ρ' F' vs ds → Q vs H') (XP K E ρ F H) → ta σ H Q
def SimO (K : PySem.W.Frag) (E : XK) (to : TO) (do_ : DO) : Prop := ∀ (ρ : List Addr) (F H : Hp) (Γ : Gam) (μ : Mu) (σ : L2.St), HpOk K ρ μ F H → Slots K ρ F Γ σ → ∀ Q : Option Int → Hp → Prop,
  WpR (do_ Γ μ) (fun b μ' => ∀ ρ' F' H', Nx ρ F H ρ' F' H' → HpOk K ρ' μ' F' H' → Q b H') (XP K E ρ F H) → to σ H Q
def SimG (K : PySem.W.Frag) (E : XK) (g : TG) (dg : DG) : Prop := ∀ (ρ : List Addr) (F H : Hp) (Γ : Gam) (μ : Mu) (σ : L2.St) (v : V) (d : D), HpOk K ρ μ F H → Slots K ρ F Γ σ → Dn K ρ F v d → ∀ Q : L2.St → Hp → Prop,
  WpR (dg d Γ μ) (fun Γ' μ' => ∀ ρ' F' H' σ', Nx ρ F H ρ' F' H' → HpOk K ρ' μ' F' H' → Slots K ρ' F' Γ' σ' → Q σ' H') (XP K E ρ F H) → g v σ H Q
def QS (K : PySem.W.Frag) (E : XK) (ρ : List Addr) (F H : Hp) (D : Ends) : PE4 where
  nx := fun Γ μ => ∀ ρ' F' H' σ', Nx ρ F H ρ' F' H' → HpOk K ρ' μ F' H' → Slots K ρ' F' Γ σ' → D.nx σ' H'
  rt := QV K ρ F H D.rt
  bk := fun Γ μ => ∀ ρ' F' H' σ', Nx ρ F H ρ' F' H' → HpOk K ρ' μ F' H' → Slots K ρ' F' Γ σ' → D.bk σ' H'
  ct := fun Γ μ => ∀ ρ' F' H' σ', Nx ρ F H ρ' F' H' → HpOk K ρ' μ F' H' → Slots K ρ' F' Γ σ' → D.ct σ' H'
  ex := XP K E ρ F H
def SimS (K : PySem.W.Frag) (E : XK) (ts : TS) (ds : DS) : Prop := ∀ (ρ : List Addr) (F H : Hp) (Γ : Gam) (μ : Mu) (σ : L2.St), HpOk K ρ μ F H → Slots K ρ F Γ σ → ∀ D : Ends, WpS (ds Γ μ) (QS K E ρ F H D) → ts D σ H
theorem QS.nx_ {K : PySem.W.Frag} {E : XK} {ρ ρ' : List Addr} {F F' H H' : Hp} {D : Ends} (x : Nx ρ F H ρ' F' H') {r : RS} (h : WpS r (QS K E ρ F H D)) : WpS r (QS K E ρ' F' H' D) :=
  h.mono (fun Γ μ q ρ2 F2 H2 σ2 y k s => q ρ2 F2 H2 σ2 (x.trans y) k s) (fun d μ q => QV.nx x q) (fun Γ μ q ρ2 F2 H2 σ2 y k s => q ρ2 F2 H2 σ2 (x.trans y) k s) (fun Γ μ q ρ2 F2 H2 σ2 y k s => q ρ2 F2 H2 σ2 (x.trans y) k s) (fun e μ q => XP.nx x q)

/-- what is walked: the items ds, while what never changes stands -/
structure ItOk (K : PySem.W.Frag) (ρ : List Addr) (F : Hp) (J : It) (ds : List D) : Prop where
  go : ∀ i H, Sub F H → i < ds.length → J.go i H
  stop : ∀ i H, Sub F H → i = ds.length → J.stop i H
  yld : ∀ i ρ' F' H μ' x H', Sub F F' → (∀ (n : Nat) a, ρ[n]? = some a → ρ'[n]? = some a) → HpOk K ρ' μ' F' H → J.yld i H x H' → i < ds.length → ∃ d F2, ds[i]? = some d ∧ Nx ρ' F' H ρ' F2 H' ∧ HpOk K ρ' μ' F2 H' ∧ Dn K ρ' F2 x d
def SimI (K : PySem.W.Frag) (E : XK) (wi : TI) (di : DA) : Prop := ∀ (ρ : List Addr) (F H : Hp) (Γ : Gam) (μ : Mu) (σ : L2.St), HpOk K ρ μ F H → Slots K ρ F Γ σ → ∀ Rr : It → Hp → Prop,
  WpR (di Γ μ) (fun ds μ' => ∀ ρ' F' H' J, Nx ρ F H ρ' F' H' → HpOk K ρ' μ' F' H' → ItOk K ρ' F' J ds → Rr J H') (XP K E ρ F H) → wi σ H Rr
end Ar

set_option Elab.async false
set_option linter.all false
set_option maxRecDepth 100000
set_option maxHeartbeats 2000000
/-! Ar2: expressions -/
namespace Ar
open PySem PySem.Spec PyProof.Rows L2

/-! ### judgements: the syntax and its combinator -/
structure QE (X : Cx) (E : XK) (e : Expr) (de : DE) : Prop where
  ex : ∃ te, PE X e te ∧ SimE X.K E te de
structure QT (X : Cx) (E : XK) (e : Expr) (dt : DT) : Prop where
  ex : ∃ tt, PT X e tt ∧ SimT X.K E tt dt
structure QW (X : Cx) (E : XK) (e : Expr) (dt : DT) : Prop where
  ex : ∃ tt, PW X e tt ∧ SimT X.K E tt dt
structure QA (X : Cx) (E : XK) (es : List Expr) (da : DA) : Prop where
  ex : ∃ ta, PA X es ta ∧ SimA X.K E ta da
structure QO (X : Cx) (E : XK) (e : Option Expr) (do_ : DO) : Prop where
  ex : ∃ to, PO X e to ∧ SimO X.K E to do_
structure QG (X : Cx) (E : XK) (e : Expr) (dg : DG) : Prop where
  ex : ∃ g, PG X e g ∧ SimG X.K E g dg
structure QSt (X : Cx) (E : XK) (st : Stmt) (ds : DS) : Prop where
  ex : ∃ ts, PS X st ts ∧ SimS X.K E ts ds
structure QSs (X : Cx) (E : XK) (st : List Stmt) (ds : DS) : Prop where
  ex : ∃ ts, PSs X st ts ∧ SimS X.K E ts ds
structure QI (X : Cx) (E : XK) (tg iter : Expr) (di : DA) : Prop where
  ex : ∃ wi, PI X tg iter wi ∧ SimI X.K E wi di

/-! ### values -/
def dVar (i : Nat) : DE := fun Γ μ => match Γ[i]? with
  | some (some d) => .ok d μ
  | _ => .stk
def dC (d : D) : DE := fun _ μ => .ok d μ
section
variable {X : Cx} {E : XK}
theorem sim_var {K : PySem.W.Frag} {i : Nat} : SimE K E (tVar i) (dVar i) := by
  intro ρ F H Γ μ σ k s Q h
  unfold dVar at h
  split at h
  · rename_i d e
    obtain ⟨v, e1, r⟩ := s.at_ i d e
    exact ⟨v, e1, h ρ F H v Nx.refl k r⟩
  · exact False.elim h
theorem sim_c {K : PySem.W.Frag} {v : V} {d : D} (hv : ∀ ρ F, Dn K ρ F v d) : SimE K E (tC v) (dC d) := by
  intro ρ F H Γ μ σ k s Q h
  exact h ρ F H v Nx.refl k (hv ρ F)
theorem qv (i : Nat) {x : Str} {pos : Pos} (hN : X.N[i]? = some x := by rfl) (hv : Vis X.env.scope x := by first | exact Or.inl rfl | exact Or.inr (Or.inl rfl) | exact Or.inr (Or.inr rfl)) (hd : (x == ("__debug__" : Str)) = false := by decide)
    (hcd : (x == ("__classdict__" : Str)) = false := by decide) : QE X E (.Name x pos) (dVar i) := ⟨_, pe_var hN hv hd hcd, sim_var⟩
theorem q_int {i j pos} : QE X E (.Constant (.int i) j pos) (dC (.int i)) := ⟨_, pe_int, sim_c fun _ _ => .int i⟩
theorem q_bl {b j pos} : QE X E (.Constant (.bool b) j pos) (dC (.bl b)) := ⟨_, pe_bl, sim_c fun _ _ => .bl b⟩
theorem q_non {j pos} : QE X E (.Constant .none j pos) (dC .non) := ⟨_, pe_non, sim_c fun _ _ => .non⟩
theorem q_str {x j pos} : QE X E (.Constant (.str x) j pos) (dC (.str x)) := ⟨_, pe_str, sim_c fun _ _ => .str x⟩
/-- a module's name -/
structure GloV (X : Cx) (x : Str) (d : D) : Prop where
  ex : ∃ v u, X.mg x = some u ∧ RelV v u ∧ ∀ ρ F, Dn X.K ρ F v d
theorem q_glob {x : Str} {d : D} {pos : Pos} (g : GloV X x d) (hg : Gl X x := by rfl) (hd : (x == ("__debug__" : Str)) = false := by decide) : QE X E (.Name x pos) (dC d) := by
  obtain ⟨v, u, hm, r, hv⟩ := g.ex
  exact ⟨_, pe_glob hg hm r hd, sim_c hv⟩
/-- a built-in class as a value -/
theorem q_ty {x : Str} {n : String} {pos : Pos} (hm : X.mg x = none) (hv : bootBuiltins x = some (.type n)) (hg : Gl X x := by rfl) (hn : x ≠ "__name__" := by decide) (hd : (x == ("__debug__" : Str)) = false := by decide) :
    QE X E (.Name x pos) (dC (.ty n)) := ⟨_, pe_bltn (v := .ty n) hg hm hv rfl hn hd, sim_c fun _ _ => .ty n⟩
end

/-! ### operators -/
def OpS (K : PySem.W.Frag) (r : R2) (f : Mu → D → D → Option D) : Prop := ∀ (ρ : List Addr) (F H : Hp) (μ : Mu) (v w : V) (d e z : D), HpOk K ρ μ F H → Dn K ρ F v d → Dn K ρ F w e → f μ d e = some z → ∀ Q : VK, QV K ρ F H Q z μ → r v w H Q
structure OpD (X : Cx) (g : Value → Value → Sem Value) (f : Mu → D → D → Option D) : Prop where
  ex : ∃ r, OpR X g r ∧ OpS X.K r f
def dBin (f : Mu → D → D → Option D) (a b : DE) : DE := fun Γ μ => (a Γ μ).bind fun x μ1 => (b Γ μ1).bind fun y μ2 => R.of μ2 (f μ2 x y)
def dUn (f : Mu → D → Option D) (a : DE) : DE := fun Γ μ => (a Γ μ).bind fun x μ1 => R.of μ1 (f μ1 x)
/-- one or the other -/
def orF (f g : Mu → D → D → Option D) : Mu → D → D → Option D := fun μ x y => match f μ x y with
  | some z => some z
  | none => g μ x y
section
variable {X : Cx} {E : XK} {K : PySem.W.Frag} {a b : Expr} {da db : DE} {pos : Pos}
theorem sim_bin {r : R2} {f : Mu → D → D → Option D} {ta tb : TE} (hr : OpS K r f) (ha : SimE K E ta da) (hb : SimE K E tb db) : SimE K E (tOp r ta tb) (dBin f da db) := by
  intro ρ F H Γ μ σ k s Q h
  refine ha ρ F H Γ μ σ k s _ (h.bind.mono (fun x μ1 h1 => ?_) fun _ _ q => q)
  intro ρ1 F1 H1 v n1 k1 r1
  refine hb ρ1 F1 H1 Γ μ1 σ k1 (s.nx n1) _ (h1.bind.mono (fun y μ2 h2 => ?_) fun _ _ q => XP.nx n1 q)
  intro ρ2 F2 H2 w n2 k2 r2
  obtain ⟨z, ez, q⟩ := h2.of
  exact hr ρ2 F2 H2 μ2 v w x y z k2 (r1.nx n2) r2 ez Q (QV.nx (n1.trans n2) q)
theorem OpD.or {g : Value → Value → Sem Value} {f f' : Mu → D → D → Option D} (h : OpD X g f) (h' : OpD X g f') : OpD X g (orF f f') := by
  obtain ⟨r, h1, h2⟩ := h.ex
  obtain ⟨r', h1', h2'⟩ := h'.ex
  refine ⟨_, h1.or h1', fun ρ F H μ v w d e z k rv rw' ez Q q => ?_⟩
  unfold orF at ez
  split at ez
  · rename_i z' e1
    cases ez
    exact .inl (h2 ρ F H μ v w d e z k rv rw' e1 Q q)
  · exact .inr (h2' ρ F H μ v w d e z k rv rw' ez Q q)
theorem q_op {op : Operator} {f : Mu → D → D → Option D} (ho : OpD X (binaryOp op) f) (ha : QE X E a da) (hb : QE X E b db) : QE X E (.BinOp a op b pos) (dBin f da db) := by
  obtain ⟨r, h1, h2⟩ := ho.ex
  obtain ⟨ta, a1, a2⟩ := ha.ex
  obtain ⟨tb, b1, b2⟩ := hb.ex
  exact ⟨_, pe_op h1 a1 b1, sim_bin h2 a2 b2⟩
theorem q_cmp {op : CmpOp} {f : Mu → D → D → Option D} (ho : OpD X (compareOp op) f) (ha : QE X E a da) (hb : QE X E b db) (hm : behindInMarks op b = false := by first | exact nomark _ | rfl) : QE X E (.Compare a [op] [b] pos) (dBin f da db) := by
  obtain ⟨r, h1, h2⟩ := ho.ex
  obtain ⟨ta, a1, a2⟩ := ha.ex
  obtain ⟨tb, b1, b2⟩ := hb.ex
  exact ⟨_, pe_cmpR h1 a1 b1 hm, sim_bin h2 a2 b2⟩
/-- a truth value -/
def dTest (a : DE) : DT := fun Γ μ => (a Γ μ).bind fun x μ1 => match x with
  | .bl b => .ok b μ1
  | _ => .stk
theorem sim_test {ta : TE} (ha : SimE K E ta da) : SimT K E (tTest ta) (dTest da) := by
  intro ρ F H Γ μ σ k s Q h
  refine ha ρ F H Γ μ σ k s _ (h.bind.mono (fun x μ1 h1 => ?_) fun _ _ q => q)
  intro ρ1 F1 H1 v n1 k1 r1
  cases x with
  | bl b => cases r1; exact ⟨b, rfl, h1 ρ1 F1 H1 n1 k1⟩
  | _ => exact False.elim h1
theorem qt_cmp {op : CmpOp} {f : Mu → D → D → Option D} (ho : OpD X (compareOp op) f) (ha : QE X E a da) (hb : QE X E b db) (hm : behindInMarks op b = false := by first | exact nomark _ | rfl) : QT X E (.Compare a [op] [b] pos) (dTest (dBin f da db)) := by
  obtain ⟨r, h1, h2⟩ := ho.ex
  obtain ⟨ta, a1, a2⟩ := ha.ex
  obtain ⟨tb, b1, b2⟩ := hb.ex
  exact ⟨_, pt_cmpR h1 a1 b1 hm, sim_test (sim_bin h2 a2 b2)⟩
/-- a value's truth -/
def truD (μ : Mu) : D → Option Bool
  | .non => some false
  | .bl b => some b
  | .int i => some (i != 0)
  | .str y => if y.length ≤ 1000000 then some ((y.length : Int) != 0) else none
  | .lst ds => some (!ds.isEmpty)
  | .tup ds => some (!ds.isEmpty)
  | .loc n => match μ[n]? with
    | some (.lst ds) => some (!ds.isEmpty)
    | some (.frz ds) => some (!ds.isEmpty)
    | _ => none
  | _ => none
theorem million : (1000000 : Nat) ≤ sizeLine := by rw [sizeLine_eq]; decide
theorem lt_million {n : Nat} (h : n < 1000000) : n < sizeLine := Nat.lt_of_lt_of_le h million
theorem le_million {n : Nat} (h : n ≤ 1000000) : n ≤ sizeLine := Nat.le_trans h million
theorem emptyAll {ρ : List Addr} {F : Hp} {vs : List V} {ds : List D} (h : DnAll K ρ F vs ds) : vs.isEmpty = ds.isEmpty := by cases h <;> rfl
theorem tru_of {ρ : List Addr} {F H : Hp} {μ : Mu} {v : V} {d : D} {b : Bool} (k : HpOk K ρ μ F H) (r : Dn K ρ F v d) (h : truD μ d = some b) : TruV K v H b := by
  cases r with
  | non => cases h; exact rfl
  | bl x => cases h; exact rfl
  | int i => cases h; exact rfl
  | str y =>
    have h : (if y.length ≤ 1000000 then some ((y.length : Int) != 0) else none) = some b := h
    split at h
    · rename_i hy
      cases h
      exact ⟨le_million hy, rfl⟩
    · cases h
  | tup hs ha =>
    cases h
    exact .inr (.inl ⟨_, k.ex.sqT hs, by rw [emptyAll ha]⟩)
  | lst hs ha =>
    cases h
    exact .inl ⟨_, .inl (Rd.of (k.ex _ _ hs)), by rw [emptyAll ha]⟩
  | @loc a n e =>
    have h : (match μ[n]? with
      | some (.lst ds) => some (!ds.isEmpty)
      | some (.frz ds) => some (!ds.isEmpty)
      | _ => none) = some b := h
    split at h
    · rename_i ds em
      cases h
      obtain ⟨_, vs, e1, e2⟩ := k.mu n a _ e em
      exact .inl ⟨_, SqL.of e1, by rw [emptyAll e2]⟩
    · rename_i ds em
      cases h
      obtain ⟨vs, e1, e2⟩ := k.mu n a _ e em
      exact .inl ⟨_, SqL.of (k.ex _ _ e1), by rw [emptyAll e2]⟩
    · cases h
  | scr _ _ => cases h
  | ins _ _ => cases h
  | slt _ _ _ => cases h
  | dK _ _ => cases h
  | glo x => cases h
  | ty n => cases h
  | adr => cases h
  | clo => cases h
  | exn => cases h
def dTru (a : DE) : DT := fun Γ μ => (a Γ μ).bind fun x μ1 => R.of μ1 (truD μ1 x)
theorem qt_tru (ha : QE X E a da) (he : ∀ whole, isTrue a X.env whole = (do let v ← whole; standAt a.pos; holding [v] (truthy v)) := by intro _; rfl) : QT X E a (dTru da) := by
  obtain ⟨ta, a1, a2⟩ := ha.ex
  refine ⟨_, pt_truth a1 he, ?_⟩
  intro ρ F H Γ μ σ k s Q h
  refine a2 ρ F H Γ μ σ k s _ (h.bind.mono (fun x μ1 h1 => ?_) fun _ _ q => q)
  intro ρ1 F1 H1 v n1 k1 r1
  obtain ⟨z, ez, q⟩ := h1.of
  exact ⟨z, tru_of k1 r1 ez, q ρ1 F1 H1 n1 k1⟩
/-! and, or, not: tests -/
def dAnd (t u : DT) : DT := fun Γ μ => (t Γ μ).bind fun c μ1 => match c with
  | true => u Γ μ1
  | false => .ok false μ1
def dOr (t u : DT) : DT := fun Γ μ => (t Γ μ).bind fun c μ1 => match c with
  | true => .ok true μ1
  | false => u Γ μ1
def dNot (t : DT) : DT := fun Γ μ => (t Γ μ).bind fun c μ1 => .ok (!c) μ1
variable {t u : DT} {rest : List Expr}
theorem sim_and {t' u' : TT} (h1 : SimT K E t' t) (h2 : SimT K E u' u) : SimT K E (tAnd t' u') (dAnd t u) := by
  intro ρ F H Γ μ σ k s Q h
  refine h1 ρ F H Γ μ σ k s _ (h.bind.mono (fun x μ1 q => ?_) fun _ _ q => q)
  intro ρ1 F1 H1 n1 k1
  cases x with
  | true =>
    show u' σ H1 Q
    refine h2 ρ1 F1 H1 Γ μ1 σ k1 (s.nx n1) Q (WpR.mono q (fun b μ2 q2 => ?_) fun _ _ q => XP.nx n1 q)
    exact fun ρ2 F2 H2 n2 k2 => q2 ρ2 F2 H2 (n1.trans n2) k2
  | false => exact q ρ1 F1 H1 n1 k1
theorem sim_or {t' u' : TT} (h1 : SimT K E t' t) (h2 : SimT K E u' u) : SimT K E (tOr t' u') (dOr t u) := by
  intro ρ F H Γ μ σ k s Q h
  refine h1 ρ F H Γ μ σ k s _ (h.bind.mono (fun x μ1 q => ?_) fun _ _ q => q)
  intro ρ1 F1 H1 n1 k1
  cases x with
  | false =>
    show u' σ H1 Q
    refine h2 ρ1 F1 H1 Γ μ1 σ k1 (s.nx n1) Q (WpR.mono q (fun b μ2 q2 => ?_) fun _ _ q => XP.nx n1 q)
    exact fun ρ2 F2 H2 n2 k2 => q2 ρ2 F2 H2 (n1.trans n2) k2
  | true => exact q ρ1 F1 H1 n1 k1
theorem sim_not {t' : TT} (h1 : SimT K E t' t) : SimT K E (tNot t') (dNot t) := by
  intro ρ F H Γ μ σ k s Q h
  exact h1 ρ F H Γ μ σ k s _ (h.bind.mono (fun x μ1 q => q) fun _ _ q => q)
theorem qw_one_and (h : QT X E a t) : QW X E (.BoolOp .And [a] pos) t := by
  obtain ⟨t', h1, h2⟩ := h.ex
  exact ⟨_, pw_and1 h1, h2⟩
theorem qw_one_or (h : QT X E a t) : QW X E (.BoolOp .Or [a] pos) t := by
  obtain ⟨t', h1, h2⟩ := h.ex
  exact ⟨_, pw_or1 h1, h2⟩
theorem qw_and (h : QT X E a t) (h' : QW X E (.BoolOp .And (b :: rest) pos) u) : QW X E (.BoolOp .And (a :: b :: rest) pos) (dAnd t u) := by
  obtain ⟨t', h1, h2⟩ := h.ex
  obtain ⟨u', g1, g2⟩ := h'.ex
  exact ⟨_, pw_and h1 g1, sim_and h2 g2⟩
theorem qw_or (h : QT X E a t) (h' : QW X E (.BoolOp .Or (b :: rest) pos) u) : QW X E (.BoolOp .Or (a :: b :: rest) pos) (dOr t u) := by
  obtain ⟨t', h1, h2⟩ := h.ex
  obtain ⟨u', g1, g2⟩ := h'.ex
  exact ⟨_, pw_or h1 g1, sim_or h2 g2⟩
theorem qt_w {e : Expr} (h : QW X E e t) : QT X E e t := by
  obtain ⟨t', h1, h2⟩ := h.ex
  exact ⟨_, h1.pt, h2⟩
theorem qt_not (h : QT X E a t) : QT X E (.UnaryOp .Not a pos) (dNot t) := by
  obtain ⟨t', h1, h2⟩ := h.ex
  exact ⟨_, pt_not h1, sim_not h2⟩
/-! as values -/
def dAndV (x y : DE) : DE := fun Γ μ => (x Γ μ).bind fun c μ1 => match c with
  | .bl true => y Γ μ1
  | .bl false => .ok (.bl false) μ1
  | _ => .stk
def dOrV (x y : DE) : DE := fun Γ μ => (x Γ μ).bind fun c μ1 => match c with
  | .bl true => .ok (.bl true) μ1
  | .bl false => y Γ μ1
  | _ => .stk
def dNotV (x : DE) : DE := fun Γ μ => (x Γ μ).bind fun c μ1 => match c with
  | .bl b => .ok (.bl (!b)) μ1
  | _ => .stk
theorem q_one {op} (h : QE X E a da) : QE X E (.BoolOp op [a] pos) da := by
  obtain ⟨t', h1, h2⟩ := h.ex
  exact ⟨_, pe_one h1, h2⟩
theorem q_and (h : QE X E a da) (h' : QE X E (.BoolOp .And (b :: rest) pos) db) : QE X E (.BoolOp .And (a :: b :: rest) pos) (dAndV da db) := by
  obtain ⟨ta, a1, a2⟩ := h.ex
  obtain ⟨tb, b1, b2⟩ := h'.ex
  refine ⟨_, pe_and a1 b1, ?_⟩
  intro ρ F H Γ μ σ k s Q h
  refine a2 ρ F H Γ μ σ k s _ (h.bind.mono (fun x μ1 q => ?_) fun _ _ q => q)
  intro ρ1 F1 H1 v n1 k1 r1
  cases r1 with
  | bl c =>
    refine ⟨c, rfl, ?_⟩
    cases c with
    | true =>
      show tb σ H1 Q
      refine b2 ρ1 F1 H1 Γ μ1 σ k1 (s.nx n1) Q (WpR.mono q (fun b μ2 q2 => ?_) fun _ _ q => XP.nx n1 q)
      exact QV.nx n1 q2
    | false => exact q ρ1 F1 H1 _ n1 k1 (.bl false)
  | _ => exact False.elim q
theorem q_or (h : QE X E a da) (h' : QE X E (.BoolOp .Or (b :: rest) pos) db) : QE X E (.BoolOp .Or (a :: b :: rest) pos) (dOrV da db) := by
  obtain ⟨ta, a1, a2⟩ := h.ex
  obtain ⟨tb, b1, b2⟩ := h'.ex
  refine ⟨_, pe_or a1 b1, ?_⟩
  intro ρ F H Γ μ σ k s Q h
  refine a2 ρ F H Γ μ σ k s _ (h.bind.mono (fun x μ1 q => ?_) fun _ _ q => q)
  intro ρ1 F1 H1 v n1 k1 r1
  cases r1 with
  | bl c =>
    refine ⟨c, rfl, ?_⟩
    cases c with
    | false =>
      show tb σ H1 Q
      refine b2 ρ1 F1 H1 Γ μ1 σ k1 (s.nx n1) Q (WpR.mono q (fun b μ2 q2 => ?_) fun _ _ q => XP.nx n1 q)
      exact QV.nx n1 q2
    | true => exact q ρ1 F1 H1 _ n1 k1 (.bl true)
  | _ => exact False.elim q
theorem q_not (h : QE X E a da) : QE X E (.UnaryOp .Not a pos) (dNotV da) := by
  obtain ⟨ta, a1, a2⟩ := h.ex
  refine ⟨_, pe_not a1, ?_⟩
  intro ρ F H Γ μ σ k s Q h
  refine a2 ρ F H Γ μ σ k s _ (h.bind.mono (fun x μ1 q => ?_) fun _ _ q => q)
  intro ρ1 F1 H1 v n1 k1 r1
  cases r1 with
  | bl c => exact ⟨c, rfl, q ρ1 F1 H1 _ n1 k1 (.bl _)⟩
  | _ => exact False.elim q
/-- a if t else b -/
def dIf (t : DT) (x y : DE) : DE := fun Γ μ => (t Γ μ).bind fun c μ1 => match c with
  | true => x Γ μ1
  | false => y Γ μ1
theorem q_if {c : Expr} (hc : QT X E c t) (ha : QE X E a da) (hb : QE X E b db) : QE X E (.IfExp c a b pos) (dIf t da db) := by
  obtain ⟨tc, c1, c2⟩ := hc.ex
  obtain ⟨ta, a1, a2⟩ := ha.ex
  obtain ⟨tb, b1, b2⟩ := hb.ex
  refine ⟨_, pe_ifExp c1 a1 b1, ?_⟩
  intro ρ F H Γ μ σ k s Q h
  refine c2 ρ F H Γ μ σ k s _ (h.bind.mono (fun x μ1 q => ?_) fun _ _ q => q)
  intro ρ1 F1 H1 n1 k1
  cases x with
  | true =>
    show ta σ H1 Q
    exact a2 ρ1 F1 H1 Γ μ1 σ k1 (s.nx n1) Q (WpR.mono q (fun b μ2 q2 => QV.nx n1 q2) fun _ _ q => XP.nx n1 q)
  | false =>
    show tb σ H1 Q
    exact b2 ρ1 F1 H1 Γ μ1 σ k1 (s.nx n1) Q (WpR.mono q (fun b μ2 q2 => QV.nx n1 q2) fun _ _ q => XP.nx n1 q)
end

/-! ### arguments, tuples, lists -/
def daNil : DA := fun _ μ => .ok [] μ
def daCons (a : DE) (r : DA) : DA := fun Γ μ => (a Γ μ).bind fun x μ1 => (r Γ μ1).bind fun xs μ2 => .ok (x :: xs) μ2
def dTup (a : DA) : DE := fun Γ μ => (a Γ μ).bind fun xs μ1 => if xs.length ≤ 1000000 then .ok (.tup xs) μ1 else .stk
/-- a list that never changes -/
def dLst (a : DA) : DE := fun Γ μ => (a Γ μ).bind fun xs μ1 => if xs.length ≤ 1000000 then .ok (.lst xs) μ1 else .stk
/-- a list that may change -/
def dLstM (a : DA) : DE := fun Γ μ => (a Γ μ).bind fun xs μ1 => if xs.length ≤ 1000000 then .ok (.loc μ1.length) (μ1 ++ [.lst xs]) else .stk
section
variable {X : Cx} {E : XK} {K : PySem.W.Frag} {e : Expr} {es : List Expr} {de : DE} {da : DA} {pos : Pos}
theorem sim_nil : SimA K E tNil daNil := by
  intro ρ F H Γ μ σ k s Q h
  exact h ρ F H [] Nx.refl k .nil
theorem sim_cons {te : TE} {ta : TA} (h1 : SimE K E te de) (h2 : SimA K E ta da) : SimA K E (tCons te ta) (daCons de da) := by
  intro ρ F H Γ μ σ k s Q h
  refine h1 ρ F H Γ μ σ k s _ (h.bind.mono (fun x μ1 q => ?_) fun _ _ q => q)
  intro ρ1 F1 H1 v n1 k1 r1
  refine h2 ρ1 F1 H1 Γ μ1 σ k1 (s.nx n1) _ (q.bind.mono (fun xs μ2 q2 => ?_) fun _ _ q => XP.nx n1 q)
  intro ρ2 F2 H2 vs n2 k2 r2
  exact q2 ρ2 F2 H2 (v :: vs) (n1.trans n2) k2 (.cons (r1.nx n2) r2)
theorem qa_nil : QA X E [] daNil := ⟨_, pa_nil, sim_nil⟩
theorem qa_cons (ha : QE X E e de) (hr : QA X E es da) (hs : starEach (e :: es) X.env = (false, eval e X.env) :: starEach es X.env := by rfl) : QA X E (e :: es) (daCons de da) := by
  obtain ⟨te, a1, a2⟩ := ha.ex
  obtain ⟨ta, b1, b2⟩ := hr.ex
  exact ⟨_, pa_cons a1 b1 hs, sim_cons a2 b2⟩
/-- a new object of ours that never changes -/
theorem new_tup {ρ : List Addr} {F H : Hp} {μ : Mu} {vs : List V} {ds : List D} (k : HpOk K ρ μ F H) (r : DnAll K ρ F vs ds) {p : Addr} (hp : H p = none) : Nx ρ F H ρ (upd F p (.tup vs)) (upd H p (.tup vs)) ∧ HpOk K ρ μ (upd F p (.tup vs)) (upd H p (.tup vs)) ∧ Dn K ρ (upd F p (.tup vs)) (.ref p) (.tup ds) := by
  have n := Nx.newF_ (o := .tup vs) k hp
  exact ⟨n, k.newF hp, .tup (SqT.of upd_same) (r.nx n)⟩
theorem new_lst {ρ : List Addr} {F H : Hp} {μ : Mu} {vs : List V} {ds : List D} (k : HpOk K ρ μ F H) (r : DnAll K ρ F vs ds) {p : Addr} (hp : H p = none) : Nx ρ F H ρ (upd F p (.lst vs)) (upd H p (.lst vs)) ∧ HpOk K ρ μ (upd F p (.lst vs)) (upd H p (.lst vs)) ∧ Dn K ρ (upd F p (.lst vs)) (.ref p) (.lst ds) := by
  have n := Nx.newF_ (o := .lst vs) k hp
  exact ⟨n, k.newF hp, .lst upd_same (r.nx n)⟩
theorem new_lstM {ρ : List Addr} {F H : Hp} {μ : Mu} {vs : List V} {ds : List D} (k : HpOk K ρ μ F H) (r : DnAll K ρ F vs ds) {p : Addr} (hp : H p = none) : Nx ρ F H (ρ ++ [p]) F (upd H p (.lst vs)) ∧ HpOk K (ρ ++ [p]) (μ ++ [.lst ds]) F (upd H p (.lst vs)) ∧ Dn K (ρ ++ [p]) F (.ref p) (.loc μ.length) := by
  have n := Nx.newM_ (o := .lst vs) k hp
  refine ⟨n, k.newM hp ⟨k.freshF hp, vs, upd_same, r.nx n⟩, .loc ?_⟩
  rw [k.len]
  simp
theorem q_tup {x1} (h : QA X E es da) : QE X E (.Tuple es x1 pos) (dTup da) := by
  obtain ⟨ta, a1, a2⟩ := h.ex
  refine ⟨_, pe_tup a1, ?_⟩
  intro ρ F H Γ μ σ k s Q h
  refine a2 ρ F H Γ μ σ k s _ (h.bind.mono (fun x μ1 q => ?_) fun _ _ q => q)
  intro ρ1 F1 H1 vs n1 k1 r1
  split at q
  · rename_i hl
    refine ⟨by rw [r1.length]; exact le_million hl, fun p hp => ?_⟩
    obtain ⟨n2, k2, r2⟩ := new_tup k1 r1 hp
    exact q _ _ _ _ (n1.trans n2) k2 r2
  · exact False.elim q
theorem q_lst (h : QA X E es da) : QE X E (.List es pos) (dLst da) := by
  obtain ⟨ta, a1, a2⟩ := h.ex
  refine ⟨_, pe_lst a1, ?_⟩
  intro ρ F H Γ μ σ k s Q h
  refine a2 ρ F H Γ μ σ k s _ (h.bind.mono (fun x μ1 q => ?_) fun _ _ q => q)
  intro ρ1 F1 H1 vs n1 k1 r1
  split at q
  · rename_i hl
    refine ⟨by rw [r1.length]; exact le_million hl, fun p hp => ?_⟩
    obtain ⟨n2, k2, r2⟩ := new_lst k1 r1 hp
    exact q _ _ _ _ (n1.trans n2) k2 r2
  · exact False.elim q
theorem q_lstM (h : QA X E es da) : QE X E (.List es pos) (dLstM da) := by
  obtain ⟨ta, a1, a2⟩ := h.ex
  refine ⟨_, pe_lst a1, ?_⟩
  intro ρ F H Γ μ σ k s Q h
  refine a2 ρ F H Γ μ σ k s _ (h.bind.mono (fun x μ1 q => ?_) fun _ _ q => q)
  intro ρ1 F1 H1 vs n1 k1 r1
  split at q
  · rename_i hl
    refine ⟨by rw [r1.length]; exact le_million hl, fun p hp => ?_⟩
    obtain ⟨n2, k2, r2⟩ := new_lstM k1 r1 hp
    exact q _ _ _ _ (n1.trans n2) k2 r2
  · exact False.elim q
end

/-! ### what a sequence holds -/
def seqL (μ : Mu) : D → Option (List D)
  | .lst ds => some ds
  | .loc n => match μ[n]? with
    | some (.lst ds) => some ds
    | some (.frz ds) => some ds
    | _ => none
  | _ => none
def seqT : D → Option (List D)
  | .tup ds => some ds
  | _ => none
section
variable {K : PySem.W.Frag} {ρ : List Addr} {F H : Hp} {μ : Mu} {v : V} {d : D} {ds : List D}
theorem seqL_ok (k : HpOk K ρ μ F H) (r : Dn K ρ F v d) (h : seqL μ d = some ds) : ∃ a vs, v = .ref a ∧ Rd H a (.lst vs) ∧ DnAll K ρ F vs ds := by
  unfold seqL at h
  split at h
  · cases h
    cases r with
    | lst hs ha => exact ⟨_, _, rfl, Rd.of (k.ex _ _ hs), ha⟩
  · rename_i n
    cases r with
    | @loc a _ e =>
      split at h
      · rename_i em
        cases h
        obtain ⟨_, vs, e1, e2⟩ := k.mu n a _ e em
        exact ⟨a, vs, rfl, Rd.of e1, e2⟩
      · rename_i em
        cases h
        obtain ⟨vs, e1, e2⟩ := k.mu n a _ e em
        exact ⟨a, vs, rfl, Rd.of (k.ex _ _ e1), e2⟩
      · cases h
  · cases h
theorem DnAll.atI {vs : List V} {i : Int} (h : DnAll K ρ F vs ds) (e : L2.atI ds i = some d) : ∃ v, L2.atI vs i = some v ∧ Dn K ρ F v d := by
  unfold L2.atI at e ⊢
  rw [h.length]
  cases q : ixN ds.length i with
  | none => rw [q] at e; cases e
  | some j =>
    rw [q] at e
    exact h.get e
end

/-! ### the operators by kinds -/
def fII (g : Int → Int → Option D) : Mu → D → D → Option D := fun _ x y => match x, y with
  | .int i, .int j => g i j
  | _, _ => none
theorem fII_some {g : Int → Int → Option D} {μ : Mu} {x y z : D} (h : fII g μ x y = some z) : ∃ i j, x = .int i ∧ y = .int j ∧ g i j = some z := by
  unfold fII at h
  split at h
  · exact ⟨_, _, rfl, rfl, h⟩
  · cases h
def fSS (g : Str → Str → Option D) : Mu → D → D → Option D := fun _ x y => match x, y with
  | .str i, .str j => g i j
  | _, _ => none
theorem fSS_some {g : Str → Str → Option D} {μ : Mu} {x y z : D} (h : fSS g μ x y = some z) : ∃ i j, x = .str i ∧ y = .str j ∧ g i j = some z := by
  unfold fSS at h
  split at h
  · exact ⟨_, _, rfl, rfl, h⟩
  · cases h
section
variable {X : Cx}
/-- an operator on two ints that gives an int -/
theorem opII {g : Value → Value → Sem Value} {C : Int → Int → Prop} [∀ i j, Decidable (C i j)] {f : Int → Int → Int} (h : OpR X g (rI C fun i j => .int (f i j))) : OpD X g (fII fun i j => if C i j then some (.int (f i j)) else none) := by
  refine ⟨_, h, fun ρ F H μ v w d e z k rv rw' ez Q q => ?_⟩
  obtain ⟨i, j, rfl, rfl, e2⟩ := fII_some ez
  clear ez
  cases rv
  cases rw'
  have ez := e2
  split at ez
  · rename_i hc
    cases ez
    exact ⟨i, j, rfl, rfl, hc, q ρ F H _ Nx.refl k (.int _)⟩
  · cases ez
theorem opII0 {g : Value → Value → Sem Value} {f : Int → Int → Int} (h : OpR X g (rI0 fun i j => .int (f i j))) : OpD X g (fII fun i j => some (.int (f i j))) := by
  refine ⟨_, h, fun ρ F H μ v w d e z k rv rw' ez Q q => ?_⟩
  obtain ⟨i, j, rfl, rfl, ez⟩ := fII_some ez
  cases rv
  cases rw'
  cases ez
  exact ⟨i, j, rfl, rfl, q ρ F H _ Nx.refl k (.int _)⟩
theorem opIB0 {g : Value → Value → Sem Value} {f : Int → Int → Bool} (h : OpR X g (rI0 fun i j => .bl (f i j))) : OpD X g (fII fun i j => some (.bl (f i j))) := by
  refine ⟨_, h, fun ρ F H μ v w d e z k rv rw' ez Q q => ?_⟩
  obtain ⟨i, j, rfl, rfl, ez⟩ := fII_some ez
  cases rv
  cases rw'
  cases ez
  exact ⟨i, j, rfl, rfl, q ρ F H _ Nx.refl k (.bl _)⟩
def fAddI := fII fun i j => some (.int (i + j))
def fSubI := fII fun i j => some (.int (i - j))
theorem od_addI : OpD X (binaryOp .Add) fAddI := opII0 op_add
theorem od_subI : OpD X (binaryOp .Sub) fSubI := opII0 op_sub
def mulOk (i j : Int) : Bool := Nat.blt i.natAbs (2 ^ 64) || Nat.blt j.natAbs (2 ^ 64) || Nat.blt (i.natAbs.log2 + j.natAbs.log2) 1000000
theorem mulOk_ok {i j : Int} (h : mulOk i j = true) : IntMulOk i j := by
  unfold mulOk at h
  rw [Bool.or_eq_true, Bool.or_eq_true] at h
  rcases h with (h | h) | h
  · have h : i.natAbs < 2 ^ 64 := Nat.le_of_ble_eq_true h
    exact CMul.ok (.inl ⟨by omega, by omega⟩)
  · have h : j.natAbs < 2 ^ 64 := Nat.le_of_ble_eq_true h
    exact CMul.ok (.inr ⟨by omega, by omega⟩)
  · exact CMulW.ok (Nat.le_of_ble_eq_true h)
theorem op_mulA : OpR X (binaryOp .Mult) (rI (fun i j => mulOk i j = true) fun i j => .int (i * j)) := opI (f := binaryOp .Mult) (C := fun i j => mulOk i j = true) (g := fun i j => i * j) fun _ _ _ _ _ _ _ hc q => mul_int q (mulOk_ok hc)
def fMulI := fII fun i j => if mulOk i j = true then some (.int (i * j)) else none
theorem od_mulI : OpD X (binaryOp .Mult) fMulI := opII op_mulA
def fModI := fII fun i j => if j ≠ 0 then some (.int (i.fmod j)) else none
theorem od_modI : OpD X (binaryOp .Mod) fModI := opII (C := fun _ j => j ≠ 0) op_modN
def powOk (i j : Int) : Bool := decide (0 ≤ j) && (decide (j ≤ 1000000) && decide (i.natAbs < 2 ^ 64))
def fPowI := fII fun i j => if powOk i j = true then some (.int (i ^ j.toNat)) else none
theorem od_powI : OpD X (binaryOp .Pow) fPowI := by
  have h : OpR X (binaryOp .Pow) (rI (fun i j => powOk i j = true) fun i j => .int (i ^ j.toNat)) := by
    intro pins s σ H x y v u Q I rx ry hh
    refine op_pow pins s σ H x y v u Q I rx ry ?_
    obtain ⟨i, j, e1, e2, hc, q⟩ := hh
    unfold powOk at hc
    rw [Bool.and_eq_true, Bool.and_eq_true] at hc
    exact ⟨i, j, e1, e2, ⟨of_decide_eq_true hc.1, of_decide_eq_true hc.2.1, of_decide_eq_true hc.2.2⟩, q⟩
  exact opII h
def fLt := fII fun i j => some (.bl (decide (i < j)))
def fLe := fII fun i j => some (.bl (decide (i ≤ j)))
def fGt := fII fun i j => some (.bl (decide (j < i)))
def fGe := fII fun i j => some (.bl (decide (j ≤ i)))
theorem od_lt : OpD X (compareOp .Lt) fLt := opIB0 op_lt
theorem od_le : OpD X (compareOp .LtE) fLe := opIB0 op_le
theorem od_gt : OpD X (compareOp .Gt) fGt := opIB0 op_gt
theorem od_ge : OpD X (compareOp .GtE) fGe := opIB0 op_ge
def fAddS := fSS fun i j => if i.length + j.length ≤ 1000000 then some (.str (i ++ j)) else none
theorem od_addS : OpD X (binaryOp .Add) fAddS := by
  refine ⟨_, op_add_str, fun ρ F H μ v w d e z k rv rw' ez Q q => ?_⟩
  obtain ⟨i, j, rfl, rfl, e2⟩ := fSS_some ez
  clear ez
  cases rv
  cases rw'
  have ez := e2
  split at ez
  · rename_i hc
    cases ez
    exact ⟨i, j, rfl, rfl, le_million hc, q ρ F H _ Nx.refl k (.str _)⟩
  · cases ez
end
end Ar

set_option Elab.async false
set_option linter.all false
set_option maxRecDepth 100000
set_option maxHeartbeats 2000000
/-! Ar3: more operators, subscripts, slices -/
namespace Ar
open PySem PySem.Spec PyProof.Rows L2

/-! ### == of data -/
mutual
def toP : D → PyData
  | .non => .none
  | .bl b => .bool b
  | .int i => .int i
  | .str x => .str x
  | .tup ds => .tuple (toPs ds)
  | .lst ds => .list (toPs ds)
  | _ => .none
def toPs : List D → List PyData
  | [] => []
  | d :: ds => toP d :: toPs ds
end
/-- no places, no instances within; not deep -/
def plainD : Nat → D → Bool
  | _, .non => true
  | _, .bl _ => true
  | _, .int _ => true
  | _, .str _ => true
  | n + 1, .tup ds => ds.all (plainD n)
  | n + 1, .lst ds => ds.all (plainD n)
  | _, _ => false
def eqLs (f : D → D → Bool) : List D → List D → Bool
  | [], [] => true
  | x :: xs, y :: ys => f x y && eqLs f xs ys
  | _, _ => false
def b2 (b : Bool) : Int := if b then 1 else 0
def eqD : Nat → D → D → Bool
  | _, .non, .non => true
  | _, .bl a, .bl b => a == b
  | _, .bl a, .int j => b2 a == j
  | _, .int i, .bl b => i == b2 b
  | _, .int i, .int j => i == j
  | _, .str x, .str y => x == y
  | n + 1, .tup xs, .tup ys => eqLs (eqD n) xs ys
  | n + 1, .lst xs, .lst ys => eqLs (eqD n) xs ys
  | _, _, _ => false
/-- a place's list, by value -/
def unloc (μ : Mu) (d : D) : D := match d with
  | .loc n => match μ[n]? with
    | some (.lst ds) => .lst ds
    | some (.frz ds) => .lst ds
    | _ => .loc n
  | d => d
theorem plain_toP : ∀ (n : Nat) (d : D), plainD n d = true → (toP d).plain = true ∧ (toP d).depth ≤ n
  | n, .non, _ => by cases n <;> simp [toP, PyData.plain, PyData.depth]
  | n, .bl b, _ => by cases n <;> simp [toP, PyData.plain, PyData.depth]
  | n, .int i, _ => by cases n <;> simp [toP, PyData.plain, PyData.depth]
  | n, .str i, _ => by cases n <;> simp [toP, PyData.plain, PyData.depth]
  | 0, .tup ds, h => by simp [plainD] at h
  | 0, .lst ds, h => by simp [plainD] at h
  | n + 1, .tup ds, h => by
    have h1 : ds.all (plainD n) = true := h
    have h2 : PyData.plainAll (toPs ds) = true ∧ PyData.depthAll (toPs ds) ≤ n := by
      clear h
      induction ds with
      | nil => simp [toPs, PyData.plainAll, PyData.depthAll]
      | cons d ds ih =>
        rw [List.all_cons, Bool.and_eq_true] at h1
        obtain ⟨a, b⟩ := plain_toP n d h1.1
        obtain ⟨c, e⟩ := ih h1.2
        rw [toPs, PyData.plainAll, PyData.depthAll, a, c]
        exact ⟨rfl, Nat.max_le.mpr ⟨b, e⟩⟩
    rw [toP, PyData.plain, PyData.depth]
    exact ⟨h2.1, by omega⟩
  | n + 1, .lst ds, h => by
    have h1 : ds.all (plainD n) = true := h
    have h2 : PyData.plainAll (toPs ds) = true ∧ PyData.depthAll (toPs ds) ≤ n := by
      clear h
      induction ds with
      | nil => simp [toPs, PyData.plainAll, PyData.depthAll]
      | cons d ds ih =>
        rw [List.all_cons, Bool.and_eq_true] at h1
        obtain ⟨a, b⟩ := plain_toP n d h1.1
        obtain ⟨c, e⟩ := ih h1.2
        rw [toPs, PyData.plainAll, PyData.depthAll, a, c]
        exact ⟨rfl, Nat.max_le.mpr ⟨b, e⟩⟩
    rw [toP, PyData.plain, PyData.depth]
    exact ⟨h2.1, by omega⟩
  | n, .scr _, h => by cases n <;> simp [plainD] at h
  | n, .ins _ _, h => by cases n <;> simp [plainD] at h
  | n, .slt _ _, h => by cases n <;> simp [plainD] at h
  | n, .dK _, h => by cases n <;> simp [plainD] at h
  | n, .loc _, h => by cases n <;> simp [plainD] at h
  | n, .glo _, h => by cases n <;> simp [plainD] at h
  | n, .ty _, h => by cases n <;> simp [plainD] at h
  | n, .exn _ _ _ _, h => by cases n <;> simp [plainD] at h
  | n, .adr _, h => by cases n <;> simp [plainD] at h
  | n, .clo _ _ _ _ _, h => by cases n <;> simp [plainD] at h
theorem dp_of {K : PySem.W.Frag} {ρ : List Addr} {F H : Hp} (ex : Sub F H) : ∀ (n : Nat) (d : D) (v : V), plainD n d = true → Dn K ρ F v d → Dp K H v (toP d)
  | n, .non, _, _, r => by cases r; rw [toP]; exact .non
  | n, .bl b, _, _, r => by cases r; rw [toP]; exact .bl b
  | n, .int i, _, _, r => by cases r; rw [toP]; exact .int i
  | n, .str x, _, _, r => by cases r; rw [toP]; exact .str x
  | 0, .tup ds, _, h, _ => by simp [plainD] at h
  | 0, .lst ds, _, h, _ => by simp [plainD] at h
  | n + 1, .tup ds, v, h, r => by
    have h1 : ds.all (plainD n) = true := h
    cases r with
    | @tup a vs _ hs ha =>
      rw [toP]
      refine .tup (ex.sqT hs) ?_
      clear h hs
      induction ds generalizing vs with
      | nil => cases ha; rw [toPs]; exact .nil
      | cons d ds ih =>
        rw [List.all_cons, Bool.and_eq_true] at h1
        cases ha with
        | cons r1 r2 => rw [toPs]; exact .cons (dp_of ex n d _ h1.1 r1) (ih h1.2 r2)
  | n + 1, .lst ds, v, h, r => by
    have h1 : ds.all (plainD n) = true := h
    cases r with
    | @lst a vs _ hs ha =>
      rw [toP]
      refine .lst (.inl (Rd.of (ex _ _ hs))) ?_
      clear h hs
      induction ds generalizing vs with
      | nil => cases ha; rw [toPs]; exact .nil
      | cons d ds ih =>
        rw [List.all_cons, Bool.and_eq_true] at h1
        cases ha with
        | cons r1 r2 => rw [toPs]; exact .cons (dp_of ex n d _ h1.1 r1) (ih h1.2 r2)
  | n, .scr _, _, h, _ => by cases n <;> simp [plainD] at h
  | n, .ins _ _, _, h, _ => by cases n <;> simp [plainD] at h
  | n, .slt _ _, _, h, _ => by cases n <;> simp [plainD] at h
  | n, .dK _, _, h, _ => by cases n <;> simp [plainD] at h
  | n, .loc _, _, h, _ => by cases n <;> simp [plainD] at h
  | n, .glo _, _, h, _ => by cases n <;> simp [plainD] at h
  | n, .ty _, _, h, _ => by cases n <;> simp [plainD] at h
  | n, .exn _ _ _ _, _, h, _ => by cases n <;> simp [plainD] at h
  | n, .adr _, _, h, _ => by cases n <;> simp [plainD] at h
  | n, .clo _ _ _ _ _, _, h, _ => by cases n <;> simp [plainD] at h
/-- data of a place's list, or of a value -/
theorem dp_un {K : PySem.W.Frag} {ρ : List Addr} {F H : Hp} {μ : Mu} {v : V} {d : D} {n : Nat} (k : HpOk K ρ μ F H) (h : plainD n (unloc μ d) = true) (r : Dn K ρ F v d) : Dp K H v (toP (unloc μ d)) := by
  cases d with
  | loc j =>
    cases r with
    | @loc a _ e =>
      unfold unloc at h ⊢
      simp only at h ⊢
      cases em : μ[j]? with
      | none => rw [em] at h; cases n <;> simp [plainD] at h
      | some o =>
        rw [em] at h
        cases o with
        | lst ds =>
          obtain ⟨_, vs, e1, e2⟩ := k.mu j a _ e em
          -- as a frozen list of a heap
          have h1 : plainD n (.lst ds) = true := h
          cases n with
          | zero => simp [plainD] at h1
          | succ n =>
            have h2 : ds.all (plainD n) = true := h1
            show Dp K H (.ref a) (toP (.lst ds))
            rw [toP]
            refine .lst (SqL.of e1) ?_
            clear h h1 e1 em
            induction ds generalizing vs with
            | nil => cases e2; rw [toPs]; exact .nil
            | cons d ds ih =>
              rw [List.all_cons, Bool.and_eq_true] at h2
              cases e2 with
              | cons r1 r2 => rw [toPs]; exact .cons (dp_of k.ex n d _ h2.1 r1) (ih _ r2 h2.2)
        | frz ds =>
          obtain ⟨vs, e1, e2⟩ := k.mu j a _ e em
          exact dp_of k.ex n (.lst ds) (.ref a) h (.lst e1 e2)
        | dead => cases n <;> simp [plainD] at h
        | ins _ _ => cases n <;> simp [plainD] at h
        | dK _ => cases n <;> simp [plainD] at h
        | dT _ => cases n <;> simp [plainD] at h
        | tab => cases n <;> simp [plainD] at h
  | _ => exact dp_of k.ex n _ v h r
theorem eqD_toP : ∀ (n : Nat) (d e : D), plainD n d = true → plainD n e = true → eqD n d e = PyData.eqv (toP d) (toP e) := by
  intro n
  induction n with
  | zero =>
    intro d e h1 h2
    cases d <;> cases e <;> first | (simp [plainD] at h1; done) | (simp [plainD] at h2; done) | simp [eqD, toP, PyData.eqv, b2]
  | succ n ih =>
    have all : ∀ xs ys : List D, xs.all (plainD n) = true → ys.all (plainD n) = true → eqLs (eqD n) xs ys = PyData.eqvAll (toPs xs) (toPs ys) := by
      intro xs
      induction xs with
      | nil => intro ys _ _; cases ys <;> simp [eqLs, toPs, PyData.eqvAll]
      | cons x xs ih2 =>
        intro ys h1 h2
        cases ys with
        | nil => simp [eqLs, toPs, PyData.eqvAll]
        | cons y ys =>
          rw [List.all_cons, Bool.and_eq_true] at h1 h2
          rw [eqLs, toPs, toPs, PyData.eqvAll, ih x y h1.1 h2.1, ih2 ys h1.2 h2.2]
    intro d e h1 h2
    cases d with
    | tup xs =>
      cases e with
      | tup ys => rw [toP, toP, PyData.eqv, ← all xs ys h1 h2]; rfl
      | _ => first | (simp [plainD] at h2; done) | simp [eqD, toP, PyData.eqv]
    | lst xs =>
      cases e with
      | lst ys => rw [toP, toP, PyData.eqv, ← all xs ys h1 h2]; rfl
      | _ => first | (simp [plainD] at h2; done) | simp [eqD, toP, PyData.eqv]
    | _ => cases e <;> first | (simp [plainD] at h1; done) | (simp [plainD] at h2; done) | simp [eqD, toP, PyData.eqv, b2]
def fEq : Mu → D → D → Option D := fun μ x y => if plainD 20 (unloc μ x) = true ∧ plainD 20 (unloc μ y) = true then some (.bl (eqD 20 (unloc μ x) (unloc μ y))) else none
def fNe : Mu → D → D → Option D := fun μ x y => if plainD 20 (unloc μ x) = true ∧ plainD 20 (unloc μ y) = true then some (.bl (!eqD 20 (unloc μ x) (unloc μ y))) else none
section
variable {X : Cx}
def rEqP (K : PySem.W.Frag) : R2 := fun x y H Q => ∃ d e, Dp K H x d ∧ Dp K H y e ∧ d.plain = true ∧ e.plain = true ∧ d.depth ≤ 60 ∧ Q (.bl (PyData.eqv d e)) H
def rNeP (K : PySem.W.Frag) : R2 := fun x y H Q => ∃ d e, Dp K H x d ∧ Dp K H y e ∧ d.plain = true ∧ e.plain = true ∧ d.depth ≤ 60 ∧ Q (.bl (!PyData.eqv d e)) H
theorem op_eqP (hu : X.A.units + 64 < cLine) : OpR X (compareOp .Eq) (rEqP X.K) := by
  intro pins s σ H x y v u Q I rx ry h
  obtain ⟨d, e, hd, he, sd, se, hz, q⟩ := h
  obtain ⟨as, r1⟩ := Dp.reads I d x v hd rx
  obtain ⟨bs, r2⟩ := Dp.reads I e y u he ry
  have h2 : min d.depth e.depth ≤ d.depth := Nat.min_le_left _ _
  exact SeqAt.eq_plain r1 r2 sd se (by omega) ⟨.bl _, H, I, rfl, q⟩
theorem op_neP (hu : X.A.units + 64 < cLine) : OpR X (compareOp .NotEq) (rNeP X.K) := by
  intro pins s σ H x y v u Q I rx ry h
  obtain ⟨d, e, hd, he, sd, se, hz, q⟩ := h
  obtain ⟨as, r1⟩ := Dp.reads I d x v hd rx
  obtain ⟨bs, r2⟩ := Dp.reads I e y u he ry
  have h2 : min d.depth e.depth ≤ d.depth := Nat.min_le_left _ _
  exact SeqAt.ne_plain r1 r2 sd se (by omega) ⟨.bl _, H, I, rfl, q⟩
theorem od_eq (hu : X.A.units + 64 < cLine) : OpD X (compareOp .Eq) fEq := by
  refine ⟨_, op_eqP hu, fun ρ F H μ v w d e z k rv rw' ez Q q => ?_⟩
  unfold fEq at ez
  split at ez
  · rename_i hc
    cases ez
    obtain ⟨p1, p2⟩ := plain_toP 20 _ hc.1
    obtain ⟨q1, q2⟩ := plain_toP 20 _ hc.2
    refine ⟨_, _, dp_un k hc.1 rv, dp_un k hc.2 rw', p1, q1, by omega, ?_⟩
    rw [← eqD_toP 20 _ _ hc.1 hc.2]
    exact q ρ F H _ Nx.refl k (.bl _)
  · cases ez
theorem od_ne (hu : X.A.units + 64 < cLine) : OpD X (compareOp .NotEq) fNe := by
  refine ⟨_, op_neP hu, fun ρ F H μ v w d e z k rv rw' ez Q q => ?_⟩
  unfold fNe at ez
  split at ez
  · rename_i hc
    cases ez
    obtain ⟨p1, p2⟩ := plain_toP 20 _ hc.1
    obtain ⟨q1, q2⟩ := plain_toP 20 _ hc.2
    refine ⟨_, _, dp_un k hc.1 rv, dp_un k hc.2 rw', p1, q1, by omega, ?_⟩
    rw [← eqD_toP 20 _ _ hc.1 hc.2]
    exact q ρ F H _ Nx.refl k (.bl _)
  · cases ez
end

/-! ### in -/
def seqA (μ : Mu) (d : D) : Option (List D) := match d with
  | .tup ds => some ds
  | .scr ds => some ds
  | d => seqL μ d
theorem seqA_ok {K : PySem.W.Frag} {ρ : List Addr} {F H : Hp} {μ : Mu} {v : V} {d : D} {ds : List D} (k : HpOk K ρ μ F H) (r : Dn K ρ F v d) (h : seqA μ d = some ds) : ∃ a vs, v = .ref a ∧ (SqL K H a vs ∨ SqT K H a vs) ∧ DnAll K ρ F vs ds := by
  unfold seqA at h
  split at h
  · cases h
    cases r with
    | tup h1 h2 => exact ⟨_, _, rfl, .inr (k.ex.sqT h1), h2⟩
  · cases h
    cases r with
    | scr h1 h2 => exact ⟨_, _, rfl, .inl (k.ex.sqL h1), h2⟩
  · obtain ⟨a, vs, e1, e2, e3⟩ := seqL_ok k r h
    exact ⟨a, vs, e1, .inl (.inl e2), e3⟩
def inD (x : D) (ds : List D) : Bool := ds.any fun y => eqD 20 y x
def fIn (neg : Bool) : Mu → D → D → Option D := fun μ x c => match c with
  | .str z => match x with
    | .str y => match y.cps.toList with
      | [s] => some (.bl (if neg then !decide (s ∈ z.cps.toList) else decide (s ∈ z.cps.toList)))
      | _ => none
    | _ => none
  | c => match seqA μ c with
    | some ds => if plainD 19 (unloc μ x) = true ∧ ds.all (plainD 19) = true then some (.bl (if neg then !inD (unloc μ x) ds else inD (unloc μ x) ds)) else none
    | none => none
theorem plainD_mono : ∀ (n : Nat) (d : D), plainD n d = true → plainD (n + 1) d = true := by
  intro n
  induction n with
  | zero => intro d h; cases d <;> first | rfl | (simp [plainD] at h)
  | succ n ih =>
    intro d h
    cases d with
    | tup ds =>
      have h : ds.all (plainD n) = true := h
      show ds.all (plainD (n + 1)) = true
      rw [List.all_eq_true] at h ⊢
      exact fun x hx => ih x (h x hx)
    | lst ds =>
      have h : ds.all (plainD n) = true := h
      show ds.all (plainD (n + 1)) = true
      rw [List.all_eq_true] at h ⊢
      exact fun x hx => ih x (h x hx)
    | _ => first | rfl | (simp [plainD] at h)
theorem any_toP {x : D} (hx : plainD 20 x = true) : ∀ {ds : List D}, ds.all (plainD 20) = true → (toPs ds).any (fun z => PyData.eqv z (toP x)) = inD x ds
  | [], _ => by simp [toPs, inD]
  | d :: ds, h => by
    rw [List.all_cons, Bool.and_eq_true] at h
    rw [toPs, List.any_cons, any_toP hx h.2, ← eqD_toP 20 d x h.1 hx]
    rfl
theorem plains_toPs : ∀ {ds : List D} {n : Nat}, ds.all (plainD n) = true → PyData.plainAll (toPs ds) = true ∧ PyData.depthAll (toPs ds) ≤ n
  | [], _, _ => by simp [toPs, PyData.plainAll, PyData.depthAll]
  | d :: ds, n, h => by
    rw [List.all_cons, Bool.and_eq_true] at h
    obtain ⟨a, b⟩ := plain_toP n d h.1
    obtain ⟨c, e⟩ := plains_toPs h.2
    rw [toPs, PyData.plainAll, PyData.depthAll, a, c]
    exact ⟨rfl, Nat.max_le.mpr ⟨b, e⟩⟩
theorem dps_of {K : PySem.W.Frag} {ρ : List Addr} {F H : Hp} (ex : Sub F H) {n : Nat} : ∀ {ds : List D} {vs : List V}, ds.all (plainD n) = true → DnAll K ρ F vs ds → DpAll K H vs (toPs ds)
  | [], _, _, r => by cases r; rw [toPs]; exact .nil
  | d :: ds, _, h, r => by
    rw [List.all_cons, Bool.and_eq_true] at h
    cases r with
    | cons r1 r2 => rw [toPs]; exact .cons (dp_of ex n d _ h.1 r1) (dps_of ex h.2 r2)
section
variable {X : Cx}
def rInP (K : PySem.W.Frag) (neg : Bool) : R2 := fun x y H Q => ∃ d ds, Dp K H x d ∧ (Dp K H y (.list ds) ∨ Dp K H y (.tuple ds)) ∧ d.plain = true ∧ PyData.plainAll ds = true ∧ PyData.depthAll ds ≤ 50 ∧
  Q (.bl (if neg then !ds.any fun z => PyData.eqv z d else ds.any fun z => PyData.eqv z d)) H
theorem op_inP (hu : X.A.units + 64 < cLine) : OpR X (compareOp .In) (rInP X.K false) := by
  intro pins s σ H x y v u Q I rx ry h
  obtain ⟨d, ds, hd, he, sd, se, hz, q⟩ := h
  obtain ⟨as, r1⟩ := Dp.reads I d x v hd rx
  have h2 : min (PyData.depthAll ds) d.depth ≤ PyData.depthAll ds := Nat.min_le_left _ _
  rcases he with he | he
  · obtain ⟨bs, r2⟩ := Dp.reads I _ y u he ry
    exact SeqAt.in_list_data r2 r1 se sd (by omega) ⟨.bl _, H, I, rfl, q⟩
  · obtain ⟨bs, r2⟩ := Dp.reads I _ y u he ry
    exact SeqAt.in_tuple_data r2 r1 se sd (by omega) ⟨.bl _, H, I, rfl, q⟩
theorem op_notInP (hu : X.A.units + 64 < cLine) : OpR X (compareOp .NotIn) (rInP X.K true) := by
  intro pins s σ H x y v u Q I rx ry h
  obtain ⟨d, ds, hd, he, sd, se, hz, q⟩ := h
  obtain ⟨as, r1⟩ := Dp.reads I d x v hd rx
  have h2 : min (PyData.depthAll ds) d.depth ≤ PyData.depthAll ds := Nat.min_le_left _ _
  rcases he with he | he
  · obtain ⟨bs, r2⟩ := Dp.reads I _ y u he ry
    exact SeqAt.notIn_list_data r2 r1 se sd (by omega) ⟨.bl _, H, I, rfl, q⟩
  · obtain ⟨bs, r2⟩ := Dp.reads I _ y u he ry
    exact SeqAt.notIn_tuple_data r2 r1 se sd (by omega) ⟨.bl _, H, I, rfl, q⟩
def rInSg (neg : Bool) : R2 := fun x y H Q => ∃ (c : Nat) (z : Str), x = .str ⟨#[c]⟩ ∧ y = .str z ∧ Q (.bl (if neg then !decide (c ∈ z.cps.toList) else decide (c ∈ z.cps.toList))) H
theorem os_in {K : PySem.W.Frag} (neg : Bool) : OpS K (fun x y H Q => rInSg neg x y H Q ∨ rInP K neg x y H Q) (fIn neg) := by
  intro ρ F H μ v w d e z k rv rw' ez Q q
  unfold fIn at ez
  split at ez
  · rename_i zs
    split at ez
    · rename_i y
      split at ez
      · rename_i sg hs
        cases ez
        cases rv
        cases rw'
        refine .inl ⟨sg, zs, ?_, rfl, q ρ F H _ Nx.refl k (.bl _)⟩
        congr 1
        cases y with
        | mk a =>
          have : a = #[sg] := by
            apply Array.ext'
            exact hs
          rw [this]
      · cases ez
    · cases ez
  · split at ez
    · rename_i ds hs
      split at ez
      · rename_i hc
        cases ez
        right
        obtain ⟨p1, p2⟩ := plain_toP 19 _ hc.1
        obtain ⟨q1, q2⟩ := plains_toPs hc.2
        have c1 := plainD_mono 19 _ hc.1
        have c2 : ds.all (plainD 20) = true := by
          have := hc.2
          rw [List.all_eq_true] at this ⊢
          exact fun x hx => plainD_mono 19 x (this x hx)
        have hd : Dp K H w (.list (toPs ds)) ∨ Dp K H w (.tuple (toPs ds)) := by
          obtain ⟨a, vs, rfl, e1, e2⟩ := seqA_ok k rw' hs
          rcases e1 with e1 | e1
          · exact .inl (.lst e1 (dps_of k.ex hc.2 e2))
          · exact .inr (.tup e1 (dps_of k.ex hc.2 e2))
        refine ⟨_, _, dp_un k hc.1 rv, hd, p1, q1, by omega, ?_⟩
        rw [any_toP c1 c2]
        exact q ρ F H _ Nx.refl k (.bl _)
      · cases ez
    · cases ez
theorem od_in (hu : X.A.units + 64 < cLine) : OpD X (compareOp .In) (fIn false) := ⟨_, (OpR.or (r := rInSg false) op_in_sign (op_inP hu)), os_in false⟩
theorem od_notIn (hu : X.A.units + 64 < cLine) : OpD X (compareOp .NotIn) (fIn true) := ⟨_, (OpR.or (r := rInSg true) op_notIn_sign (op_notInP hu)), os_in true⟩
end

/-! ### is None, is of truth values -/
def isNon : D → Bool
  | .non => true
  | _ => false
def fIs (neg : Bool) : Mu → D → D → Option D := fun _ x y => match y with
  | .non => some (.bl (if neg then !isNon x else isNon x))
  | .bl b => match x with
    | .bl a => some (.bl (if neg then !decide (a = b) else decide (a = b)))
    | _ => none
  | _ => none
theorem dn_non {K : PySem.W.Frag} {ρ : List Addr} {F : Hp} {v : V} {d : D} (r : Dn K ρ F v d) : decide (v = .non) = isNon d := by
  cases r <;> rfl
section
variable {X : Cx}
theorem os_is {K : PySem.W.Frag} (neg : Bool) : OpS K (fun x y H Q => (y = .non ∧ Q (.bl (if neg then !decide (x = .non) else decide (x = .non))) H) ∨ ∃ a b : Bool, x = .bl a ∧ y = .bl b ∧ Q (.bl (if neg then !decide (a = b) else decide (a = b))) H) (fIs neg) := by
  intro ρ F H μ v w d e z k rv rw' ez Q q
  unfold fIs at ez
  split at ez
  · cases ez
    cases rw'
    refine .inl ⟨rfl, ?_⟩
    rw [dn_non rv]
    exact q ρ F H _ Nx.refl k (.bl _)
  · split at ez
    · cases ez
      cases rv
      cases rw'
      exact .inr ⟨_, _, rfl, rfl, q ρ F H _ Nx.refl k (.bl _)⟩
    · cases ez
  · cases ez
theorem od_is : OpD X (compareOp .Is) (fIs false) := ⟨_, OpR.or (r := fun x y H Q => y = .non ∧ Q (.bl (if false then !decide (x = .non) else decide (x = .non))) H) op_isN (r' := fun x y H Q => ∃ a b : Bool, x = .bl a ∧ y = .bl b ∧ Q (.bl (if false then !decide (a = b) else decide (a = b))) H) op_isBl, os_is false⟩
theorem od_isNot : OpD X (compareOp .IsNot) (fIs true) := ⟨_, OpR.or (r := fun x y H Q => y = .non ∧ Q (.bl (if true then !decide (x = .non) else decide (x = .non))) H) op_notN (r' := fun x y H Q => ∃ a b : Bool, x = .bl a ∧ y = .bl b ∧ Q (.bl (if true then !decide (a = b) else decide (a = b))) H) op_notBl, os_is true⟩
end

/-! ### + of tuples and lists, lists times ints -/
def fAddT : Mu → D → D → Option D := fun _ x y => match x, y with
  | .tup xs, .tup ys => if xs.length + ys.length ≤ 1000000 then some (.tup (xs ++ ys)) else none
  | _, _ => none
def fAddL : Mu → D → D → Option D := fun μ x y => match seqL μ x, seqL μ y with
  | some xs, some ys => if xs.length + ys.length ≤ 1000000 then some (.lst (xs ++ ys)) else none
  | _, _ => none
section
variable {X : Cx}
theorem DnAll.nil_iff {K : PySem.W.Frag} {ρ : List Addr} {F : Hp} {vs : List V} {ds : List D} (h : DnAll K ρ F vs ds) : vs = [] ↔ ds = [] := by
  cases h <;> simp
theorem od_addT : OpD X (binaryOp .Add) fAddT := by
  refine ⟨_, op_catA, fun ρ F H μ v w d e z k rv rw' ez Q q => ?_⟩
  unfold fAddT at ez
  split at ez
  · rename_i xs ys
    split at ez
    · rename_i hl
      cases ez
      cases rv with
      | tup h1 h2 =>
        cases rw' with
        | tup g1 g2 =>
          refine ⟨_, _, _, _, rfl, rfl, k.ex.sqT h1, k.ex.sqT g1, by rw [h2.length, g2.length]; exact le_million hl, fun e => ?_, fun e1 e2 => ?_, fun _ _ p hp => ?_⟩
          · have : xs = [] := h2.nil_iff.mp e
            subst this
            exact q ρ F H _ Nx.refl k (.tup g1 g2)
          · have : ys = [] := g2.nil_iff.mp e2
            subst this
            rw [List.append_nil] at q
            exact q ρ F H _ Nx.refl k (.tup h1 h2)
          · obtain ⟨n2, k2, r2⟩ := new_tup k (h2.append g2) hp
            exact q _ _ _ _ n2 k2 r2
    · cases ez
  · cases ez
def rCatR : R2 := fun x y H Q => ∃ l b xs zs, x = .ref l ∧ y = .ref b ∧ Rd H l (.lst xs) ∧ Rd H b (.lst zs) ∧ xs.length + zs.length ≤ sizeLine ∧ ∀ p, H p = none → Q (.ref p) (upd H p (.lst (xs ++ zs)))
theorem op_catR : OpR X (binaryOp .Add) rCatR := by
  intro pins s σ H x y v u Q I rx ry h
  obtain ⟨l, b, xs, zs, rfl, rfl, hH, hB, hz, q⟩ := h
  cases rx
  cases ry
  obtain ⟨z, its, n, r, e⟩ := hH.ok I.hok
  obtain ⟨z2, its2, n2, r2, e2⟩ := hB.ok I.hok
  have hl := r.length
  have hl2 := r2.length
  refine PySem.P.add_list e e2 ?_ (by rw [List.size_toArray, List.size_toArray]; omega)
  have ea : its.toArray ++ its2.toArray = (its ++ its2).toArray := by simp
  rw [ea]
  exact ⟨.ref _, _, I.lnew (t' := s.toks) (r.append r2) (by rw [List.length_append]; omega), rfl, q _ I.fresh⟩
theorem od_addL : OpD X (binaryOp .Add) fAddL := by
  refine ⟨_, op_catR, fun ρ F H μ v w d e z k rv rw' ez Q q => ?_⟩
  unfold fAddL at ez
  split at ez
  · rename_i xs ys e1 e2
    split at ez
    · rename_i hl
      cases ez
      obtain ⟨a, vs, rfl, h1, h2⟩ := seqL_ok k rv e1
      obtain ⟨b, ws, rfl, g1, g2⟩ := seqL_ok k rw' e2
      refine ⟨_, _, _, _, rfl, rfl, h1, g1, by rw [h2.length, g2.length]; exact le_million hl, fun p hp => ?_⟩
      obtain ⟨n2, k2, r2⟩ := new_lst k (h2.append g2) hp
      exact q _ _ _ _ n2 k2 r2
    · cases ez
  · cases ez
/-- a list times an int -/
def fRepL : Mu → D → D → Option D := fun _ x y => match x, y with
  | .lst ds, .int k => if (-(2 ^ 63) ≤ k ∧ k < 2 ^ 63) ∧ ds.length * k.toNat ≤ 1000000 then some (.lst (List.replicate k.toNat ds).flatten) else none
  | _, _ => none
theorem DnAll.rep {K : PySem.W.Frag} {ρ : List Addr} {F : Hp} {vs : List V} {ds : List D} (h : DnAll K ρ F vs ds) : ∀ k : Nat, DnAll K ρ F (List.replicate k vs).flatten (List.replicate k ds).flatten
  | 0 => .nil
  | k + 1 => by
    rw [List.replicate_succ, List.replicate_succ, List.flatten_cons, List.flatten_cons]
    exact h.append (h.rep k)
theorem od_repL : OpD X (binaryOp .Mult) fRepL := by
  refine ⟨_, op_rep, fun ρ F H μ v w d e z k rv rw' ez Q q => ?_⟩
  unfold fRepL at ez
  split at ez
  · split at ez
    · rename_i hl
      cases ez
      cases rw'
      cases rv with
      | lst h1 h2 =>
        refine ⟨_, _, _, rfl, rfl, k.ex _ _ h1, hl.1.1, hl.1.2, by rw [h2.length]; exact le_million hl.2, fun p hp => ?_⟩
        obtain ⟨n2, k2, r2⟩ := new_lst k (h2.rep _) hp
        exact q _ _ _ _ n2 k2 r2
    · cases ez
  · cases ez
def fMul := orF fMulI fRepL
theorem od_mul : OpD X (binaryOp .Mult) fMul := od_mulI.or od_repL
def fAdd := orF fAddI (orF fAddS (orF fAddT fAddL))
theorem od_add : OpD X (binaryOp .Add) fAdd := od_addI.or (od_addS.or (od_addT.or od_addL))
/-! // of any sign -/
def fdOk (j : Int) : Bool := j != 0 && Nat.blt j.natAbs.log2 9000
theorem op_fdivA : OpR X (binaryOp .FloorDiv) (rI (fun _ j => fdOk j = true) fun i j => .int (i.fdiv j)) := opI (f := binaryOp .FloorDiv) (C := fun _ j => fdOk j = true) (g := fun i j => i.fdiv j) fun i j _ _ _ _ _ hc q => by
  unfold fdOk at hc
  rw [Bool.and_eq_true] at hc
  exact floordiv_int (by simpa using hc.1) q (.inl (PyProof.noPylong_of_log2 (Nat.le_of_ble_eq_true hc.2)))
def fDivI := fII fun i j => if fdOk j = true then some (.int (i.fdiv j)) else none
theorem od_divI : OpD X (binaryOp .FloorDiv) fDivI := opII op_fdivA
end

/-! ### subscripts -/
structure IxD (X : Cx) (f : Mu → D → D → Option D) : Prop where
  ex : ∃ r, IxR X r ∧ OpS X.K r f
def fIx : Mu → D → D → Option D := fun μ x y => match y with
  | .int i => match x with
    | .str z => if z.length ≤ 1000000 then (L2.atI z.cps.toList i).map fun c => .str ⟨#[c]⟩ else none
    | x => match seqA μ x with
      | some ds => L2.atI ds i
      | none => none
  | _ => none
section
variable {X : Cx} {E : XK} {a b : Expr} {da db : DE} {pos : Pos}
theorem ixd : IxD X fIx := by
  refine ⟨_, ix_seq, fun ρ F H μ v w d e z k rv rw' ez Q q => ?_⟩
  unfold fIx at ez
  split at ez
  · rename_i i
    cases rw'
    split at ez
    · rename_i y
      split at ez
      · rename_i hl
        cases rv
        cases hx : L2.atI y.cps.toList i with
        | none => rw [hx] at ez; cases ez
        | some c =>
          rw [hx] at ez
          cases ez
          exact .inr (.inr ⟨y, i, c, rfl, rfl, le_million hl, hx, q ρ F H _ Nx.refl k (.str _)⟩)
      · cases ez
    · split at ez
      · rename_i ds hs
        obtain ⟨a, vs, rfl, e1, e2⟩ := seqA_ok k rv hs
        obtain ⟨x, hx, rx⟩ := e2.atI ez
        rcases e1 with e1 | e1
        · exact .inl ⟨a, vs, i, x, rfl, rfl, e1, hx, q ρ F H _ Nx.refl k rx⟩
        · exact .inr (.inl ⟨a, vs, i, x, rfl, rfl, e1, hx, q ρ F H _ Nx.refl k rx⟩)
      · cases ez
  · cases ez
theorem q_ix (ha : QE X E a da) (hb : QE X E b db) (hs : PlainIx b := by exact fun _ _ => rfl) : QE X E (.Subscript a b pos) (dBin fIx da db) := by
  obtain ⟨r, h1, h2⟩ := (ixd (X := X)).ex
  obtain ⟨ta, a1, a2⟩ := ha.ex
  obtain ⟨tb, b1, b2⟩ := hb.ex
  exact ⟨_, pe_ix h1 a1 b1 hs, sim_bin h2 a2 b2⟩
/-! ### unary -/
def fNeg : Mu → D → Option D := fun _ x => match x with
  | .int i => some (.int (-i))
  | _ => none
theorem q_neg (ha : QE X E a da) : QE X E (.UnaryOp .USub a pos) (dUn fNeg da) := by
  obtain ⟨ta, a1, a2⟩ := ha.ex
  refine ⟨_, pe_un un_neg a1, ?_⟩
  intro ρ F H Γ μ σ k s Q h
  refine a2 ρ F H Γ μ σ k s _ (h.bind.mono (fun x μ1 q => ?_) fun _ _ q => q)
  intro ρ1 F1 H1 v n1 k1 r1
  obtain ⟨z, ez, q⟩ := q.of
  unfold fNeg at ez
  split at ez
  · cases ez
    cases r1
    exact ⟨_, rfl, q ρ1 F1 H1 _ n1 k1 (.int _)⟩
  · cases ez
end

/-! ### slices -/
def cutL {α : Type} (xs : List α) (lo hi : Option Int) : List α := (xs.drop (HT.sIx xs.length 0 lo)).take (HT.sIx xs.length xs.length hi - HT.sIx xs.length 0 lo)
theorem cut_dn {K : PySem.W.Frag} {ρ : List Addr} {F : Hp} {vs : List V} {ds : List D} (h : DnAll K ρ F vs ds) (lo hi : Option Int) : DnAll K ρ F (cutV vs lo hi) (cutL ds lo hi) := by
  unfold cutV cutL
  rw [h.length]
  exact (h.drop _).take _
theorem cutL_whole {α : Type} {xs : List α} {lo hi : Option Int} (h : HT.sIx xs.length 0 lo = 0 ∧ HT.sIx xs.length xs.length hi = xs.length) : cutL xs lo hi = xs := by
  unfold cutL
  rw [h.1, h.2]
  simp
def fSl (μ : Mu) (x : D) (lo hi : Option Int) : Option D := match x with
  | .str z => if z.length ≤ 1000000 then some (.str (cutS z lo hi)) else none
  | .tup ds => some (.tup (cutL ds lo hi))
  | .scr ds => some (.lst (cutL ds lo hi))
  | x => (seqL μ x).map fun ds => .lst (cutL ds lo hi)
def dNoPart : DO := fun _ μ => .ok none μ
def dPart (a : DE) : DO := fun Γ μ => (a Γ μ).bind fun x μ1 => match x with
  | .int i => .ok (some i) μ1
  | _ => .stk
def dSl (a : DE) (l h : DO) : DE := fun Γ μ => (a Γ μ).bind fun x μ1 => (l Γ μ1).bind fun lo μ2 => (h Γ μ2).bind fun hi μ3 => R.of μ3 (fSl μ3 x lo hi)
section
variable {X : Cx} {E : XK} {a e : Expr} {da : DE} {dl dh : DO} {lo hi : Option Expr} {pos p2 : Pos}
theorem qo_none : QO X E none dNoPart := ⟨_, po_none, fun ρ F H Γ μ σ k s Q h => h ρ F H Nx.refl k⟩
theorem qo_some (ha : QE X E e da) : QO X E (some e) (dPart da) := by
  obtain ⟨ta, a1, a2⟩ := ha.ex
  refine ⟨_, po_some a1, ?_⟩
  intro ρ F H Γ μ σ k s Q h
  refine a2 ρ F H Γ μ σ k s _ (h.bind.mono (fun x μ1 q => ?_) fun _ _ q => q)
  intro ρ1 F1 H1 v n1 k1 r1
  cases r1 with
  | int i => exact ⟨i, rfl, q ρ1 F1 H1 n1 k1⟩
  | _ => exact False.elim q
theorem q_sl (ha : QE X E a da) (hl : QO X E lo dl) (hh : QO X E hi dh) : QE X E (.Subscript a (.Slice lo hi none p2) pos) (dSl da dl dh) := by
  obtain ⟨ta, a1, a2⟩ := ha.ex
  obtain ⟨tl, l1, l2⟩ := hl.ex
  obtain ⟨th, h1, h2⟩ := hh.ex
  refine ⟨_, pe_slice ((sl_list (X := X)).or ((sl_tupA (X := X)).or sl_str)) a1 l1 h1, ?_⟩
  intro ρ F H Γ μ σ k s Q h
  refine a2 ρ F H Γ μ σ k s _ (h.bind.mono (fun x μ1 q => ?_) fun _ _ q => q)
  intro ρ1 F1 H1 v n1 k1 r1
  refine l2 ρ1 F1 H1 Γ μ1 σ k1 (s.nx n1) _ (q.bind.mono (fun lo μ2 q => ?_) fun _ _ q => XP.nx n1 q)
  intro ρ2 F2 H2 n2 k2
  refine h2 ρ2 F2 H2 Γ μ2 σ k2 (s.nx (n1.trans n2)) _ (q.bind.mono (fun hi μ3 q => ?_) fun _ _ q => XP.nx (n1.trans n2) q)
  intro ρ3 F3 H3 n3 k3
  obtain ⟨z, ez, q⟩ := q.of
  have r3 := (r1.nx n2).nx n3
  have n := (n1.trans n2).trans n3
  unfold fSl at ez
  split at ez
  · rename_i y
    split at ez
    · rename_i hz
      cases ez
      cases r3
      exact .inr (.inr ⟨_, rfl, le_million hz, q _ _ _ _ n k3 (.str _)⟩)
    · cases ez
  · rename_i ds
    cases ez
    cases r3 with
    | tup g1 g2 =>
      refine .inr (.inl ⟨_, _, rfl, k3.ex.sqT g1, fun hw => ?_, fun _ p hp => ?_⟩)
      · rw [g2.length] at hw
        rw [cutL_whole hw] at q
        exact q _ _ _ _ n k3 (.tup g1 g2)
      · obtain ⟨n4, k4, r4⟩ := new_tup k3 (cut_dn g2 lo hi) hp
        exact q _ _ _ _ (n.trans n4) k4 r4
  · cases ez
    cases r3 with
    | scr g1 g2 =>
      refine .inl ⟨_, _, rfl, k3.ex.sqL g1, fun p hp => ?_⟩
      obtain ⟨n4, k4, r4⟩ := new_lst k3 (cut_dn g2 lo hi) hp
      exact q _ _ _ _ (n.trans n4) k4 r4
  · cases hs : seqL μ3 x with
    | none => rw [hs] at ez; cases ez
    | some ds =>
      rw [hs] at ez
      cases ez
      obtain ⟨a, vs, rfl, g1, g2⟩ := seqL_ok k3 r3 hs
      refine .inl ⟨a, vs, rfl, .inl g1, fun p hp => ?_⟩
      obtain ⟨n4, k4, r4⟩ := new_lst k3 (cut_dn g2 lo hi) hp
      exact q _ _ _ _ (n.trans n4) k4 r4
end
end Ar

set_option Elab.async false
set_option linter.all false
set_option maxRecDepth 100000
set_option maxHeartbeats 2000000
/-! Ar4: calls of builtins -/
namespace Ar
open PySem PySem.Spec PyProof.Rows L2

def CallS (K : PySem.W.Frag) (r : List V → Hp → VK → Prop) (f : Mu → List D → Option D) : Prop := ∀ (ρ : List Addr) (F H : Hp) (μ : Mu) (vs : List V) (ds : List D) (z : D), HpOk K ρ μ F H → DnAll K ρ F vs ds → f μ ds = some z → ∀ Q : VK, QV K ρ F H Q z μ → r vs H Q
structure CallD (X : Cx) (v : Value) (f : Mu → List D → Option D) : Prop where
  ex : ∃ r, CallR X v r ∧ CallS X.K r f
def dFn (f : Mu → List D → Option D) (a : DA) : DE := fun Γ μ => (a Γ μ).bind fun ds μ1 => R.of μ1 (f μ1 ds)
def orC (f g : Mu → List D → Option D) : Mu → List D → Option D := fun μ x => match f μ x with
  | some z => some z
  | none => g μ x
section
variable {X : Cx} {E : XK} {K : PySem.W.Frag} {e : Expr} {es : List Expr} {da : DA} {pos p : Pos}
theorem CallD.or {v : Value} {f f' : Mu → List D → Option D} (h : CallD X v f) (h' : CallD X v f') : CallD X v (orC f f') := by
  obtain ⟨r, h1, h2⟩ := h.ex
  obtain ⟨r', h1', h2'⟩ := h'.ex
  refine ⟨_, h1.or h1', fun ρ F H μ vs ds z k rv ez Q q => ?_⟩
  unfold orC at ez
  split at ez
  · rename_i z' e1
    cases ez
    exact .inl (h2 ρ F H μ vs ds z k rv e1 Q q)
  · exact .inr (h2' ρ F H μ vs ds z k rv ez Q q)
theorem sim_cb {r : List V → Hp → VK → Prop} {f : Mu → List D → Option D} {ta : TA} (hr : CallS K r f) (ha : SimA K E ta da) : SimE K E (tCB r ta) (dFn f da) := by
  intro ρ F H Γ μ σ k s Q h
  refine ha ρ F H Γ μ σ k s _ (h.bind.mono (fun x μ1 h1 => ?_) fun _ _ q => q)
  intro ρ1 F1 H1 vs n1 k1 r1
  obtain ⟨z, ez, q⟩ := h1.of
  exact hr ρ1 F1 H1 μ1 vs x z k1 r1 ez Q (QV.nx n1 q)
theorem q_callB {id : String} {x : Str} {f : Mu → List D → Option D} (hc : CallD X (.builtin id) f) (hm : X.mg x = none) (hv : bootBuiltins x = some (.builtin id)) (ha : QA X E (e :: es) da) (hg : Gl X x := by rfl) (hn : x ≠ "__name__" := by decide) (hdb : (x == ("__debug__" : Str)) = false := by decide)
    (he : starEach (e :: es) X.env = (false, eval e X.env) :: starEach es X.env := by rfl) (hpl : (backTo pos (starEach es X.env)).any (·.1) = false := by rfl) : QE X E (.Call (.Name x p) (e :: es) [] pos) (dFn f da) := by
  obtain ⟨r, h1, h2⟩ := hc.ex
  obtain ⟨ta, a1, a2⟩ := ha.ex
  exact ⟨_, pe_callB h1 hg hm hv a1 hn hdb he hpl, sim_cb h2 a2⟩
theorem q_callTy {T : String} {x : Str} {f : Mu → List D → Option D} (hc : CallD X (.type T) f) (hm : X.mg x = none) (hv : bootBuiltins x = some (.type T)) (ha : QA X E (e :: es) da) (hg : Gl X x := by rfl) (hn : x ≠ "__name__" := by decide) (hdb : (x == ("__debug__" : Str)) = false := by decide)
    (he : starEach (e :: es) X.env = (false, eval e X.env) :: starEach es X.env := by rfl) (hpl : (backTo pos (starEach es X.env)).any (·.1) = false := by rfl) : QE X E (.Call (.Name x p) (e :: es) [] pos) (dFn f da) := by
  obtain ⟨r, h1, h2⟩ := hc.ex
  obtain ⟨ta, a1, a2⟩ := ha.ex
  exact ⟨_, pe_callTy h1 hg hm hv a1 hn hdb he hpl, sim_cb h2 a2⟩

/-! len -/
def fLen : Mu → List D → Option D := fun μ ds => match ds with
  | [.str z] => if z.length ≤ 1000000 then some (.int z.length) else none
  | [x] => (seqA μ x).map fun xs => .int (xs.length : Nat)
  | _ => none
theorem cd_len : CallD X (.builtin "len") fLen := by
  refine ⟨_, call_len, fun ρ F H μ vs ds z k rv ez Q q => ?_⟩
  unfold fLen at ez
  split at ez
  · rename_i y
    split at ez
    · rename_i hl
      cases ez
      cases rv with
      | cons r1 r2 =>
        cases r1
        cases r2
        exact ⟨_, _, rfl, ⟨le_million hl, rfl⟩, q ρ F H _ Nx.refl k (.int _)⟩
    · cases ez
  · rename_i x _
    cases hs : seqA μ x with
    | none => rw [hs] at ez; cases ez
    | some xs =>
      rw [hs] at ez
      cases ez
      cases rv with
      | cons r1 r2 =>
        cases r2
        obtain ⟨a, vs, rfl, h1, h2⟩ := seqA_ok k r1 hs
        refine ⟨_, vs.length, rfl, ?_, ?_⟩
        · rcases h1 with h1 | h1
          · exact .inl ⟨vs, h1, rfl⟩
          · exact .inr ⟨vs, h1, rfl⟩
        · rw [h2.length]
          exact q ρ F H _ Nx.refl k (.int _)
  · cases ez
/-! of ints -/
def fAbs : Mu → List D → Option D := fun _ ds => match ds with
  | [.int i] => some (.int (if i < 0 then -i else i))
  | _ => none
theorem cd_abs : CallD X (.builtin "abs") fAbs := by
  refine ⟨_, call_abs, fun ρ F H μ vs ds z k rv ez Q q => ?_⟩
  unfold fAbs at ez
  split at ez
  · cases ez
    cases rv with
    | cons r1 r2 =>
      cases r1
      cases r2
      exact ⟨_, rfl, q ρ F H _ Nx.refl k (.int _)⟩
  · cases ez
def fMax2 : Mu → List D → Option D := fun _ ds => match ds with
  | [.int i, .int j] => some (.int (if j > i then j else i))
  | _ => none
def fMin2 : Mu → List D → Option D := fun _ ds => match ds with
  | [.int i, .int j] => some (.int (if j < i then j else i))
  | _ => none
theorem cd_max2 (hc : X.calm = true) : CallD X (.builtin "max") fMax2 := by
  refine ⟨_, call_max2 hc, fun ρ F H μ vs ds z k rv ez Q q => ?_⟩
  unfold fMax2 at ez
  split at ez
  · cases ez
    cases rv with
    | cons r1 r2 =>
      cases r1
      cases r2 with
      | cons r2 r3 =>
        cases r2
        cases r3
        exact ⟨_, _, rfl, q ρ F H _ Nx.refl k (.int _)⟩
  · cases ez
theorem cd_min2 (hc : X.calm = true) : CallD X (.builtin "min") fMin2 := by
  refine ⟨_, call_min2 hc, fun ρ F H μ vs ds z k rv ez Q q => ?_⟩
  unfold fMin2 at ez
  split at ez
  · cases ez
    cases rv with
    | cons r1 r2 =>
      cases r1
      cases r2 with
      | cons r2 r3 =>
        cases r2
        cases r3
        exact ⟨_, _, rfl, q ρ F H _ Nx.refl k (.int _)⟩
  · cases ez
def fInt : Mu → List D → Option D := fun _ ds => match ds with
  | [.int i] => some (.int i)
  | [.bl b] => some (.int (if b then 1 else 0))
  | [.str a] => if a.length ≤ 640 then (PySem.intText? a).map .int else none
  | _ => none
theorem cd_int : CallD X (.type "int") fInt := by
  refine ⟨_, (call_int1 (X := X)).or call_int_str, fun ρ F H μ vs ds z k rv ez Q q => ?_⟩
  unfold fInt at ez
  split at ez
  · cases ez
    cases rv with
    | cons r1 r2 =>
      cases r1
      cases r2
      exact .inl (.inl ⟨_, rfl, q ρ F H _ Nx.refl k (.int _)⟩)
  · cases ez
    cases rv with
    | cons r1 r2 =>
      cases r1
      cases r2
      exact .inl (.inr ⟨_, rfl, q ρ F H _ Nx.refl k (.int _)⟩)
  · split at ez
    · rename_i a hl
      cases hi : PySem.intText? a with
      | none => rw [hi] at ez; cases ez
      | some n =>
        rw [hi] at ez
        cases ez
        cases rv with
        | cons r1 r2 =>
          cases r1
          cases r2
          exact .inr ⟨a, n, rfl, hi, hl, q ρ F H _ Nx.refl k (.int _)⟩
    · cases ez
  · cases ez
def fStr : Mu → List D → Option D := fun _ ds => match ds with
  | [.int i] => if i.natAbs.log2 < 1920 then some (.str (toString i)) else none
  | _ => none
theorem cd_str : CallD X (.type "str") fStr := by
  refine ⟨_, call_str_int, fun ρ F H μ vs ds z k rv ez Q q => ?_⟩
  unfold fStr at ez
  split at ez
  · split at ez
    · rename_i hl
      cases ez
      cases rv with
      | cons r1 r2 =>
        cases r1
        cases r2
        exact ⟨_, rfl, hl, q ρ F H _ Nx.refl k (.str _)⟩
    · cases ez
  · cases ez
def fBool : Mu → List D → Option D := fun _ ds => match ds with
  | [.int i] => some (.bl (i != 0))
  | [.bl b] => some (.bl b)
  | _ => none
theorem fd_noPylong {i j : Int} (h : fdOk j = true) : Builtin.divisionGoesByPylong i j = false := by
  unfold fdOk at h
  rw [Bool.and_eq_true] at h
  exact PyProof.noPylong_of_log2 (Nat.le_of_ble_eq_true h.2)
def fDivmod : Mu → List D → Option D := fun _ ds => match ds with
  | [.int i, .int j] => if 0 < j ∧ fdOk j = true then some (.tup [.int (i / j), .int (i % j)]) else none
  | _ => none
theorem cd_divmod : CallD X (.builtin "divmod") fDivmod := by
  refine ⟨_, call_divmodW, fun ρ F H μ vs ds z k rv ez Q q => ?_⟩
  unfold fDivmod at ez
  split at ez
  · split at ez
    · rename_i hl
      cases ez
      cases rv with
      | cons r1 r2 =>
        cases r1
        cases r2 with
        | cons r2 r3 =>
          cases r2
          cases r3
          refine ⟨_, _, rfl, ⟨hl.1, fd_noPylong hl.2⟩, fun p hp => ?_⟩
          obtain ⟨n2, k2, r2⟩ := new_tup (ds := [.int _, .int _]) k (.cons (.int _) (.cons (.int _) .nil)) hp
          exact q _ _ _ _ n2 k2 r2
    · cases ez
  · cases ez
/-! tuple(x), list(x) -/
def fTuple : Mu → List D → Option D := fun μ ds => match ds with
  | [x] => (seqA μ x).map .tup
  | _ => none
theorem tuple_seqL {X : Cx} {ρ : List Addr} {F H : Hp} {μ : Mu} {a : Addr} {vs : List V} {xs : List D} {Q : VK} (k : HpOk X.K ρ μ F H) (e2 : SqL X.K H a vs) (e3 : DnAll X.K ρ F vs xs) (q : QV X.K ρ F H Q (.tup xs) μ) : ∀ p, H p = none → Q (.ref p) (upd H p (.tup vs)) := fun p hp => by
  obtain ⟨n2, k2, r2⟩ := new_tup k e3 hp
  exact q _ _ _ _ n2 k2 r2
theorem cd_tuple : CallD X (.type "tuple") fTuple := by
  refine ⟨_, call_tuple_of, fun ρ F H μ vs ds z k rv ez Q q => ?_⟩
  unfold fTuple at ez
  split at ez
  · rename_i x
    cases rv with
    | cons r1 r2 =>
      cases r2
      by_cases hx : ∃ xs, x = .tup xs
      · obtain ⟨xs, rfl⟩ := hx
        cases ez
        cases r1 with
        | tup h1 h2 => exact ⟨_, _, rfl, .inr ⟨k.ex.sqT h1, q ρ F H _ Nx.refl k (.tup h1 h2)⟩⟩
      · by_cases hy : ∃ xs, x = .scr xs
        · obtain ⟨xs, rfl⟩ := hy
          cases ez
          cases r1 with
          | scr h1 h2 => exact ⟨_, _, rfl, .inl ⟨k.ex.sqL h1, tuple_seqL k (k.ex.sqL h1) h2 q⟩⟩
        · have hs : seqA μ x = seqL μ x := by
            unfold seqA
            split
            · exact absurd ⟨_, rfl⟩ hx
            · exact absurd ⟨_, rfl⟩ hy
            · rfl
          rw [hs] at ez
          cases hq : seqL μ x with
          | none => rw [hq] at ez; cases ez
          | some xs =>
            rw [hq] at ez
            cases ez
            obtain ⟨a, vs, rfl, e2, e3⟩ := seqL_ok k r1 hq
            exact ⟨a, vs, rfl, .inl ⟨.inl e2, tuple_seqL k (.inl e2) e3 q⟩⟩
  · cases ez
def fList : Mu → List D → Option D := fun μ ds => match ds with
  | [x] => (seqA μ x).map .lst
  | _ => none
theorem cd_list : CallD X (.type "list") fList := by
  refine ⟨_, call_list_of, fun ρ F H μ vs ds z k rv ez Q q => ?_⟩
  unfold fList at ez
  split at ez
  · rename_i x
    cases hs : seqA μ x with
    | none => rw [hs] at ez; cases ez
    | some xs =>
      rw [hs] at ez
      cases ez
      cases rv with
      | cons r1 r2 =>
        cases r2
        obtain ⟨a, vs, rfl, e2, e3⟩ := seqA_ok k r1 hs
        refine ⟨a, vs, rfl, e2, fun p hp => ?_⟩
        obtain ⟨n2, k2, r2⟩ := new_lst k e3 hp
        exact q _ _ _ _ n2 k2 r2
  · cases ez
/-! sum, all, any, max, min of a list -/
def intsOf : List D → Option (List Int)
  | [] => some []
  | .int i :: ds => (intsOf ds).map (i :: ·)
  | _ => none
def blsOf : List D → Option (List Bool)
  | [] => some []
  | .bl i :: ds => (blsOf ds).map (i :: ·)
  | _ => none
theorem intsOf_ok {ρ : List Addr} {F : Hp} : ∀ {ds : List D} {vs : List V} {ns : List Int}, intsOf ds = some ns → DnAll K ρ F vs ds → vs = ns.map V.int
  | [], _, _, h, r => by cases h; cases r; rfl
  | .int i :: ds, _, _, h, r => by
    cases r with
    | cons r1 r2 =>
      have h : (intsOf ds).map (i :: ·) = some _ := h
      cases e : intsOf ds with
      | none => rw [e] at h; cases h
      | some ns =>
        rw [e] at h
        cases h
        cases r1
        rw [intsOf_ok e r2]
        rfl
  | .non :: _, _, _, h, _ => by cases h
  | .bl _ :: _, _, _, h, _ => by cases h
  | .str _ :: _, _, _, h, _ => by cases h
  | .tup _ :: _, _, _, h, _ => by cases h
  | .lst _ :: _, _, _, h, _ => by cases h
  | .scr _ :: _, _, _, h, _ => by cases h
  | .ins _ _ :: _, _, _, h, _ => by cases h
  | .slt _ _ :: _, _, _, h, _ => by cases h
  | .dK _ :: _, _, _, h, _ => by cases h
  | .loc _ :: _, _, _, h, _ => by cases h
  | .glo _ :: _, _, _, h, _ => by cases h
  | .ty _ :: _, _, _, h, _ => by cases h
theorem blsOf_ok {ρ : List Addr} {F : Hp} : ∀ {ds : List D} {vs : List V} {ns : List Bool}, blsOf ds = some ns → DnAll K ρ F vs ds → vs = ns.map V.bl
  | [], _, _, h, r => by cases h; cases r; rfl
  | .bl i :: ds, _, _, h, r => by
    cases r with
    | cons r1 r2 =>
      have h : (blsOf ds).map (i :: ·) = some _ := h
      cases e : blsOf ds with
      | none => rw [e] at h; cases h
      | some ns =>
        rw [e] at h
        cases h
        cases r1
        rw [blsOf_ok e r2]
        rfl
  | .non :: _, _, _, h, _ => by cases h
  | .int _ :: _, _, _, h, _ => by cases h
  | .str _ :: _, _, _, h, _ => by cases h
  | .tup _ :: _, _, _, h, _ => by cases h
  | .lst _ :: _, _, _, h, _ => by cases h
  | .scr _ :: _, _, _, h, _ => by cases h
  | .ins _ _ :: _, _, _, h, _ => by cases h
  | .slt _ _ :: _, _, _, h, _ => by cases h
  | .dK _ :: _, _, _, h, _ => by cases h
  | .loc _ :: _, _, _, h, _ => by cases h
  | .glo _ :: _, _, _, h, _ => by cases h
  | .ty _ :: _, _, _, h, _ => by cases h
def fInts (g : List Int → Option D) : Mu → List D → Option D := fun μ ds => match ds with
  | [x] => match seqL μ x with
    | some xs => match intsOf xs with
      | some ns => g ns
      | none => none
    | none => none
  | _ => none
theorem fInts_some {ρ : List Addr} {F H : Hp} {μ : Mu} {g : List Int → Option D} {vs : List V} {ds : List D} {z : D} (k : HpOk K ρ μ F H) (rv : DnAll K ρ F vs ds) (h : fInts g μ ds = some z) : ∃ a ns, vs = [.ref a] ∧ SqL K H a (ns.map V.int) ∧ g ns = some z := by
  unfold fInts at h
  split at h
  · split at h
    · split at h
      · rename_i xs hs _ ns hn
        cases rv with
        | cons r1 r2 =>
          cases r2
          obtain ⟨a, vs, rfl, e2, e3⟩ := seqL_ok k r1 hs
          rw [intsOf_ok hn e3] at e2
          exact ⟨a, ns, rfl, .inl e2, h⟩
      · cases h
    · cases h
  · cases h
def fSum : Mu → List D → Option D := fInts fun ns => some (.int ns.sum)
def fMaxL : Mu → List D → Option D := fInts fun ns => ns.max?.map .int
def fMinL : Mu → List D → Option D := fInts fun ns => ns.min?.map .int
theorem cd_maxL (hc : X.calm = true) : CallD X (.builtin "max") fMaxL := by
  refine ⟨_, cr_max hc, fun ρ F H μ vs ds z k rv ez Q q => ?_⟩
  obtain ⟨a, ns, rfl, h, e⟩ := fInts_some k rv ez
  cases em : ns.max? with
  | none => rw [em] at e; cases e
  | some m =>
    rw [em] at e
    cases e
    obtain ⟨h1, h2⟩ := List.max?_eq_some_iff.mp em
    refine ⟨a, ns, rfl, h, List.length_pos_of_mem h1, fun m' h1' h2' => ?_⟩
    have : m' = m := Int.le_antisymm (h2 m' h1') (h2' m h1)
    subst this
    exact q ρ F H _ Nx.refl k (.int _)
theorem cd_minL (hc : X.calm = true) : CallD X (.builtin "min") fMinL := by
  refine ⟨_, cr_min hc, fun ρ F H μ vs ds z k rv ez Q q => ?_⟩
  obtain ⟨a, ns, rfl, h, e⟩ := fInts_some k rv ez
  cases em : ns.min? with
  | none => rw [em] at e; cases e
  | some m =>
    rw [em] at e
    cases e
    obtain ⟨h1, h2⟩ := List.min?_eq_some_iff.mp em
    refine ⟨a, ns, rfl, h, List.length_pos_of_mem h1, fun m' h1' h2' => ?_⟩
    have : m' = m := Int.le_antisymm (h2' m h1) (h2 m' h1')
    subst this
    exact q ρ F H _ Nx.refl k (.int _)
def fMax : Mu → List D → Option D := orC fMax2 fMaxL
def fMin : Mu → List D → Option D := orC fMin2 fMinL
theorem cd_max (hc : X.calm = true) : CallD X (.builtin "max") fMax := (cd_max2 hc).or (cd_maxL hc)
theorem cd_min (hc : X.calm = true) : CallD X (.builtin "min") fMin := (cd_min2 hc).or (cd_minL hc)
def fBls (g : List Bool → D) : Mu → List D → Option D := fun μ ds => match ds with
  | [x] => match seqL μ x with
    | some xs => (blsOf xs).map g
    | none => none
  | _ => none
theorem fBls_some {ρ : List Addr} {F H : Hp} {μ : Mu} {g : List Bool → D} {vs : List V} {ds : List D} {z : D} (k : HpOk K ρ μ F H) (rv : DnAll K ρ F vs ds) (h : fBls g μ ds = some z) : ∃ a ns, vs = [.ref a] ∧ SqL K H a (ns.map V.bl) ∧ g ns = z := by
  unfold fBls at h
  split at h
  · split at h
    · rename_i xs hs
      cases hn : blsOf xs with
      | none => rw [hn] at h; cases h
      | some ns =>
        rw [hn] at h
        cases h
        cases rv with
        | cons r1 r2 =>
          cases r2
          obtain ⟨a, vs, rfl, e2, e3⟩ := seqL_ok k r1 hs
          rw [blsOf_ok hn e3] at e2
          exact ⟨a, ns, rfl, .inl e2, rfl⟩
    · cases h
  · cases h
def fAll : Mu → List D → Option D := fBls fun bs => .bl (bs.all id)
theorem cd_all (hc : X.calm = true) : CallD X (.builtin "all") fAll := by
  refine ⟨_, cr_all hc, fun ρ F H μ vs ds z k rv ez Q q => ?_⟩
  obtain ⟨a, ns, rfl, h, e⟩ := fBls_some k rv ez
  cases e
  exact ⟨a, ns, rfl, h, q ρ F H _ Nx.refl k (.bl _)⟩
/-! isinstance with a built-in class -/
def tyN (μ : Mu) : D → Option String
  | .non => some "NoneType"
  | .bl _ => some "bool"
  | .int _ => some "int"
  | .str _ => some "str"
  | .tup _ => some "tuple"
  | .lst _ => some "list"
  | .scr _ => some "list"
  | .loc n => match μ[n]? with
    | some (.lst _) => some "list"
    | some (.frz _) => some "list"
    | some (.dK _) => some "dict"
    | some (.dT _) => some "dict"
    | _ => none
  | .dK _ => some "dict"
  | _ => none
def tyOk : List String := ["NoneType", "bool", "int", "str", "tuple", "list", "dict"]
def isaB (t T : String) : Bool := t == T || (t == "bool" && T == "int")
theorem tyN_ok {ρ : List Addr} {F H : Hp} {μ : Mu} {v : V} {d : D} {t : String} (k : HpOk K ρ μ F H) (r : Dn K ρ F v d) (h : tyN μ d = some t) : TyX K H v (.type t) := by
  cases r with
  | non => cases h; exact .base .non
  | bl x => cases h; exact .base (.bl x)
  | int i => cases h; exact .base (.int i)
  | str y => cases h; exact .base (.str y)
  | tup hs ha =>
    cases h
    rcases k.ex.sqT hs with (e | ⟨o, e⟩) | ⟨o, its, n, e, c, _⟩
    · exact .base (.tup e)
    · exact .fTuple e
    · exact .kTuple e c
  | lst hs ha =>
    cases h
    exact .base (.lst (k.ex _ _ hs))
  | @loc a n e =>
    have h : (match μ[n]? with
      | some (.lst _) => some "list"
      | some (.frz _) => some "list"
      | some (.dK _) => some "dict"
      | some (.dT _) => some "dict"
      | _ => none) = some t := h
    split at h
    · rename_i ds em
      cases h
      obtain ⟨_, vs, e1, e2⟩ := k.mu n a _ e em
      exact .base (.lst e1)
    · rename_i ds em
      cases h
      obtain ⟨vs, e1, e2⟩ := k.mu n a _ e em
      exact .base (.lst (k.ex _ _ e1))
    · rename_i ds em
      cases h
      obtain ⟨_, vs, e1, e2⟩ := k.mu n a _ e em
      exact .base (.dK e1)
    · rename_i ds em
      cases h
      obtain ⟨_, vs, e1, e2⟩ := k.mu n a _ e em
      exact .base (.dT e1)
    · cases h
  | scr hs ha =>
    cases h
    rcases k.ex.sqL hs with (e | ⟨o, e⟩) | ⟨o, its, n, e, c, _⟩
    · exact .base (.lst e)
    · exact .base (.frz e)
    · exact .kList e c
  | ins _ _ => cases h
  | slt _ _ _ => cases h
  | dK e t => cases h; exact .base (.dK (k.ex _ _ e))
  | glo x => cases h
  | ty n => cases h
  | adr => cases h
  | clo => cases h
  | exn => cases h
theorem isaB_ok : (tyOk.all fun t => ["bool", "int", "str", "tuple", "list", "dict"].all fun T => decide (kitB t T = some (isaB t T))) = true := by decide +kernel
def fIsa : Mu → List D → Option D := fun μ ds => match ds with
  | [x, .ty T] => match tyN μ x with
    | some t => if ["bool", "int", "str", "tuple", "list", "dict"].contains T = true then some (.bl (isaB t T)) else none
    | none => none
  | _ => none
theorem tyN_mem {μ : Mu} {d : D} {t : String} (h : tyN μ d = some t) : t ∈ tyOk := by
  unfold tyN at h
  split at h
  · cases h; decide
  · cases h; decide
  · cases h; decide
  · cases h; decide
  · cases h; decide
  · cases h; decide
  · cases h; decide
  · split at h
    · cases h; decide
    · cases h; decide
    · cases h; decide
    · cases h; decide
    · cases h
  · cases h; decide
  · cases h
theorem cd_isa : CallD X (.builtin "isinstance") fIsa := by
  refine ⟨_, call_isi, fun ρ F H μ vs ds z k rv ez Q q => ?_⟩
  unfold fIsa at ez
  split at ez
  · split at ez
    · split at ez
      · rename_i x T _ t ht hT
        cases ez
        cases rv with
        | cons r1 r2 =>
          cases r2 with
          | cons r2 r3 =>
            cases r2
            cases r3
            have h1 := List.all_eq_true.mp isaB_ok t (tyN_mem ht)
            have h2 := List.all_eq_true.mp h1 T (List.contains_iff_mem.mp hT)
            exact ⟨_, _, _, _, _, rfl, .ty T, tyN_ok k r1 ht, kit_ty (of_decide_eq_true h2), q ρ F H _ Nx.refl k (.bl _)⟩
      · cases ez
    · cases ez
  · cases ez
end
end Ar

set_option Elab.async false
set_option linter.all false
set_option maxRecDepth 100000
set_option maxHeartbeats 2000000
/-! Ar5: statements, targets, loops -/
namespace Ar
open PySem PySem.Spec PyProof.Rows L2

/-! ### statements -/
def dsNext : DS := fun Γ μ => .nx Γ μ
def dSeq (s t : DS) : DS := fun Γ μ => (s Γ μ).thenN t
def dDrop (e : DE) : DS := fun Γ μ => (e Γ μ).thenS fun _ μ1 => .nx Γ μ1
def dRet (e : DE) : DS := fun Γ μ => (e Γ μ).thenS fun d μ1 => .rt d μ1
def dRetN : DS := fun _ μ => .rt .non μ
def dBreak : DS := fun Γ μ => .bk Γ μ
def dCont : DS := fun Γ μ => .ct Γ μ
def dIfS (c : DT) (s t : DS) : DS := fun Γ μ => (c Γ μ).thenS fun b μ1 => match b with
  | true => s Γ μ1
  | false => t Γ μ1
def dNever : DS := fun _ _ => .stk
def dAsg (e : DE) (g : DG) : DS := fun Γ μ => (e Γ μ).thenS fun d μ1 => (g d Γ μ1).thenS fun Γ' μ2 => .nx Γ' μ2
def dSet (i : Nat) (e : DE) : DS := fun Γ μ => (e Γ μ).thenS fun d μ1 => .nx (Γ.set i (some d)) μ1
section
variable {X : Cx} {E : XK} {K : PySem.W.Frag} {e : Expr} {st : Stmt} {rest : List Stmt} {de : DE} {ds dt : DS} {pos : Pos}
theorem sim_next : SimS K E tNext dsNext := by
  intro ρ F H Γ μ σ k s D h
  exact h ρ F H σ Nx.refl k s
theorem sim_seq {t u : TS} (h1 : SimS K E t ds) (h2 : SimS K E u dt) : SimS K E (tSeq t u) (dSeq ds dt) := by
  intro ρ F H Γ μ σ k s D h
  refine h1 ρ F H Γ μ σ k s { D with nx := u D } ?_
  refine (WpS.thenN h).mono (fun Γ1 μ1 q => ?_) (fun _ _ q => q) (fun _ _ q => q) (fun _ _ q => q) (fun _ _ q => q)
  intro ρ1 F1 H1 σ1 n1 k1 s1
  exact h2 ρ1 F1 H1 Γ1 μ1 σ1 k1 s1 D (QS.nx_ n1 q)
theorem qs_nil : QSs X E [] dsNext := ⟨_, pss_nil, sim_next⟩
theorem qs_cons (h1 : QSt X E st ds) (h2 : QSs X E rest dt) : QSs X E (st :: rest) (dSeq ds dt) := by
  obtain ⟨t, a1, a2⟩ := h1.ex
  obtain ⟨u, b1, b2⟩ := h2.ex
  exact ⟨_, pss_cons a1 b1, sim_seq a2 b2⟩
theorem qs_one (h1 : QSt X E st ds) : QSs X E [st] ds := by
  obtain ⟨t, a1, a2⟩ := h1.ex
  exact ⟨_, pss_one a1, a2⟩
theorem q_never : QSt X E st dNever := ⟨_, ps_never, fun ρ F H Γ μ σ k s D h => h.elim⟩
theorem q_expr (he : QE X E e de) (hs : swapsWith e none pos.line X.env = pure false := by rfl) : QSt X E (.Expr e pos) (dDrop de) := by
  obtain ⟨t, a1, a2⟩ := he.ex
  refine ⟨_, ps_expr a1 hs, ?_⟩
  intro ρ F H Γ μ σ k s D h
  refine a2 ρ F H Γ μ σ k s _ ((WpS.thenS h).mono (fun d μ1 q => ?_) fun _ _ q => q)
  exact fun ρ1 F1 H1 v n1 k1 _ => q ρ1 F1 H1 σ n1 k1 (s.nx n1)
theorem q_ret (he : QE X E e de) : QSt X E (.Return (some e) pos) (dRet de) := by
  obtain ⟨t, a1, a2⟩ := he.ex
  refine ⟨_, ps_ret a1, ?_⟩
  intro ρ F H Γ μ σ k s D h
  exact a2 ρ F H Γ μ σ k s _ ((WpS.thenS h).mono (fun d μ1 q => q) fun _ _ q => q)
theorem q_ifS {c : Expr} {a b : List Stmt} {dc : DT} (hc : QT X E c dc) (ha : QSs X E a ds) (hb : QSs X E b dt) : QSt X E (.If c a b pos) (dIfS dc ds dt) := by
  obtain ⟨tc, c1, c2⟩ := hc.ex
  obtain ⟨ta, a1, a2⟩ := ha.ex
  obtain ⟨tb, b1, b2⟩ := hb.ex
  refine ⟨_, ps_if c1 a1 b1, ?_⟩
  intro ρ F H Γ μ σ k s D h
  refine c2 ρ F H Γ μ σ k s _ ((WpS.thenS h).mono (fun d μ1 q => ?_) fun _ _ q => q)
  intro ρ1 F1 H1 n1 k1
  cases d with
  | true =>
    show ta D σ H1
    exact a2 ρ1 F1 H1 Γ μ1 σ k1 (s.nx n1) D (QS.nx_ n1 q)
  | false =>
    show tb D σ H1
    exact b2 ρ1 F1 H1 Γ μ1 σ k1 (s.nx n1) D (QS.nx_ n1 q)
theorem sim_asg {te : TE} {g : TG} {dg : DG} (he : SimE K E te de) (hg : SimG K E g dg) : SimS K E (tAsg te g) (dAsg de dg) := by
  intro ρ F H Γ μ σ k s D h
  refine he ρ F H Γ μ σ k s _ ((WpS.thenS h).mono (fun d μ1 q => ?_) fun _ _ q => q)
  intro ρ1 F1 H1 v n1 k1 r1
  refine hg ρ1 F1 H1 Γ μ1 σ v d k1 (s.nx n1) r1 _ ((WpS.thenS q).mono (fun Γ2 μ2 q => ?_) fun _ _ q => XP.nx n1 q)
  exact fun ρ2 F2 H2 σ2 n2 k2 s2 => q ρ2 F2 H2 σ2 (n1.trans n2) k2 s2
theorem sim_set {te : TE} {i : Nat} (he : SimE K E te de) : SimS K E (tAsg te (gName i)) (dSet i de) := by
  intro ρ F H Γ μ σ k s D h
  refine he ρ F H Γ μ σ k s _ ((WpS.thenS h).mono (fun d μ1 q => ?_) fun _ _ q => q)
  exact fun ρ1 F1 H1 v n1 k1 r1 => q ρ1 F1 H1 _ n1 k1 ((s.nx n1).set r1 i)
/-- name = value -/
theorem q_set (i : Nat) {x : Str} {pos' : Pos} (hN : X.N.Nodup) (he : QE X E e de) (hi : X.N[i]? = some x := by rfl) (hx : Loc X.env.scope x := by first | exact Or.inl rfl | exact Or.inr rfl) (hs : swapsWith e (some (.Name x pos')) pos.line X.env = pure false := by rfl) (hf : X.fn x = true ∨ X.env.scope.names.lookup x = some .local := by first | exact .inl rfl | exact .inr rfl) :
    QSt X E (.Assign [.Name x pos'] e pos) (dSet i de) := by
  obtain ⟨t, a1, a2⟩ := he.ex
  exact ⟨_, ps_set hN hi hx a1 hs hf, sim_set a2⟩
/-! targets -/
def dgName (i : Nat) : DG := fun d Γ μ => .ok (Γ.set i (some d)) μ
abbrev DGs := List D → Gam → Mu → R Gam
def dgNil : DGs := fun ds Γ μ => match ds with
  | [] => .ok Γ μ
  | _ => .stk
def dgCons (g : DG) (gs : DGs) : DGs := fun ds Γ μ => match ds with
  | d :: r => (g d Γ μ).bind fun Γ1 μ1 => gs r Γ1 μ1
  | [] => .stk
def dgTup (n : Nat) (gs : DGs) : DG := fun d Γ μ => match d with
  | .tup ds => if ds.length = n then gs ds Γ μ else .stk
  | _ => .stk
/-- o[i] = .., of a list's place -/
def dgSub (o i : DE) : DG := fun d Γ μ => (o Γ μ).bind fun x μ1 => (i Γ μ1).bind fun y μ2 => match x, y with
  | .loc n, .int j => match μ2[n]? with
    | some (.lst ds) => match ixN ds.length j with
      | some m => .ok Γ (μ2.set n (.lst (ds.set m d)))
      | none => .stk
    | _ => .stk
  | _, _ => .stk
def SimGs (K : PySem.W.Frag) (E : XK) (g : TGs) (dg : DGs) : Prop := ∀ (ρ : List Addr) (F H : Hp) (Γ : Gam) (μ : Mu) (σ : L2.St) (v : List V) (d : List D), HpOk K ρ μ F H → Slots K ρ F Γ σ → DnAll K ρ F v d → ∀ Q : L2.St → Hp → Prop,
  WpR (dg d Γ μ) (fun Γ' μ' => ∀ ρ' F' H' σ', Nx ρ F H ρ' F' H' → HpOk K ρ' μ' F' H' → Slots K ρ' F' Γ' σ' → Q σ' H') (XP K E ρ F H) → g v σ H Q
structure QGs (X : Cx) (E : XK) (es : List Expr) (dg : DGs) : Prop where
  ex : ∃ g, PGs X es g ∧ SimGs X.K E g dg
theorem sim_gname {i : Nat} : SimG K E (gName i) (dgName i) := by
  intro ρ F H Γ μ σ v d k s r Q h
  exact h ρ F H _ Nx.refl k (s.set r i)
theorem qg_name (i : Nat) {x : Str} (hN : X.N.Nodup) (hi : X.N[i]? = some x := by rfl) (hx : Loc X.env.scope x := by first | exact Or.inl rfl | exact Or.inr rfl) (hf : X.fn x = true ∨ X.env.scope.names.lookup x = some .local := by first | exact .inl rfl | exact .inr rfl) :
    QG X E (.Name x pos) (dgName i) := ⟨_, pg_name hN hi hx hf, sim_gname⟩
theorem qgs_nil : QGs X E [] dgNil := by
  refine ⟨_, pgs_nil, ?_⟩
  intro ρ F H Γ μ σ v d k s r Q h
  cases r with
  | nil => exact ⟨rfl, h ρ F H _ Nx.refl k s⟩
  | cons _ _ => exact False.elim h
theorem qgs_cons {es : List Expr} {dg : DG} {dgs : DGs} (h1 : QG X E e dg) (h2 : QGs X E es dgs) (hs : (assignEach (e :: es) X.env).map (·.2) = assign e X.env :: (assignEach es X.env).map (·.2) := by rfl) : QGs X E (e :: es) (dgCons dg dgs) := by
  obtain ⟨g, a1, a2⟩ := h1.ex
  obtain ⟨gs, b1, b2⟩ := h2.ex
  refine ⟨_, pgs_cons a1 b1 hs, ?_⟩
  intro ρ F H Γ μ σ v d k s r Q h
  cases r with
  | nil => exact False.elim h
  | cons r1 r2 =>
    refine ⟨_, _, rfl, a2 ρ F H Γ μ σ _ _ k s r1 _ ((WpR.bind h).mono (fun Γ1 μ1 q => ?_) fun _ _ q => q)⟩
    intro ρ1 F1 H1 σ1 n1 k1 s1
    refine b2 ρ1 F1 H1 Γ1 μ1 σ1 _ _ k1 s1 (r2.nx n1) Q (WpR.mono q (fun Γ2 μ2 q => ?_) fun _ _ q => XP.nx n1 q)
    exact fun ρ2 F2 H2 σ2 n2 k2 s2 => q ρ2 F2 H2 σ2 (n1.trans n2) k2 s2
theorem qg_tup {es : List Expr} {k : Nat} {dgs : DGs} {n : Nat} (hc : X.calm = true) (h : QGs X E es dgs) (hn : (assignEach es X.env).length = n := by rfl) (hst : (assignEach es X.env).findIdx? (·.1) = none := by rfl) : QG X E (.Tuple es k pos) (dgTup n dgs) := by
  obtain ⟨g, a1, a2⟩ := h.ex
  refine ⟨_, pg_tup hc a1 hn hst, ?_⟩
  intro ρ F H Γ μ σ v d k s r Q h
  cases r with
  | tup h1 h2 =>
    have h : WpR (if _ = n then dgs _ Γ μ else .stk) _ _ := h
    split at h
    · rename_i hl
      exact ⟨_, _, rfl, k.ex.sqT h1, by rw [h2.length]; exact hl, a2 ρ F H Γ μ σ _ _ k s h2 Q h⟩
    · exact False.elim h
  | _ => exact False.elim h
theorem set_place {ρ : List Addr} {F H : Hp} {μ : Mu} {n m : Nat} {a : Addr} {ds : List D} {d : D} {v : V} (k : HpOk K ρ μ F H) (e : ρ[n]? = some a) (em : μ[n]? = some (.lst ds)) (r : Dn K ρ F v d) :
    ∃ vs, H a = some (.lst vs) ∧ vs.length = ds.length ∧ HpOk K ρ (μ.set n (.lst (ds.set m d))) F (upd H a (.lst (vs.set m v))) ∧ Nx ρ F H ρ F (upd H a (.lst (vs.set m v))) := by
  obtain ⟨hf, vs, e1, e2⟩ := k.mu n a _ e em
  exact ⟨vs, e1, e2.length, k.write e hf ⟨hf, _, upd_same, e2.set r m⟩, Nx.write_ e hf (by rw [e1]; exact Option.some_ne_none _)⟩
theorem sim_gsub {to ti : TE} {do_ di : DE} (ho : SimE K E to do_) (hi : SimE K E ti di) : SimG K E (gSub to ti rSetL) (dgSub do_ di) := by
  intro ρ F H Γ μ σ v d k s r Q h
  refine ho ρ F H Γ μ σ k s _ ((WpR.bind h).mono (fun x μ1 q => ?_) fun _ _ q => q)
  intro ρ1 F1 H1 w n1 k1 r1
  refine hi ρ1 F1 H1 Γ μ1 σ k1 (s.nx n1) _ ((WpR.bind q).mono (fun y μ2 q => ?_) fun _ _ q => XP.nx n1 q)
  intro ρ2 F2 H2 u n2 k2 r2
  have r1 := r1.nx n2
  cases r1 with
  | @loc a n e =>
    cases r2 with
    | int j =>
      have q : WpR (match μ2[n]? with
        | some (.lst ds) => match ixN ds.length j with
          | some m => .ok Γ (μ2.set n (.lst (ds.set m d)))
          | none => .stk
        | _ => .stk) _ _ := q
      split at q
      · rename_i ds em
        split at q
        · rename_i m hm
          obtain ⟨vs, e1, el, k3, n3⟩ := set_place (m := m) k2 e em ((r.nx n1).nx n2)
          refine ⟨a, vs, j, m, rfl, rfl, e1, by rw [el]; exact hm, ?_⟩
          exact q _ _ _ _ ((n1.trans n2).trans n3) k3 (((s.nx n1).nx n2).nx n3)
        · exact False.elim q
      · exact False.elim q
    | _ => exact False.elim q
  | _ => exact False.elim q
theorem qg_sub {o i : Expr} {do_ di : DE} (ho : QE X E o do_) (hi : QE X E i di) (ha : ∀ v, assign (.Subscript o i pos) X.env v = (do
      let ov ← holding [v] (eval o X.env)
      let iv ← holding [v, ov] (eval i X.env)
      standAt pos
      holding [v, ov, iv] (setItem ov iv v)
      release [v, ov, iv] []) := by intro _; rfl) : QG X E (.Subscript o i pos) (dgSub do_ di) := by
  obtain ⟨to, a1, a2⟩ := ho.ex
  obtain ⟨ti, b1, b2⟩ := hi.ex
  exact ⟨_, pg_sub a1 b1 set_list ha, sim_gsub a2 b2⟩
theorem q_asg {tg : Expr} {dg : DG} (he : QE X E e de) (hg : QG X E tg dg) (hs : swapsWithSole [tg] e pos.line X.env = pure false := by rfl) (hw : swappedStores [tg] e X.env = pure none := by rfl)
    (h1 : (assignEach [tg] X.env).map (·.2) = [assign tg X.env] := by rfl) : QSt X E (.Assign [tg] e pos) (dAsg de dg) := by
  obtain ⟨t, a1, a2⟩ := he.ex
  obtain ⟨g, b1, b2⟩ := hg.ex
  exact ⟨_, ps_asg a1 b1 hs hw h1, sim_asg a2 b2⟩
/-- a, b = x, y -/
def dPar (i j : Nat) (a : DA) : DS := fun Γ μ => (a Γ μ).thenS fun ds μ1 => match ds with
  | [x, y] => .nx ((Γ.set i (some x)).set j (some y)) μ1
  | _ => .stk
def dPar3 (i j l : Nat) (a : DA) : DS := fun Γ μ => (a Γ μ).thenS fun ds μ1 => match ds with
  | [x, y, z] => .nx (((Γ.set i (some x)).set j (some y)).set l (some z)) μ1
  | _ => .stk
theorem q_par (i j : Nat) {x y : Str} {a b : Expr} {da : DA} {px py pt : Pos} {kt k2 pt2} (hc : X.calm = true) (hN : X.N.Nodup) (ha : QA X E [a, b] da) (hi : X.N[i]? = some x := by rfl) (hj : X.N[j]? = some y := by rfl) (hij : i ≠ j := by decide)
    (hx : X.env.scope.names.lookup x = some .local := by rfl) (hy : X.env.scope.names.lookup y = some .local := by rfl)
    (hw : swappedStores [.Tuple [.Name x px, .Name y py] kt pt] (.Tuple [a, b] k2 pt2) X.env = pure (some [x, y]) := by rfl)
    (hs : swapsWithSole [.Tuple [.Name x px, .Name y py] kt pt] (.Tuple [a, b] k2 pt2) pos.line X.env = pure false := by rfl) :
    QSt X E (.Assign [.Tuple [.Name x px, .Name y py] kt pt] (.Tuple [a, b] k2 pt2) pos) (dPar i j da) := by
  obtain ⟨ta, a1, a2⟩ := ha.ex
  refine ⟨_, ps_par hc hN hi hj hij hx hy a1 hw hs, ?_⟩
  intro ρ F H Γ μ σ k s D h
  refine a2 ρ F H Γ μ σ k s _ ((WpS.thenS h).mono (fun d μ1 q => ?_) fun _ _ q => q)
  intro ρ1 F1 H1 vs n1 k1 r1
  split at q
  · cases r1 with
    | cons r1 r2 =>
      cases r2 with
      | cons r2 r3 =>
        cases r3
        exact ⟨_, _, rfl, q ρ1 F1 H1 _ n1 k1 (((s.nx n1).set r1 i).set r2 j)⟩
  · exact False.elim q
def dAug (i : Nat) (f : Mu → D → D → Option D) (a : DE) : DS := fun Γ μ => match Γ[i]? with
  | some (some x) => (a Γ μ).thenS fun y μ1 => (R.of μ1 (f μ1 x y)).thenS fun z μ2 => .nx (Γ.set i (some z)) μ2
  | _ => .stk
/-! o[i] op= e, of a list's place -/
end
end Ar

set_option Elab.async false
set_option linter.all false
set_option maxRecDepth 100000
set_option maxHeartbeats 2000000
/-! ArG: what a def promises where no guard stands above (so that the text of a list is told exactly) -/
namespace Ar
open PySem PySem.Spec PyProof.Rows L2

structure RoomG (k : Nat) (A : Around) : Prop where
  r : Room k A
  g : A.guards = some []
theorem RoomG.mono {j k : Nat} {A : Around} (h : RoomG k A) (l : j ≤ k) : RoomG j A := ⟨h.r.mono l, h.g⟩
theorem RoomG.units {k : Nat} {A : Around} (h : RoomG k A) : A.units + 64 < cLine := h.r.units
theorem RoomG.down {k : Nat} {A : Around} (h : RoomG (k + 1) A) (en : Env) : RoomG k (A.deeper en) := ⟨h.r.deeper en, h.g⟩
structure Pm (P : Program) (w : World) (K : PySem.W.Frag) (mg : Str → Option Value) (base : Heap) (Z : CXT) (k : Nat) (f : Addr) (fd : FuncData) (ps : List Str) (sp : Sp) : Prop where
  ln : ∀ xs H D E, sp xs H D E → xs.length = ps.length
  go : ∀ (A : Around) (o : List Env) (s : Shared) (H : Hp) (ar : Args) (us : List Value) (xs : List V) (D : VK) (E : XK), RoomG k A → Env0 P w K mg base A o s H → BindsTo s fd ar (ps.zip us) → Vals xs us → sp xs H D E →
    codeAny (model P w) A (.call (.ref f) ar) (CR Z o P w H s D E) s
theorem Pm.mono {P : Program} {w : World} {K : PySem.W.Frag} {mg : Str → Option Value} {base : Heap} {Z : CXT} {j k : Nat} {f : Addr} {fd : FuncData} {ps : List Str} {sp : Sp} (G : Pm P w K mg base Z j f fd ps sp) (l : j ≤ k) : Pm P w K mg base Z k f fd ps sp :=
  ⟨G.ln, fun A o s H ar us xs D E hr => G.go A o s H ar us xs D E (hr.mono l)⟩
section
variable {X : Cx} {Z : CXT} {k n : Nat} {f : Addr} {fd : FuncData} {ps ks : List Str} {sp : Sp} {dvs : List V} {ds : List Value} {E : XK} {x : Str} {p pos : Pos} {e : Expr} {es : List Expr} {ta tk : TA} {kws : List Keyword} {g : List Value → List Value → List Value} {gV : List V → List V → List V}
theorem ran {pins : List (Addr × Obj)} {σ : L2.St} {H : Hp} {s : Shared} {D : VK} {ar : Args} {us : List Value} {xs : List V} (G : Pm X.prog X.w X.K X.mg X.base Z k f fd ps sp) (hr : RoomG k X.A) (hx : Passes Z X E) (I : Inv X pins σ H s)
    (b : BindsTo s fd ar (ps.zip us)) (r : Vals xs us) (h : sp xs H D E) : wpAny (model X.prog X.w) X.A (call (.ref f) ar.pos ar.kw) (EP X pins σ D) X.xe s := by
  refine wpAny_call (codeAny_mono (G.go X.A X.stack s H ar us xs D E hr I.env0 b r h) fun z s' q => ?_)
  match z, q with
  | .error err, q => exact hx pins σ H s err s' I q
  | .ok (.ret u), q => exact I.after q
theorem pe_callG (G : Pm X.prog X.w X.K X.mg X.base Z k f fd ps sp) (hr : RoomG k X.A) (gl : Gl X x) (m : X.mg x = some (.ref f)) (kp : PySem.W.keepIn X.K (.ref f) = true) (b : Binds X.K fd ps ds) (dv : Vals dvs ds) (hx : Passes Z X E)
    (ar : PA X (e :: es) ta) (db : (x == ("__debug__" : Str)) = false := by decide) (st : starEach (e :: es) X.env = (false, eval e X.env) :: starEach es X.env := by rfl) (pl : (backTo pos (starEach es X.env)).any (·.1) = false := by rfl) :
    PE X (.Call (.Name x p) (e :: es) [] pos) (tCall sp dvs E ta) := by
  refine ⟨fun pins s σ H D I h => wpAny_Call_Name_kw (ld_glob I gl m ?_ db)⟩
  refine PySem.W.callWith_K (h₀ := X.base) I.ok.mod.kin kp (thn (ar.run pos pins s σ H _ I h) fun us s1 ⟨xs, H1, I1, r, q⟩ => ⟨I1.kIn, ?_⟩) st pl
  have r2 := r.append dv
  exact ran (ar := ⟨us, []⟩) G hr hx I1 (b s1 us I1.kIn (by rw [← r2.length]; exact G.ln _ _ _ _ q)) r2 q
theorem pe_callGN0 (G : Pm X.prog X.w X.K X.mg X.base Z k f fd ps sp) (hr : RoomG k X.A) (gl : Gl X x) (m : X.mg x = some (.ref f)) (kp : PySem.W.keepIn X.K (.ref f) = true) (b : KBn X.K fd ps 0 ks g gV) (hx : Passes Z X E)
    (kw : PK X kws tk) (al : (backToKw pos (keywordEach kws X.env)).all (·.1.isSome) = true) (ek : (backToKw pos (keywordEach kws X.env)).filterMap (·.1) = ks)
    (db : (x == ("__debug__" : Str)) = false) (pl : ((backTo pos (starEach [] X.env)).any (·.1) || (backToKw pos (keywordEach kws X.env)).any (·.1.isNone)) = false) :
    PE X (.Call (.Name x p) [] kws pos) (tCallN 0 ks.length sp gV E tNil tk) := by
  refine ⟨fun pins s σ H D I h => wpAny_Call_Name_kw (ld_glob I gl m ?_ db)⟩
  refine PySem.W.callWith_KW0 (h₀ := X.base) I.ok.mod.kin kp al (thn (kw.run pos pins s σ H _ I h) fun ws s2 ⟨zs, H2, I2, rz, l1, l2, q2⟩ => ⟨I2.kIn, ?_⟩) pl
  rw [ek]
  exact ran (ar := ⟨[], ks.zip ws⟩) G hr hx I2 (b.to s2 [] ws I2.kIn rfl (rz.length.symm.trans l2)) (b.rel .nil rz) q2
end
/-- a def by its body -/
theorem fn_ofG {Z : CXT} {P : Program} {w : World} {K : PySem.W.Frag} {mg : Str → Option Value} {base : Heap} {k : Nat} {f : Addr} {x qual : Str} {params : Arguments} {body : List Stmt} {scope : Scope} {dvs : List V} {kws : List (Str × V)} {fd : FuncData} {N ps : List Str} {sp : Sp} (F : FunD K x qual params body scope dvs kws f fd) (S : FnScope N ps scope)
    (ln : ∀ xs H D E, sp xs H D E → xs.length = ps.length)
    (bd : ∀ (cdv : Value) (A : Around) (o : List Env) (s : Shared) (H : Hp) (xs : List V) (D : VK) (E : XK), RoomG k (A.deeper (envOfC qual scope s.heap.objs.size f cdv)) → sp xs H D E →
      ∃ t, PSs (cxOf Z P w K mg base N qual scope f cdv A o s H E) body t ∧ t { nx := fun _ H' => D .non H', rt := D } (start N xs) H) : Pm P w K mg base Z (k + 1) f fd ps sp := by
  obtain ⟨oc, od, dV, kV, doc, pm, an, cdv, ct, osl, rfl, lk, hcd, _, _⟩ := F.ex
  refine ⟨ln, fun A o s H ar us xs D E hr e0 hb r hs => ?_⟩
  have KX : K.In s.heap := e0.mod.kin.keeps fun b u z => (e0.bs b u z).1
  have li : s.heap.NoLimit := e0.mod.nolimit.keeps fun b u z => (e0.bs b u z).1
  have hk : ∀ y ∈ ps.zip us, scope.names.lookup y.1 = some .local ∨ (scope.names.lookup y.1 = some .cell ∧ ((cellsFrom (s.heap.objs.size + 1) scope.names []).lookup y.1).isSome = true) := by
    rintro ⟨m, v⟩ hy
    have := S.par m (List.of_mem_zip hy).1
    exact this.imp id fun q => ⟨q, PySem.W.cellsFrom_some _ _ _ (.inl q)⟩
  refine codeAny_call_function hr.r.depth (KX _ _ lk) rfl S.co S.gen rfl (PySem.W.codeRec_of KX hcd) (hb _ _ _ _ (wpAny_newFunctionEnv_cells S.kind hk ?_))
  intro en he s1 y
  subst he
  refine ⟨li.keeps y.toInCall.keep, codeAny_func ?_⟩
  obtain ⟨t, ht, hq⟩ := bd cdv A o s H xs D E (hr.down _) hs
  have I0 := inv_start (CX := Z) (E := E) S hr.r.hd e0 (ln _ _ _ _ hs) r y
  refine wpAny_mono (ht.run [] s1 _ H _ I0 hq) (fun fl s' z => ?_) fun _ _ z => z
  cases fl with
  | brk => obtain ⟨_, _, _, q⟩ := z; exact q.elim
  | cont => obtain ⟨_, _, _, q⟩ := z; exact q.elim
  | next =>
    obtain ⟨τ, G, J, q⟩ := z
    exact ⟨.non, G, J.os, J.bare, J.base, J.hok, rfl, q⟩
  | ret u =>
    obtain ⟨v, τ, G, J, rv, q⟩ := z
    exact ⟨v, G, J.os, J.bare, J.base, J.hok, rv, q⟩
/-- a promise at the caller of the law: turned into the kit's own form for law_call -/
theorem law_callG {P : Program} {w : World} {K : PySem.W.Frag} {mg mb : Str → Option Value} {Z : CXT} {k : Nat} {fa a : Addr} {fd : FuncData} {x : Str} {sp : Sp} {s₁ : Shared} {vs : List Value} {ns : List Int}
    (KX : K.In s₁.heap) (n1 : s₁.heap.Ns mainGlobals mg) (n2 : s₁.heap.Ns builtinsNs mb) (n3 : ∀ y : Str, y ≠ "__name__" → mb y = bootBuiltins y) (n4 : s₁.heap.NoLimit) (n5 : s₁.gens = #[])
    (ha : s₁.heap.get? a = some { cls := .type "list", data := .seq vs.toArray }) (hi : IntsAre vs ns) (hl : ns.length ≤ sizeLine) (hr : RoomG k callerA)
    (F : ∀ base : Heap, K.In base → base.Ns mainGlobals mg → Pm P w K mg base Z k fa fd [x] sp) (bi : ∀ (s : Shared) (u : Value), BindsTo s fd ⟨[u], []⟩ [(x, u)])
    (hs : ∀ H : Hp, Only H → SqL K H a (ns.map V.int) → sp [.ref a] H (fun v _ => v = .bl true) fun _ _ _ => False) (hZ : ∀ H e s', Z [] H s₁ (fun _ _ _ => False) e s' → False) :
    codeAny (model P w) callerA (.call (.ref fa) ⟨[.ref a], []⟩) (fun r s' => r = .ok (.ret (.bool true)) ∧ OldK s₁.heap s'.heap ∧ s'.os = s₁.os ∧ AllBare s'.gens) s₁ := by
  have rv := vals_ints hi
  have lv := hi.length
  have core : ∀ H : Hp, Only H → SqL K H a (ns.map V.int) → HOk P w H s₁.heap → (∀ b, H b ≠ none → b = a ∧ K.lookup a = none) →
      codeAny (model P w) callerA (.call (.ref fa) ⟨[.ref a], []⟩) (fun r s' => r = .ok (.ret (.bool true)) ∧ OldK s₁.heap s'.heap ∧ s'.os = s₁.os ∧ AllBare s'.gens) s₁ := by
    intro H hO hS ok hA
    have n0 : ∀ {b : Addr} {o : Obj}, s₁.heap.get? b = some o → (b = a → K.lookup a = none → False) → H b = none := fun {b o} e h => by
      by_cases q : H b = none
      · exact q
      · exact absurd (hA b q).2 (h (hA b q).1)
    have nA : ∀ {b : Addr} {o : Obj} {es : Array DictEntry} {ep : Nat}, s₁.heap.get? b = some o → o.data = .dict es ep → H b = none := fun {b o es ep} e d => n0 e fun z _ => by
      subst z
      rw [ha] at e
      cases e
      exact nomatch d
    have nsK : ∀ {b : Addr} {m : Str → Option Value}, s₁.heap.Ns b m → (hidT s₁.heap H).Ns b m := by
      rintro b m ⟨o, es, ep, e, d, r⟩
      exact ⟨o, es, ep, hidT_get e (nA e d), d, r⟩
    have hKb : K.In (hidT s₁.heap H) := fun b o e => hidT_get (KX b o e) (n0 (KX b o e) fun z k0 => by subst z; rw [k0] at e; cases e)
    have hM : Mod K mg (hidT s₁.heap H) := by
      obtain ⟨mc, z1, z2⟩ := n4
      exact ⟨hKb, nsK n1, ⟨mb, nsK n2, n3⟩, ⟨mc, nsK z1, z2⟩⟩
    have e0 : Env0 P w K mg (hidT s₁.heap H) callerA [] s₁ H := ⟨rfl, hM, fun _ _ e => of_hidT e, by rw [hidT_size]; exact Nat.le_refl _, trivial, fun b z => (List.not_mem_nil z).elim, ok, AllBare.of_eq n5⟩
    refine codeAny_mono ((F _ hKb (nsK n1)).go callerA [] s₁ H ⟨[.ref a], []⟩ [.ref a] [.ref a] _ _ hr e0 (bi s₁ _) (.cons rfl .nil) (hs H hO hS)) fun r s' h => ?_
    rcases r with e | fl
    · exact (hZ H e s' h).elim
    · cases fl with
      | brk => exact h.elim
      | cont => exact h.elim
      | next => exact h.elim
      | ret u => ?_
      obtain ⟨v, H', os, bare, un, ok', r', q⟩ := h
      cases (show v = V.bl true from q)
      obtain rfl : u = Value.bool true := r'
      refine ⟨rfl, OldK.of_keep fun b o e => ?_, os, bare⟩
      rcases hO b with q | ⟨ob, xs, q⟩
      · exact un.keep b o e q (fun z => (List.not_mem_nil z).elim) (by simp)
      · have e1 := (ok b _ q).1
        rw [e] at e1
        cases e1
        exact (ok' b _ (un.frzs b _ _ q)).1
  cases hk : K.lookup a with
  | some o =>
    have e := KX a o hk
    rw [ha] at e
    cases e
    exact core (fun _ => none) (fun _ => .inl rfl) (.inr ⟨_, vs.toArray, _, hk, rfl, rfl, rfl, by rw [List.size_toArray, lv]; exact hl, by simpa using rv⟩) (fun b u z => nomatch (show (none : Option HO) = some u from z)) fun b z => absurd rfl z
  | none =>
    have yes : ∀ b u, (if b = a then some (HO.frz { cls := .type "list", data := .seq vs.toArray } (.lst (ns.map V.int))) else none) = some u → b = a ∧ HO.frz { cls := .type "list", data := .seq vs.toArray } (.lst (ns.map V.int)) = u := fun b u z => by
      split at z
      · exact ⟨by assumption, Option.some.inj z⟩
      · cases z
    refine core (fun b => if b = a then some (.frz { cls := .type "list", data := .seq vs.toArray } (.lst (ns.map V.int))) else none) (fun b => ?_) (.inl (.inr ⟨_, if_pos rfl⟩)) (fun b u z => ?_) (fun b z => ?_)
    · by_cases q : b = a
      · exact .inr ⟨_, _, if_pos q⟩
      · exact .inl (if_neg q)
    · obtain ⟨rfl, rfl⟩ := yes b u z
      exact ⟨ha, by rw [List.length_map]; exact hl, vs, _, rv, ha⟩
    · obtain ⟨u, z⟩ := Option.ne_none_iff_exists'.mp z
      exact ⟨(yes b u z).1, hk⟩
end Ar

set_option Elab.async false
set_option linter.all false
set_option maxRecDepth 100000
set_option maxHeartbeats 2000000
/-! Ar6: what is walked; for, while; comprehensions; calls of defs -/
namespace Ar
open PySem PySem.Spec PyProof.Rows L2

/-! ### what is walked -/
def seqI (d : D) (μ : Mu) : R (List D) := match d with
  | .tup ds => .ok ds μ
  | .lst ds => .ok ds μ
  | .scr ds => .ok ds μ
  | .str z => .ok (z.cps.toList.map fun c => .str ⟨#[c]⟩) μ
  | .loc n => match μ[n]? with
    | some (.lst ds) => .ok ds (μ.set n (.frz ds))
    | some (.frz ds) => .ok ds μ
    | _ => .stk
  | _ => .stk
def diSeq (e : DE) : DA := fun Γ μ => (e Γ μ).bind seqI
def rngD (lo : Int) (n : Nat) : List D := (List.range n).map fun (i : Nat) => .int (lo + i)
def diRange1 (a : DA) : DA := fun Γ μ => (a Γ μ).bind fun ds μ1 => match ds with
  | [.int j] => if j.natAbs < 2 ^ 61 then .ok (rngD 0 j.toNat) μ1 else .stk
  | _ => .stk
def diRange2 (a : DA) : DA := fun Γ μ => (a Γ μ).bind fun ds μ1 => match ds with
  | [.int i, .int j] => if i.natAbs < 2 ^ 61 ∧ j.natAbs < 2 ^ 61 then .ok (rngD i (j - i).toNat) μ1 else .stk
  | _ => .stk
section
variable {X : Cx} {E : XK} {K : PySem.W.Frag} {e tg : Expr} {de : DE} {pos : Pos}
theorem PI.or {iter : Expr} {w1 w2 : TI} (h1 : PI X tg iter w1) (h2 : PI X tg iter w2) : PI X tg iter (fun σ H Rr => w1 σ H Rr ∨ w2 σ H Rr) := ⟨fun pins s σ H Rr I h => h.elim (h1.run pins s σ H Rr I) (h2.run pins s σ H Rr I)⟩
theorem itok_list' {ρ : List Addr} {F : Hp} {a : Addr} {vs : List V} {ds : List D} (h : SqL K F a vs) (r : DnAll K ρ F vs ds) : ItOk K ρ F (Itl K a) ds where
  go := fun i H s hi => by
    have hl := r.length
    exact ⟨vs, vs[i]'(by omega), s.sqL h, List.getElem?_eq_getElem _⟩
  stop := fun i H s hi0 => have hi := Nat.le_of_eq hi0.symm; ⟨vs, s.sqL h, by rw [r.length]; exact hi⟩
  yld := fun i ρ' F' H μ' x H' s p k y hi => by
    obtain ⟨e1, y⟩ := y
    subst e1
    have q := y vs (k.ex.sqL (s.sqL h))
    obtain ⟨d, hd, rd⟩ := r.getV q
    exact ⟨d, F', hd, Nx.refl, k, rd.mono p s⟩
theorem itok_tup {ρ : List Addr} {F : Hp} {a : Addr} {vs : List V} {ds : List D} (h : SqT K F a vs) (r : DnAll K ρ F vs ds) : ItOk K ρ F (Itt K a) ds where
  go := fun i H s hi => by
    have hl := r.length
    exact ⟨vs, vs[i]'(by omega), s.sqT h, List.getElem?_eq_getElem _⟩
  stop := fun i H s hi0 => have hi := Nat.le_of_eq hi0.symm; ⟨vs, s.sqT h, by rw [r.length]; exact hi⟩
  yld := fun i ρ' F' H μ' x H' s p k y hi => by
    obtain ⟨e1, y⟩ := y
    subst e1
    have q := y vs (k.ex.sqT (s.sqT h))
    obtain ⟨d, hd, rd⟩ := r.getV q
    exact ⟨d, F', hd, Nx.refl, k, rd.mono p s⟩
theorem rngD_len (lo : Int) (n : Nat) : (rngD lo n).length = n := by simp [rngD]
theorem itok_rng {ρ : List Addr} {F : Hp} (lo : Int) (n : Nat) : ItOk K ρ F (Itr lo n) (rngD lo n) where
  go := fun i H s hi => by rw [rngD_len] at hi; exact hi
  stop := fun i H s hi0 => by have hi := Nat.le_of_eq hi0.symm; rw [rngD_len] at hi; exact hi
  yld := fun i ρ' F' H μ' x H' s p k y hi => by
    obtain ⟨e1, e2⟩ := y
    subst e1
    subst e2
    rw [rngD_len] at hi
    exact ⟨.int (lo + i), F', by simp [rngD, hi], Nx.refl, k, .int _⟩
theorem itok_str {ρ : List Addr} {F : Hp} (x : Str) : ItOk K ρ F (Its x) (x.cps.toList.map fun c => .str ⟨#[c]⟩) where
  go := fun i H s hi => by show i < x.cps.size; simpa using hi
  stop := fun i H s hi0 => by have hi := Nat.le_of_eq hi0.symm; show x.cps.size ≤ i; simpa using hi
  yld := fun i ρ' F' H μ' v H' s p k y hi => by
    obtain ⟨e1, c, ec, ev⟩ := y
    subst e1
    subst ev
    refine ⟨.str ⟨#[c]⟩, F', ?_, Nx.refl, k, .str _⟩
    rw [List.getElem?_map, Array.getElem?_toList, ec]
    rfl
theorem qi_seq (he : QE X E e de) : QI X E tg e (diSeq de) := by
  obtain ⟨te, a1, a2⟩ := he.ex
  refine ⟨_, PI.or (pi_str a1) (PI.or (pi_list a1) (pi_tup a1)), ?_⟩
  intro ρ F H Γ μ σ k s Rr h
  unfold diSeq at h
  cases hr : de Γ μ with
  | stk => rw [hr] at h; exact False.elim h
  | exc x μ1 =>
    rw [hr] at h
    refine .inr (.inl (a2 ρ F H Γ μ σ k s _ ?_))
    rw [hr]
    exact h
  | ok d μ1 =>
    rw [hr] at h
    have h : WpR (seqI d μ1) _ _ := h
    cases d with
    | tup ds =>
      refine .inr (.inr (a2 ρ F H Γ μ σ k s _ ?_))
      rw [hr]
      intro ρ1 F1 H1 v n1 k1 r1
      cases r1 with
      | tup h1 h2 => exact ⟨_, rfl, ⟨_, k1.ex.sqT h1⟩, h ρ1 F1 H1 _ n1 k1 (itok_tup h1 h2)⟩
    | lst ds =>
      refine .inr (.inl (a2 ρ F H Γ μ σ k s _ ?_))
      rw [hr]
      intro ρ1 F1 H1 v n1 k1 r1
      cases r1 with
      | lst h1 h2 => exact ⟨_, rfl, ⟨_, SqL.of (k1.ex _ _ h1)⟩, h ρ1 F1 H1 _ n1 k1 (itok_list' (SqL.of h1) h2)⟩
    | scr ds =>
      refine .inr (.inl (a2 ρ F H Γ μ σ k s _ ?_))
      rw [hr]
      intro ρ1 F1 H1 v n1 k1 r1
      cases r1 with
      | scr h1 h2 => exact ⟨_, rfl, ⟨_, k1.ex.sqL h1⟩, h ρ1 F1 H1 _ n1 k1 (itok_list' h1 h2)⟩
    | loc n =>
      refine .inr (.inl (a2 ρ F H Γ μ σ k s _ ?_))
      rw [hr]
      intro ρ1 F1 H1 v n1 k1 r1
      cases r1 with
      | @loc a _ e1 =>
        unfold seqI at h
        simp only at h
        split at h
        · rename_i ds em
          obtain ⟨hf, vs, ev, rv⟩ := k1.mu n a _ e1 em
          obtain ⟨k2, n2⟩ := k1.freeze e1 hf ev rv
          exact ⟨a, rfl, ⟨vs, SqL.of ev⟩, h ρ1 _ H1 _ (n1.trans n2) k2 (itok_list' (SqL.of upd_same) (rv.nx n2))⟩
        · rename_i ds em
          obtain ⟨vs, ev, rv⟩ := k1.mu n a _ e1 em
          exact ⟨a, rfl, ⟨vs, SqL.of (k1.ex _ _ ev)⟩, h ρ1 F1 H1 _ n1 k1 (itok_list' (SqL.of ev) rv)⟩
        · exact False.elim h
    | non => exact False.elim h
    | bl _ => exact False.elim h
    | int _ => exact False.elim h
    | str z =>
      refine .inl (a2 ρ F H Γ μ σ k s _ ?_)
      rw [hr]
      intro ρ1 F1 H1 v n1 k1 r1
      cases r1
      exact ⟨z, rfl, h ρ1 F1 H1 _ n1 k1 (itok_str z)⟩
    | ins _ _ => exact False.elim h
    | slt _ _ => exact False.elim h
    | dK _ => exact False.elim h
    | glo _ => exact False.elim h
    | ty _ => exact False.elim h
    | adr => exact False.elim h
    | clo => exact False.elim h
    | exn => exact False.elim h
theorem qi_range1 {a : Expr} {da : DA} {p : Pos} (hm : X.mg "range" = none) (ha : QA X E [a] da) (hg : Gl X "range" := by rfl) (hs : starEach [a] X.env = [(false, eval a X.env)] := by rfl) : QI X E tg (.Call (.Name "range" p) [a] [] pos) (diRange1 da) := by
  obtain ⟨ta, a1, a2⟩ := ha.ex
  refine ⟨_, pi_range1 hg hm a1 hs, ?_⟩
  intro ρ F H Γ μ σ k s Rr h
  refine a2 ρ F H Γ μ σ k s _ ((WpR.bind h).mono (fun ds μ1 q => ?_) fun _ _ q => q)
  intro ρ1 F1 H1 vs n1 k1 r1
  split at q
  · split at q
    · rename_i j hj
      cases r1 with
      | cons r1 r2 =>
        cases r1
        cases r2
        exact ⟨j, rfl, by omega, by omega, q ρ1 F1 H1 _ n1 k1 (itok_rng 0 j.toNat)⟩
    · exact False.elim q
  · exact False.elim q
/-! ### for -/
def forL (g : DG) (b : DS) : List D → Gam → Mu → RS
  | [], Γ, μ => .nx Γ μ
  | d :: ds, Γ, μ => (g d Γ μ).thenS fun Γ1 μ1 => match b Γ1 μ1 with
    | .nx Γ2 μ2 => forL g b ds Γ2 μ2
    | .ct Γ2 μ2 => forL g b ds Γ2 μ2
    | .bk Γ2 μ2 => .nx Γ2 μ2
    | .rt d μ2 => .rt d μ2
    | .exc e μ2 => .exc e μ2
    | .stk => .stk
def dFor (i : DA) (g : DG) (b : DS) : DS := fun Γ μ => (i Γ μ).thenS fun ds μ1 => forL g b ds Γ μ1
theorem sim_for {wi : TI} {g : TG} {tb : TS} {di : DA} {dg : DG} {db : DS} (hi : SimI K E wi di) (hg : SimG K E g dg) (hb : SimS K E tb db) : SimS K E (tFor wi g tb) (dFor di dg db) := by
  intro ρ F H Γ μ σ k s D h
  refine hi ρ F H Γ μ σ k s _ ((WpS.thenS h).mono (fun ds μ1 q => ?_) fun _ _ q => q)
  intro ρ1 F1 H1 J n1 k1 it
  refine ⟨fun i m σ' H' => m = ds.length - i ∧ i ≤ ds.length ∧ ∃ ρ' F' Γ' μ', HpOk K ρ' μ' F' H' ∧ Slots K ρ' F' Γ' σ' ∧ Nx ρ F H ρ' F' H' ∧ Sub F1 F' ∧ (∀ (n : Nat) a, ρ1[n]? = some a → ρ'[n]? = some a) ∧ WpS (forL dg db (ds.drop i) Γ' μ') (QS K E ρ F H D),
    ⟨ds.length, rfl, Nat.zero_le _, ρ1, F1, Γ, μ1, k1, s.nx n1, n1, Sub.refl _, fun _ _ h => h, by rw [List.drop_zero]; exact q⟩, ?_⟩
  rintro i m σ' H' ⟨rfl, hi, ρ', F', Γ', μ', k', s', n', sub, pre, q'⟩
  by_cases hlt : i < ds.length
  · refine .inr ⟨it.go i H' (sub.trans k'.ex) hlt, fun σ2 H2 => ∃ ρ' F' Γ' μ', HpOk K ρ' μ' F' H2 ∧ Slots K ρ' F' Γ' σ2 ∧ Nx ρ F H ρ' F' H2 ∧ Sub F1 F' ∧ (∀ (n : Nat) a, ρ1[n]? = some a → ρ'[n]? = some a) ∧ WpS (forL dg db (ds.drop (i + 1)) Γ' μ') (QS K E ρ F H D),
      fun σ2 H2 hN => ⟨ds.length - (i + 1), by omega, rfl, hlt, hN⟩, fun x H2 y => ?_⟩
    obtain ⟨d, F2, hd, n2, k2, r2⟩ := it.yld i ρ' F' H' μ' x H2 sub pre k' y hlt
    have e1 : ds.drop i = d :: ds.drop (i + 1) := by
      rw [List.drop_eq_getElem_cons hlt]
      congr 1
      exact Option.some.inj ((List.getElem?_eq_getElem hlt).symm.trans hd)
    rw [e1] at q'
    refine hg ρ' F2 H2 Γ' μ' σ' x d k2 (s'.nx n2) r2 _ ((WpS.thenS q').mono (fun Γ3 μ3 q3 => ?_) fun _ _ q => XP.nx (n'.trans n2) q)
    intro ρ3 F3 H3 σ3 n3 k3 s3
    have nn := (n'.trans n2).trans n3
    have sub3 : Sub F1 F3 := (sub.trans n2.ex).trans n3.ex
    have pre3 : ∀ (n : Nat) a, ρ1[n]? = some a → ρ3[n]? = some a := fun n a h => n3.pre _ _ (n2.pre _ _ (pre n a h))
    refine hb ρ3 F3 H3 Γ3 μ3 σ3 k3 s3 _ ?_
    cases hb3 : db Γ3 μ3 with
    | nx Γ4 μ4 =>
      rw [hb3] at q3
      exact fun ρ4 F4 H4 σ4 n4 k4 s4 => ⟨ρ4, F4, Γ4, μ4, k4, s4, nn.trans n4, sub3.trans n4.ex, fun n a h => n4.pre _ _ (pre3 n a h), q3⟩
    | ct Γ4 μ4 =>
      rw [hb3] at q3
      exact fun ρ4 F4 H4 σ4 n4 k4 s4 => ⟨ρ4, F4, Γ4, μ4, k4, s4, nn.trans n4, sub3.trans n4.ex, fun n a h => n4.pre _ _ (pre3 n a h), q3⟩
    | bk Γ4 μ4 =>
      rw [hb3] at q3
      exact fun ρ4 F4 H4 σ4 n4 k4 s4 => q3 ρ4 F4 H4 σ4 (nn.trans n4) k4 s4
    | rt d μ4 =>
      rw [hb3] at q3
      exact fun ρ4 F4 H4 v n4 k4 r4 => q3 ρ4 F4 H4 v (nn.trans n4) k4 r4
    | exc e μ4 =>
      rw [hb3] at q3
      exact XP.nx nn q3
    | stk => rw [hb3] at q3; exact False.elim q3
  · have e : i = ds.length := by omega
    subst e
    rw [List.drop_length] at q'
    exact .inl ⟨it.stop _ H' (sub.trans k'.ex) rfl, q' ρ' F' H' σ' n' k' s'⟩
theorem q_for {iter : Expr} {body : List Stmt} {di : DA} {dg : DG} {db : DS} (hp : PassesOwn (model X.prog X.w) X.A X.env X.xe) (hc : X.calm = true) (hi : QI X E tg iter di) (hg : QG X E tg dg) (hb : QSs X E body db)
    (hs : ∀ x, foldedSetIterable iter X.env x = pure x := by intro _; rfl) : QSt X E (.For tg iter body [] pos) (dFor di dg db) := by
  obtain ⟨wi, i1, i2⟩ := hi.ex
  obtain ⟨g, g1, g2⟩ := hg.ex
  obtain ⟨b, b1, b2⟩ := hb.ex
  exact ⟨_, ps_for hp hc i1 g1 b1 hs, sim_for i2 g2 b2⟩

/-! ### while: some number of turns is enough -/
/-! ### calls of defs -/
abbrev Fn := List D → Mu → R D
def spM (K : PySem.W.Frag) (m : Fn) : Sp := fun vs H Q E => ∃ ρ F μ ds, HpOk K ρ μ F H ∧ DnAll K ρ F vs ds ∧ WpR (m ds μ) (QV K ρ F H Q) (XP K E ρ F H)
def dCall (m : Fn) (a : DA) : DE := fun Γ μ => (a Γ μ).bind m
theorem sim_call {m : Fn} {ta : TA} {da : DA} (ha : SimA K E ta da) : SimE K E (tCall (spM K m) [] E ta) (dCall m da) := by
  intro ρ F H Γ μ σ k s Q h
  refine ha ρ F H Γ μ σ k s _ ((WpR.bind h).mono (fun ds μ1 q => ?_) fun _ _ q => q)
  intro ρ1 F1 H1 vs n1 k1 r1
  rw [List.append_nil]
  exact ⟨ρ1, F1, μ1, ds, k1, r1, q.mono (fun d μ2 q => QV.nx n1 q) fun _ _ q => XP.nx n1 q⟩
/-- the def x of the module does what m says, by at most level k -/
structure FnG (P : Program) (w : World) (K : PySem.W.Frag) (mg : Str → Option Value) (base : Heap) (x : Str) (k : Nat) (m : Fn) : Prop where
  ex : ∃ f fd ps, mg x = some (.ref f) ∧ PySem.W.keepIn K (.ref f) = true ∧ Binds K fd ps [] ∧ Pm P w K mg base (L2.CX P w) k f fd ps (spM K m)
theorem FnG.mono {P : Program} {w : World} {mg : Str → Option Value} {base : Heap} {x : Str} {j k : Nat} {m : Fn} (G : FnG P w K mg base x j m) (h : j ≤ k) : FnG P w K mg base x k m := by
  obtain ⟨f, fd, ps, h1, h2, h3, h4⟩ := G.ex
  exact ⟨f, fd, ps, h1, h2, h3, h4.mono h⟩
theorem q_call {x : Str} {es : List Expr} {p : Pos} {j : Nat} {m : Fn} {da : DA} (G : FnG X.prog X.w X.K X.mg X.base x j m) (hr : RoomG j X.A) (hp : Passes (L2.CX X.prog X.w) X E) (ha : QA X E (e :: es) da) (hg : Gl X x := by rfl)
    (hdb : (x == ("__debug__" : Str)) = false := by decide) (he : starEach (e :: es) X.env = (false, eval e X.env) :: starEach es X.env := by rfl) (hpl : (backTo pos (starEach es X.env)).any (·.1) = false := by rfl) :
    QE X E (.Call (.Name x p) (e :: es) [] pos) (dCall m da) := by
  obtain ⟨f, fd, ps, h1, h2, h3, h4⟩ := G.ex
  obtain ⟨ta, a1, a2⟩ := ha.ex
  exact ⟨_, pe_callG h4 hr hg h1 h2 h3 .nil hp a1 hdb he hpl, sim_call a2⟩
/-- a def from its body: N names in all, the first n are the parameters -/
def RS.fin : RS → R D
  | .nx _ μ => .ok .non μ
  | .rt d μ => .ok d μ
  | .exc e μ => .exc e μ
  | _ => .stk
def dDef (n N : Nat) (b : DS) : Fn := fun ds μ => if ds.length = n then (b (ds.map some ++ List.replicate (N - ds.length) none) μ).fin else .stk
theorem slots_start {ρ : List Addr} {F : Hp} {N : List Str} {vs : List V} {ds : List D} (h : DnAll K ρ F vs ds) : Slots K ρ F (ds.map some ++ List.replicate (N.length - ds.length) none) (L2.start N vs) := by
  unfold L2.start
  refine ⟨by simp [h.length], fun i d e => ?_⟩
  by_cases hi : i < ds.length
  · rw [List.getElem?_append_left (by simpa using hi)] at e
    rw [List.getElem?_append_left (by simp [h.length]; exact hi)]
    rw [List.getElem?_map] at e ⊢
    cases e2 : ds[i]? with
    | none => rw [e2] at e; cases e
    | some d' =>
      rw [e2] at e
      cases e
      obtain ⟨v, hv, r⟩ := h.get e2
      exact ⟨v, by rw [hv]; rfl, r⟩
  · rw [List.getElem?_append_right (by simpa using hi)] at e
    rw [List.getElem?_replicate] at e
    split at e <;> cases e
theorem fn_ok {P : Program} {w : World} {mg : Str → Option Value} {base : Heap} {x qual : Str} {params : Arguments} {body : List Stmt} {scope : Scope} {f : Addr} {fd : FuncData} {N ps : List Str} {k n nn : Nat} {db : DS} (F : FunD K x qual params body scope [] [] f fd) (S : FnScope N ps scope)
    (hn : ps.length = n) (hN : N.length = nn)
    (hb : ∀ (cdv : Value) (A : Around) (outer : List Env) (s : Shared) (H : Hp) (E : XK), RoomG k (A.deeper (envOfC qual scope s.heap.objs.size f cdv)) → QSs (cxOf (L2.CX P w) P w K mg base N qual scope f cdv A outer s H E) E body db) :
    Pm P w K mg base (L2.CX P w) (k + 1) f fd ps (spM K (dDef n nn db)) := by
  refine fn_ofG F S (fun vs H Q E h => ?_) (fun cdv A outer s H vs Q E hr h => ?_)
  · obtain ⟨ρ, F0, μ, ds, k0, r0, h⟩ := h
    unfold dDef at h
    split at h
    · rename_i hl
      rw [r0.length, hl, hn]
    · exact False.elim h
  · obtain ⟨ρ, F0, μ, ds, k0, r0, h⟩ := h
    obtain ⟨t, t1, t2⟩ := (hb cdv A outer s H E hr).ex
    refine ⟨t, t1, ?_⟩
    unfold dDef at h
    split at h
    · refine t2 ρ F0 H _ μ _ k0 (slots_start r0) _ ?_
      subst hN
      cases hres : db (ds.map some ++ List.replicate (N.length - ds.length) none) μ with
      | nx Γ μ1 => rw [hres] at h; exact fun ρ1 F1 H1 σ1 n1 k1 s1 => h ρ1 F1 H1 .non n1 k1 .non
      | rt d μ1 => rw [hres] at h; exact h
      | bk Γ μ1 => rw [hres] at h; exact False.elim h
      | ct Γ μ1 => rw [hres] at h; exact False.elim h
      | exc e μ1 => rw [hres] at h; exact h
      | stk => rw [hres] at h; exact False.elim h
    · exact False.elim h
end
end Ar

set_option Elab.async false
set_option linter.all false
set_option maxRecDepth 100000
set_option maxHeartbeats 2000000
/-! Ar7: comprehensions -/
namespace Ar
open PySem PySem.Spec PyProof.Rows L2

/-! ### the canonical readings -/
def tE (K : PySem.W.Frag) (E : XK) (de : DE) : TE := fun σ H Q => ∃ ρ F Γ μ, HpOk K ρ μ F H ∧ Slots K ρ F Γ σ ∧ WpR (de Γ μ) (QV K ρ F H Q) (XP K E ρ F H)
def tT (K : PySem.W.Frag) (E : XK) (dt : DT) : TT := fun σ H Q => ∃ ρ F Γ μ, HpOk K ρ μ F H ∧ Slots K ρ F Γ σ ∧ WpR (dt Γ μ) (fun b μ' => ∀ ρ' F' H', Nx ρ F H ρ' F' H' → HpOk K ρ' μ' F' H' → Q b H') (XP K E ρ F H)
theorem QE.pe {X : Cx} {E : XK} {e : Expr} {de : DE} (h : QE X E e de) : PE X e (tE X.K E de) := by
  obtain ⟨te, h1, h2⟩ := h.ex
  exact ⟨fun pins s σ H Q I ⟨ρ, F, Γ, μ, k, sl, q⟩ => h1.run pins s σ H Q I (h2 ρ F H Γ μ σ k sl Q q)⟩
theorem QT.pt {X : Cx} {E : XK} {e : Expr} {dt : DT} (h : QT X E e dt) : PT X e (tT X.K E dt) := by
  obtain ⟨te, h1, h2⟩ := h.ex
  exact ⟨fun pins s σ H Q I ⟨ρ, F, Γ, μ, k, sl, q⟩ => h1.run pins s σ H Q I (h2 ρ F H Γ μ σ k sl Q q)⟩
/-- the ifs of a comprehension -/
structure QTs (X : Cx) (E : XK) (es : List Expr) (dt : DT) : Prop where
  run : PTs X es (tT X.K E dt)
def dYes : DT := fun _ μ => .ok true μ
theorem qts_nil {X : Cx} {E : XK} : QTs X E [] dYes := ⟨⟨fun pins s σ H Q I ⟨ρ, F, Γ, μ, k, sl, q⟩ => pts_nil.run pins s σ H Q I (q ρ F H Nx.refl k)⟩⟩
/-! ### targets of a comprehension -/
def wipeG (Γ : Gam) : List Nat → Gam
  | [] => Γ
  | v :: vs => (wipeG Γ vs).set v none
theorem slots_wipe {K : PySem.W.Frag} {ρ : List Addr} {F : Hp} {Γ : Gam} {σ : L2.St} (h : Slots K ρ F Γ σ) : ∀ vs : List Nat, Slots K ρ F (wipeG Γ vs) (wipe σ vs)
  | [] => h
  | v :: vs => (slots_wipe h vs).unset none v
/-- wipe is blind to what g stores -/
def Blind (g : TG) (vs : List Nat) : Prop := ∀ (v : V) (σ : L2.St) (H : Hp) (Q : L2.St → Hp → Prop), g v σ H Q → g v σ H fun σ' H' => wipe σ' vs = wipe σ vs ∧ Q σ' H'
theorem wipe_set {σ : L2.St} {i : Nat} {o : Option V} : ∀ {vs : List Nat}, i ∈ vs → wipe (σ.set i o) vs = wipe σ vs
  | v :: vs, h => by
    unfold wipe
    by_cases hv : v = i
    · subst hv
      by_cases hm : v ∈ vs
      · rw [wipe_set hm]
      · have comm : ∀ (ws : List Nat), v ∉ ws → wipe (σ.set v o) ws = (wipe σ ws).set v o := by
          intro ws
          induction ws with
          | nil => intro _; rfl
          | cons w ws ih =>
            intro hw
            unfold wipe
            rw [ih (fun z => hw (List.mem_cons_of_mem _ z)), List.set_comm]
            exact fun z => hw (by rw [z]; exact List.mem_cons_self)
        rw [comm vs hm, List.set_set]
    · have hm : i ∈ vs := by
        rcases List.mem_cons.mp h with z | z
        · exact absurd z.symm hv
        · exact z
      rw [wipe_set hm]
theorem blind_name {i : Nat} {vs : List Nat} (h : i ∈ vs) : Blind (gName i) vs := fun v σ H Q q => ⟨wipe_set h, q⟩
theorem blind_tup2 {K : PySem.W.Frag} {n i j : Nat} {vs : List Nat} (hi : i ∈ vs) (hj : j ∈ vs) : Blind (gTup K n (gCons (gName i) (gCons (gName j) gNil))) vs := by
  intro v σ H Q q
  obtain ⟨a, xs, e1, e2, e3, x, r, e4, x2, r2, e5, e6, q⟩ := q
  exact ⟨a, xs, e1, e2, e3, x, r, e4, x2, r2, e5, e6, by rw [wipe_set hj, wipe_set hi], q⟩
theorem wipe_none {σ : L2.St} : ∀ {vs : List Nat} {i : Nat}, i ∈ vs → i < σ.length → (wipe σ vs)[i]? = some none
  | v :: vs, i, h, hl => by
    unfold wipe
    by_cases hv : v = i
    · subst hv
      exact List.getElem?_set_self (by rw [wipe_length]; exact hl)
    · rw [List.getElem?_set_ne hv]
      rcases List.mem_cons.mp h with z | z
      · exact absurd z.symm hv
      · exact wipe_none z hl
theorem wipe_wipe {σ : L2.St} (vs : List Nat) : wipe (wipe σ vs) vs = wipe σ vs := by
  have gen : ∀ ws : List Nat, (∀ i ∈ ws, i ∈ vs) → wipe (wipe σ vs) ws = wipe σ vs := by
    intro ws
    induction ws with
    | nil => intro _; rfl
    | cons w ws ih =>
      intro h
      show (wipe (wipe σ vs) ws).set w none = wipe σ vs
      rw [ih fun i hi => h i (List.mem_cons_of_mem _ hi)]
      by_cases hl : w < σ.length
      · apply List.ext_getElem?
        intro j
        by_cases hj : w = j
        · subst hj
          rw [List.getElem?_set_self (by rw [wipe_length]; exact hl), wipe_none (h w List.mem_cons_self) hl]
        · rw [List.getElem?_set_ne hj]
      · rw [List.set_eq_of_length_le (by rw [wipe_length]; omega)]
  exact gen vs fun _ h => h
structure QGb (X : Cx) (scope : Scope) (tg : Expr) (vs : List Nat) (dg : DG) : Prop where
  ex : ∃ g, (∀ (s : Shared) (H : Hp) (C : Addr) (cl : List (Str × Addr)) (fp : List Addr), PG (X.blk s H scope (compEnvC scope cl C X.env) fp) tg g) ∧ SimG X.K E0 g dg ∧ Blind g vs
theorem qgb_name {X : Cx} {scope : Scope} (i : Nat) {x : Str} {pos : Pos} (hN : X.N.Nodup) (hi : X.N[i]? = some x := by rfl) (hx : ∀ C cl, Loc (compEnvC scope cl C X.env).scope x := by intro _ _; first | exact Or.inl rfl | exact Or.inr rfl) (hf : ∀ C cl, (scope.names.lookup x == some .cell) = true ∨ (compEnvC scope cl C X.env).scope.names.lookup x = some .local := by intro _ _; first | exact .inl rfl | exact .inr rfl) :
    QGb X scope (.Name x pos) [i] (dgName i) := ⟨gName i, fun _ _ C cl _ => pg_name hN hi (hx C cl) (hf C cl), sim_gname, blind_name (by simp)⟩
theorem qgb_tup2 {X : Cx} {scope : Scope} (i j : Nat) {x y : Str} {pos px py : Pos} {k : Nat} (hN : X.N.Nodup) (hc : X.calm = true) (hi : X.N[i]? = some x := by rfl) (hj : X.N[j]? = some y := by rfl) (hx : ∀ C cl, Loc (compEnvC scope cl C X.env).scope x := by intro _ _; first | exact Or.inl rfl | exact Or.inr rfl) (hy : ∀ C cl, Loc (compEnvC scope cl C X.env).scope y := by intro _ _; first | exact Or.inl rfl | exact Or.inr rfl)
    (hf : ∀ C cl, (scope.names.lookup x == some .cell) = true ∨ (compEnvC scope cl C X.env).scope.names.lookup x = some .local := by intro _ _; first | exact .inl rfl | exact .inr rfl) (hf2 : ∀ C cl, (scope.names.lookup y == some .cell) = true ∨ (compEnvC scope cl C X.env).scope.names.lookup y = some .local := by intro _ _; first | exact .inl rfl | exact .inr rfl) :
    QGb X scope (.Tuple [.Name x px, .Name y py] k pos) [i, j] (dgTup 2 (dgCons (dgName i) (dgCons (dgName j) dgNil))) := by
  refine ⟨gTup X.K 2 (gCons (gName i) (gCons (gName j) gNil)), fun s H C cl fp => pg_tup hc (pgs_cons (pg_name hN hi (hx C cl) (hf C cl)) (pgs_cons (pg_name hN hj (hy C cl) (hf2 C cl)) pgs_nil)), ?_, blind_tup2 (by simp) (by simp)⟩
  intro ρ F H Γ μ σ v d k s r Q h
  cases r with
  | @tup a vs ds h1 h2 =>
    have h : WpR (if ds.length = 2 then dgCons (dgName i) (dgCons (dgName j) dgNil) ds Γ μ else .stk) _ _ := h
    split at h
    · rename_i hl
      cases h2 with
      | nil => cases hl
      | cons r1 r2 =>
        cases r2 with
        | nil => cases hl
        | cons r2 r3 =>
          cases r3 with
          | nil => exact ⟨a, _, rfl, k.ex.sqT h1, rfl, _, _, rfl, _, _, rfl, rfl, h ρ F H _ Nx.refl k ((s.set r1 i).set r2 j)⟩
          | cons _ _ => cases hl
    · exact False.elim h
  | _ => exact False.elim h

/-! ### [e for x in xs if t] -/
def lcL (g : DG) (t : DT) (e : DE) (Γ : Gam) : List D → Mu → R (List D)
  | [], μ => .ok [] μ
  | d :: ds, μ => (g d Γ μ).nox.bind fun Γ1 μ1 => (t Γ1 μ1).nox.bind fun b μ2 => match b with
    | false => lcL g t e Γ ds μ2
    | true => (e Γ1 μ2).nox.bind fun y μ3 => (lcL g t e Γ ds μ3).bind fun ys μ4 => .ok (y :: ys) μ4
section
variable {X : Cx} {E : XK} {K : PySem.W.Frag}
theorem Nx.aside {ρ ρ' : List Addr} {F F' H H' : Hp} {dl : Addr} {o : HO} (n : Nx ρ F H ρ' F' H') (h : H dl = none) : Nx ρ F H ρ' F' (upd H' dl o) := by
  refine ⟨n.pre, n.ex, fun a u e hn => ?_, n.newR, n.newF, fun a e => ?_⟩
  · rw [upd_ne (ne_of_none e h)]; exact n.keep a u e hn
  · by_cases ha : a = dl
    · subst ha; exact h
    · rw [upd_ne ha] at e; exact n.there a e
theorem Nx.stays {ρ ρ' : List Addr} {F F' H H' : Hp} {dl : Addr} {o : HO} (n : Nx ρ F H ρ' F' H') (h1 : H dl = some o) (h2 : dl ∉ ρ) (h3 : F dl = none) : H' dl = some o ∧ dl ∉ ρ' ∧ F' dl = none := by
  refine ⟨n.keep dl _ h1 h2, fun z => ?_, ?_⟩
  · rcases n.newR dl z with z | z
    · exact h2 z
    · rw [h1] at z; cases z
  · cases e : F' dl with
    | none => rfl
    | some u =>
      rcases n.newF dl u e with z | z | z
      · rw [h3] at z; cases z
      · rw [h1] at z; cases z
      · exact absurd z h2
/-- what is done with the list that was made -/
def Fin (K : PySem.W.Frag) (fin : List D → Mu → R D) : Prop := ∀ (ρ0 ρ : List Addr) (F0 H0 F H : Hp) (μ : Mu) (dl : Addr) (vs : List V) (ys : List D) (Q : VK), HpOk K ρ μ F H → Nx ρ0 F0 H0 ρ F H → H0 dl = none → H dl = some (.lst vs) → dl ∉ ρ → F dl = none → DnAll K ρ F vs ys → WpR (fin ys μ) (QV K ρ0 F0 H0 Q) (fun _ _ => True) → Q (.ref dl) H
/-- what is made so far at dl, the rest still to come -/
def LcW (K : PySem.W.Frag) (fin : List D → Mu → R D) (dg : DG) (dt : DT) (de : DE) (Γw : Gam) (ds : List D) (Q : VK) (ρ1 : List Addr) (F1 H1 : Hp) (dl : Addr) (i : Nat) (H' : Hp) : Prop :=
  ∃ ρ' F' μ' acc dacc, HpOk K ρ' μ' F' H' ∧ Nx ρ1 F1 H1 ρ' F' H' ∧ H' dl = some (.lst acc) ∧ dl ∉ ρ' ∧ F' dl = none ∧ DnAll K ρ' F' acc dacc ∧ acc.length ≤ i ∧
    WpR (lcL dg dt de Γw (ds.drop i) μ') (fun ys μ2 => WpR (fin (dacc ++ ys) μ2) (QV K ρ1 F1 H1 Q) (fun _ _ => True)) (fun _ _ => True)
/-- the loop of a comprehension, whatever is done with the list at the end -/
theorem lc_sim {wi : TI} {g : TG} {di : DA} {dg : DG} {dt : DT} {de : DE} {vs : List Nat} (fin : List D → Mu → R D) (hi : SimI K E wi di) (hg : SimG K E0 g dg) (hb : Blind g vs) (hfin : Fin K fin) :
    SimE K E (tLc wi g (tT K E0 dt) (tE K E0 de) vs) (fun Γ μ => (di Γ μ).bind fun ds μ1 => if ds.length ≤ 1000000 then (lcL dg dt de (wipeG Γ vs) ds μ1).bind fin else .stk) := by
  intro ρ F H Γ μ σ k s Q h
  refine hi ρ F H Γ μ σ k s _ ((WpR.bind h).mono (fun ds μ1 q => ?_) fun _ _ q => q)
  intro ρ1 F1 H1 J n1 k1 it
  split at q
  · rename_i hlen
    intro dl hD
    have D1 : dl ∉ ρ1 := k1.fresh hD
    have D2 : F1 dl = none := k1.freshF hD
    have q0 : WpR (lcL dg dt de (wipeG Γ vs) ds μ1) (fun ys μ2 => WpR (fin ys μ2) (QV K ρ1 F1 H1 Q) (fun _ _ => True)) (fun _ _ => True) :=
      (WpR.bind q).mono (fun ys μ2 q => q.mono (fun d μ3 q => QV.nx n1 q) fun _ _ _ => trivial) fun _ _ _ => trivial
    refine ⟨fun i m H' => m = ds.length - i ∧ i ≤ ds.length ∧ LcW K fin dg dt de (wipeG Γ vs) ds Q ρ1 F1 H1 dl i H', ⟨ds.length, rfl, Nat.zero_le _, ρ1, F1, μ1, [], [], k1.beside D1 D2, Nx.aside Nx.refl hD, upd_same, D1, D2, .nil, Nat.le_refl _, by rw [List.drop_zero]; exact q0⟩, ?_⟩
    rintro i m H' ⟨rfl, hi, ρ', F', μ', acc, dacc, k', n', hd', dr, df, ra, hla, q'⟩
    by_cases hlt : i < ds.length
    · have e1 : ds.drop i = ds[i] :: ds.drop (i + 1) := List.drop_eq_getElem_cons hlt
      refine .inr ⟨it.go i H' (n'.ex.trans k'.ex) hlt, LcW K fin dg dt de (wipeG Γ vs) ds Q ρ1 F1 H1 dl (i + 1), fun H2 hN => ⟨ds.length - (i + 1), by omega, rfl, hlt, hN⟩, fun x H2 y => ?_⟩
      obtain ⟨d, F2, hd, n2, k2, r2⟩ := it.yld i ρ' F' H' μ' x H2 n'.ex n'.pre k' y hlt
      have ed : ds[i] = d := Option.some.inj ((List.getElem?_eq_getElem hlt).symm.trans hd)
      rw [e1, ed] at q'
      obtain ⟨b1, b2, b3⟩ := n2.stays hd' dr df
      have nn2 := n'.trans n2
      have hs' : Slots K ρ' F' (wipeG Γ vs) (wipe σ vs) := (slots_wipe (s.nx n1) vs).nx n'
      have z := hb x (wipe σ vs) H2 (fun σ2 H2 => tT K E0 dt σ2 H2 fun b H3 => if b = true then tE K E0 de σ2 H3 fun y H4 => ∃ acc, H4 dl = some (.lst acc) ∧ acc.length < sizeLine ∧ LcW K fin dg dt de (wipeG Γ vs) ds Q ρ1 F1 H1 dl (i + 1) (upd H4 dl (.lst (acc ++ [y]))) else LcW K fin dg dt de (wipeG Γ vs) ds Q ρ1 F1 H1 dl (i + 1) H3) (hg ρ' F2 H2 (wipeG Γ vs) μ' (wipe σ vs) x d k2 (hs'.nx n2) r2 _ ((WpR.bind q').nox.mono (fun Γ3 μ3 q3 => by
        intro ρ3 F3 H3 σ3 n3 k3 s3
        have nn3 := nn2.trans n3
        obtain ⟨c1, c2, c3⟩ := n3.stays b1 b2 b3
        refine ⟨ρ3, F3, Γ3, μ3, k3, s3, (WpR.bind q3).nox.mono (fun b μ4 q4 => ?_) fun _ _ q => q⟩
        intro ρ4 F4 H4 n4 k4
        have nn4 := nn3.trans n4
        obtain ⟨d1, d2, d3⟩ := n4.stays c1 c2 c3
        have ra4 := ((ra.nx n2).nx n3).nx n4
        cases b with
        | false => exact ⟨ρ4, F4, μ4, acc, dacc, k4, nn4, d1, d2, d3, ra4, by omega, q4⟩
        | true =>
          refine ⟨ρ4, F4, Γ3, μ4, k4, s3.nx n4, (WpR.bind q4).nox.mono (fun yd μ5 q5 => ?_) fun _ _ q => q⟩
          intro ρ5 F5 H5 yv n5 k5 r5
          obtain ⟨g1, g2, g3⟩ := n5.stays d1 d2 d3
          refine ⟨acc, g1, Nat.lt_of_lt_of_le (show acc.length < 1000000 by omega) million, ρ5, F5, μ5, acc ++ [yv], dacc ++ [yd], k5.beside g2 g3, (nn4.trans n5).aside hD, upd_same, g2, g3, (ra4.nx n5).append (.cons r5 .nil), by rw [List.length_append, List.length_singleton]; omega, ?_⟩
          exact (WpR.bind q5).mono (fun ys μ6 q6 => by rw [List.append_assoc]; exact q6) fun _ _ q => q) fun _ _ q => False.elim (by
          exact q)))
      · rw [wipe_wipe] at z
        exact z
    · have e : i = ds.length := by omega
      subst e
      rw [List.drop_length] at q'
      refine .inl ⟨it.stop _ H' (n'.ex.trans k'.ex) rfl, ?_⟩
      refine hfin ρ1 ρ' F1 H1 F' H' μ' dl acc dacc Q k' n' hD hd' dr df ra ?_
      have q' : WpR (fin (dacc ++ []) μ') _ _ := q'
      rw [List.append_nil] at q'
      exact q'
  · exact False.elim q
def finL (ys : List D) (μ : Mu) : R D := .ok (.lst ys) μ
def finM (ys : List D) (μ : Mu) : R D := .ok (.loc μ.length) (μ ++ [.lst ys])
theorem fin_L : Fin K finL := by
  intro ρ0 ρ F0 H0 F H μ dl vs ys Q k n h0 hd hr hf r q
  have sub : Sub F (upd F dl (.lst vs)) := fun b u e => by
    rw [upd_ne fun z => by subst z; rw [hf] at e; cases e]
    exact e
  have k2 : HpOk K ρ μ (upd F dl (.lst vs)) H := by
    refine ⟨fun b u e => ?_, k.len, k.nd, fun j b u e1 e2 => ?_⟩
    · by_cases hb : b = dl
      · subst hb
        rw [upd_same] at e
        cases e
        exact hd
      · rw [upd_ne hb] at e
        exact k.ex b u e
    · have ne : b ≠ dl := fun z => by subst z; exact hr (List.mem_of_getElem? e1)
      exact (k.mu j b u e1 e2).mono (fun _ _ h => h) sub rfl fun z => by rw [upd_ne ne]; exact z
  refine q ρ (upd F dl (.lst vs)) H (.ref dl) ⟨n.pre, n.ex.trans sub, n.keep, n.newR, fun a o e => ?_, n.there⟩ k2 (.lst upd_same (r.mono (fun _ _ h => h) sub))
  by_cases ha : a = dl
  · subst ha; exact .inr (.inl h0)
  · rw [upd_ne ha] at e; exact n.newF a o e
end
/-- [e for target in iter if ..] -/
def dLcF (fin : List D → Mu → R D) (vs : List Nat) (i : DA) (g : DG) (t : DT) (e : DE) : DE := fun Γ μ => (i Γ μ).bind fun ds μ1 => if ds.length ≤ 1000000 then (lcL g t e (wipeG Γ vs) ds μ1).bind fin else .stk
section
variable {X : Cx} {E : XK}
theorem q_lc {fin : List D → Mu → R D} {elt tg iter : Expr} {ifs : List Expr} {scope : Scope} {pos : Pos} {di : DA} {dg : DG} {dt : DT} {de : DE} (own : List (Str × Nat)) (hfin : Fin X.K fin) (hc : X.calm = true) (hN : X.N.Nodup) (hi : QI X E tg iter di) (ok : BlkOk X.N X.env.scope scope own)
    (hg : QGb X scope tg (own.map (·.2)) dg) (ht : ∀ (s : Shared) (H : Hp) (C : Addr) (cl : List (Str × Addr)) (fp : List Addr), QTs (X.blk s H scope (compEnvC scope cl C X.env) fp) E0 ifs dt)
    (he : ∀ (s : Shared) (H : Hp) (C : Addr) (cl : List (Str × Addr)) (fp : List Addr), QE (X.blk s H scope (compEnvC scope cl C X.env) fp) E0 elt de) (hs : ∀ x, foldedSetIterable iter X.env x = pure x := by intro _; rfl) :
    QE X E (.ListComp elt [⟨tg, iter, ifs, 0⟩] scope pos) (dLcF fin (own.map (·.2)) di dg dt de) := by
  obtain ⟨wi, i1, i2⟩ := hi.ex
  obtain ⟨g, g1, g2, g3⟩ := hg.ex
  exact ⟨_, pe_lc hc hN i1 ok g1 (fun s H C cl fp => (ht s H C cl fp).run) (fun s H C cl fp => (he s H C cl fp).pe) hs, lc_sim fin i2 g2 g3 hfin⟩
end
end Ar

set_option Elab.async false
set_option linter.all false
set_option maxRecDepth 100000
set_option maxHeartbeats 2000000
/-! Ar8: enumerate, zip, calls with keywords, methods of lists and texts -/
namespace Ar
open PySem PySem.Spec PyProof.Rows L2

/-! ### enumerate of a tuple -/
section
open Sem (wp)
open AutoSeq1 (wpAny_loadPart')
set_option maxHeartbeats 1000000 in
theorem meets_enumerate_new1 {v : Value} {o : Obj} {H : Heap → Prop} (B : Begins v o H) :
    Meets (Builtin.«enumerate.__new__» ⟨[.type "enumerate", v], []⟩) (fun _ R s => H s.heap ∧
      R (.ok (.ret (.ref (s.heap.push o).objs.size))) { s with heap := (s.heap.push o).push { cls := .type "enumerate", data := .fields #[.none, .bool false, .ref s.heap.objs.size, rawInt 0, .none, .none] } }) :=
  .of_wp fun prog w A R s h => by
    obtain ⟨hp, g, d, tk, os⟩ := s; obtain ⟨h1, h⟩ := h
    have hsub := sub_enumerate
    have q1 : ∀ {A' : Around} {E : Value → Shared → Prop} {Q : Value → Shared → Prop}, Q (.ref hp.objs.size) ⟨hp.push o, g, d, tk, os⟩ → wpAny (model prog w) A' (pyIter v) Q E ⟨hp, g, d, tk, os⟩ :=
      fun q => B.iter prog w _ _ ⟨hp, g, d, tk, os⟩ _ h1 q
    wp_walk using q1
    refine wpAny_stack_any fun st => wpAny_pure ?_
    split
    · rename_i c _ _ _ _ _
      cases (c == Value.type "enumerate")
      · wp_walk using q1
        exact ⟨_, rfl, h⟩
      · wp_walk using q1
        exact ⟨_, rfl, h⟩
    · wp_walk using q1
      exact ⟨_, rfl, h⟩
theorem call_enumerate_B {prog : Program} {w : World} {A : Around} {E : Value → Shared → Prop} {s : Shared} {v : Value} {o : Obj} {H : Heap → Prop} {Q : Value → Shared → Prop} (B : Begins v o H) (h1 : H s.heap)
    (h : ∀ h', IsEnum h' (s.heap.objs.size + 1) s.heap.objs.size 0 .none → h'.get? s.heap.objs.size = some o → h'.objs.size = s.heap.objs.size + 2 →
      (∀ b o, s.heap.get? b = some o → h'.get? b = some o) → Q (.ref (s.heap.objs.size + 1)) { s with heap := h' }) :
    wpAny (model prog w) A (call (.type "enumerate") [v]) Q E s := by
  refine callType_new F.called_enumerate (by decide) (F.typeCall_enumerate_1 _) (F.newCall_enumerate_1 _) (fun obj => F.args_object_init_2 obj _) F.entry_enumerate_new
    (meets_enumerate_new1 B) ⟨h1, ?_⟩
  have hz : (s.heap.push o).objs.size = s.heap.objs.size + 1 := Heap.size_push ..
  show _ ∧ _
  rw [hz]
  have he : IsEnum ((s.heap.push o).push { cls := .type "enumerate", data := .fields #[.none, .bool false, .ref s.heap.objs.size, rawInt 0, .none, .none] }) (s.heap.objs.size + 1) s.heap.objs.size 0 .none := by
    have := Heap.get?_push_size (s.heap.push o) (o := { cls := .type "enumerate", data := .fields #[.none, .bool false, .ref s.heap.objs.size, rawInt 0, .none, .none] }) rfl
    rw [hz] at this; exact this
  refine ⟨⟨_, he, rfl⟩, h _ he (Heap.get?_push_of_some _ (Heap.get?_push_size _ B.free)) (by rw [Heap.size_push, hz]) fun b o x => Heap.get?_push_of_some _ (Heap.get?_push_of_some _ x)⟩
end
def IteT (K : PySem.W.Frag) (a : Addr) : It :=
  ⟨fun i H => ∃ (xs : List V) (x : V), SqT K H a xs ∧ xs[i]? = some x, fun i H v H' => ∃ T x, v = .ref T ∧ H T = none ∧ H' = upd H T (.tup [.int (i : Nat), x]) ∧ ∀ xs, SqT K H a xs → xs[i]? = some x, fun i H => ∃ xs : List V, SqT K H a xs ∧ xs.length ≤ i⟩
theorem turn_enumT {P : Program} {w : World} {K : PySem.W.Frag} {elts : List Expr} {kk : Nat} {tpos : Pos} (a e it : Addr) :
    Turn P w K (.Tuple elts kk tpos) (IteT K a) [e, it] e (fun i h => (∃ old, IsEnum h e it ((i : Nat) : Int) old) ∧ h.IsTupleIter it a i ∧ e ≠ it ∧ a ≠ it ∧ e ≠ a) where
  mem := by simp
  obj := fun i h st b hb => by
    obtain ⟨⟨old, he⟩, ⟨o, ho, hc, hd⟩, _⟩ := st
    have e' : b = e ∨ b = it := by simpa using hb
    rcases e' with z | z
    · rw [z]; exact ⟨_, he, fun v q => nomatch q⟩
    · rw [z]; exact ⟨o, ho, fun v q => by rw [hd] at q; cases q⟩
  keep := fun i h h' st k => let ⟨⟨old, he⟩, hi, hne⟩ := st; ⟨⟨old, k e (by simp) _ he⟩, hi.at fun o q => k it (by simp) o q, hne⟩
  item := by
    intro X hP hw hK hc i pins s σ H E I hf st hg
    subst hP hw hK
    obtain ⟨⟨old, he⟩, hit, hne, hai, hea⟩ := st
    obtain ⟨xs, x, hq, hx⟩ := hg
    obtain ⟨its, rv, p, hz⟩ := I.tuple hq
    obtain ⟨u, hu, ru⟩ := rv.get hx
    have hel : e < s.heap.objs.size := Heap.lt_size he
    have hil : it < s.heap.objs.size := by obtain ⟨_, q, _⟩ := hit; exact Heap.lt_size q
    have hlt : i < its.toArray.size := by
      have := (List.getElem?_eq_some_iff.mp hu).1
      simpa using this
    refine wpAny_pyNext_enum_itemD (n := its.toArray.size) (Draws.tuple (A := X.A.in1) (I.ok.hd hc) it a hai its.toArray) he ⟨hit, p⟩ hlt hne (by simp [hne, hea]) fun y h' tk hy ho hst' hT hsz hk => ?_
    have ey : y = u := by
      have e2 : its.toArray[i]? = some y := hy
      have e3 : its.toArray[i]? = some u := by simpa using hu
      exact Option.some.inj (e2.symm.trans e3)
    subst ey
    refine ⟨_, rfl, wpAny_letOwnedTupleGo_enum (s := { s with heap := h', toks := tk + 1 }) ho fun h'' he' sb => ?_⟩
    have hT2 : h''.get? s.heap.objs.size = some { cls := .type "tuple", data := .seq #[.int i tk, y] } := (sb.2 _ (Nat.ne_of_gt hel)).trans hT
    have new : ObjOk X.prog X.w (upd H s.heap.objs.size (.tup [.int (i : Nat), x])) h'' s.heap.objs.size (.tup [.int (i : Nat), x]) :=
      ⟨by show 2 ≤ sizeLine; decide, [.int i tk, y], .cons ⟨_, rfl⟩ (.cons ru .nil), ⟨_, hT2, rfl, _, rfl⟩⟩
    have I1 : Inv X pins σ (upd H s.heap.objs.size (.tup [.int (i : Nat), x])) { s with heap := h'', toks := tk + 1 } :=
      I.turnedNew (ch := [e, it]) (fun b ob hb q => (sb.2 b (fun z => hb (by simp [z]))).trans (hk b ob (fun z => hb (by simp [z])) (fun z => hb (by simp [z])) q)) hf (Nat.le_refl _) new
    refine ⟨.ref s.heap.objs.size, _, I1, rfl, ⟨_, x, rfl, I.hok.fresh (Nat.le_refl _), rfl, fun ys hy => by rw [I.tuple_inj hy hq]; exact hx⟩, ⟨⟨y, ?_⟩, hst'.1.at fun o q => (sb.2 it (Ne.symm hne)).trans q, hne, hai, hea⟩, fun b hb => ?_⟩
    · have e1 : ((i + 1 : Nat) : Int) = (i : Int) + 1 := by omega
      rw [e1]; exact he'
    · have hb' : b < s.heap.objs.size := by
        have e' : b = e ∨ b = it := by simpa using hb
        rcases e' with z | z
        · rw [z]; exact hel
        · rw [z]; exact hil
      rw [upd_ne (Nat.ne_of_lt hb')]
      exact (hf b hb).1
  done := by
    intro X hP hw hK hc i pins s σ H E I hf st hg
    subst hP hw hK
    obtain ⟨⟨old, he⟩, hit, hne, hai, hea⟩ := st
    obtain ⟨xs, hq, hx⟩ := hg
    obtain ⟨its, rv, p, hz⟩ := I.tuple hq
    obtain ⟨f0, f1, f2, f3, f4, f5⟩ := hf it (by simp)
    have hl := rv.length
    -- the iterator may stand behind the end: then as at the end
    have hh : X.A.in1.handled = none := I.ok.hd hc
    have hT : s.TypeIs (.ref e) "enumerate" := ⟨_, he, rfl⟩
    unfold pyNext
    refine wpAny_bind (wpAny_attempt (wpAny_callSpecial?_slot (name := Str.ofString "__next__") hT F.slot_enumerate_next
      (wpAny_call_entry F.slot_enumerate_next hT F.entry_enumerate_next ?_ (F.args_enumerate_next_1 _))))
    show wpAny _ _ (field (.ref e) 2 >>= _) _ _ _
    refine wpAny_bind (wpAny_field he rfl (x := .ref it) rfl ?_)
    refine wpAny_bind (wpAny_nextOf_tuple_end hh hit p (by simp; omega) fun h' y he' hy => ?_)
    obtain ⟨o, ho, hc2⟩ := hy
    refine wpAny_bind (wpAny_isInstance (T := "StopIteration") (b := true) ⟨o, ho, hc2⟩ isSubtype_stop ?_)
    exact wpAny_pure ⟨rfl, I.turned (t' := s.toks) (fun b o hb q => he' b o hb q) f0 f1 f3 f4 f5⟩
  self := fun A i s Q E st h => let ⟨⟨_, he⟩, _⟩ := st; wpAny_pyIter_enum he h
def iEnumT (K : PySem.W.Frag) (ta : TA) : TI := fun σ H R => ta σ H fun vs H1 => ∃ a xs, vs = [.ref a] ∧ SqT K H1 a xs ∧ R (IteT K a) H1
theorem pi_enumT {X : Cx} {e : Expr} {ta : TA} {p pos tpos : Pos} {elts : List Expr} {kk : Nat} (hg : Gl X "enumerate") (hm : X.mg "enumerate" = none) (ha : PA X [e] ta) (hs : starEach [e] X.env = [(false, eval e X.env)] := by rfl) :
    PI X (.Tuple elts kk tpos) (.Call (.Name "enumerate" p) [e] [] pos) (iEnumT X.K ta) := by
  refine ⟨fun pins s σ H R I h => ?_⟩
  refine Call_ (ld_blt I hg hm boot_enumerate (PyProof.Rows.callWith_type1 (thn (ha.run pos pins s σ H _ I h) fun us s1 ⟨vs, H1, I1, r1, q1⟩ => ?_) hs rfl))
  obtain ⟨a, xs, ex, hq, q⟩ := q1
  subst ex
  cases r1 with
  | cons r rr =>
    cases rr
    cases r
    obtain ⟨its, rv, p', hz⟩ := I1.tuple hq
    have ha : a < s1.heap.objs.size := by obtain ⟨o, ho, _⟩ := id p'; exact Heap.lt_size ho
    refine call_enumerate_B (begins_tuple a its.toArray) p' fun h' he hit hsz hk => wpAny_pyIter_enum he ?_
    have I2 : Inv X pins σ H1 { s1 with heap := h' } := I1.kept (t' := s1.toks) hk
    refine ⟨s1.heap.objs.size + 1, [s1.heap.objs.size + 1, s1.heap.objs.size], _, _, H1, rfl, I2, turn_enumT a (s1.heap.objs.size + 1) s1.heap.objs.size, ⟨⟨.none, he⟩, ⟨_, hit, rfl, rfl⟩, Nat.succ_ne_self _, Nat.ne_of_lt ha, Nat.ne_of_gt (Nat.lt_succ_of_lt ha)⟩, fun b hb => ?_, q⟩
    have e' : b = s1.heap.objs.size + 1 ∨ b = s1.heap.objs.size := by simpa using hb
    have hle : s1.heap.objs.size ≤ b := by
      rcases e' with z | z
      · rw [z]; exact Nat.le_add_right _ _
      · rw [z]; exact Nat.le_refl _
    exact I1.fpOk hle (I1.hok.fresh hle)

/-! ### enumerate, zip by data -/
def enumD : Nat → List D → List D
  | _, [] => []
  | k, d :: ds => .tup [.int (k : Nat), d] :: enumD (k + 1) ds
theorem enumD_len : ∀ (k : Nat) (ds : List D), (enumD k ds).length = ds.length
  | _, [] => rfl
  | k, d :: ds => congrArg Nat.succ (enumD_len (k + 1) ds)
theorem enumD_get : ∀ (k i : Nat) (ds : List D) (d : D), ds[i]? = some d → (enumD k ds)[i]? = some (.tup [.int ((k + i : Nat) : Int), d])
  | k, 0, x :: ds, d, h => by simp at h; subst h; simp [enumD]
  | k, i + 1, x :: ds, d, h => by
    have := enumD_get (k + 1) i ds d (by simpa using h)
    show (enumD (k + 1) ds)[i]? = _
    rw [this, show k + 1 + i = k + (i + 1) by omega]
  | k, i, [], d, h => by simp at h
def seqIE (d : D) (μ : Mu) : R (List D) := match d with
  | .str _ => .stk
  | d => seqI d μ
def diEnum (a : DA) : DA := fun Γ μ => (a Γ μ).bind fun xs μ1 => match xs with
  | [x] => (seqIE x μ1).bind fun ds μ2 => .ok (enumD 0 ds) μ2
  | _ => .stk
def zipD : List D → List D → List D
  | x :: xs, y :: ys => .tup [x, y] :: zipD xs ys
  | _, _ => []
theorem zipD_len : ∀ (xs ys : List D), (zipD xs ys).length = min xs.length ys.length
  | [], _ => by simp [zipD]
  | _ :: _, [] => by simp [zipD]
  | x :: xs, y :: ys => by simp [zipD, zipD_len xs ys]
theorem zipD_get : ∀ (xs ys : List D) (i : Nat) (x y : D), xs[i]? = some x → ys[i]? = some y → (zipD xs ys)[i]? = some (.tup [x, y])
  | [], _, i, x, y, h, _ => by simp at h
  | _ :: _, [], i, x, y, _, h => by simp at h
  | a :: xs, b :: ys, 0, x, y, h, h' => by simp at h h'; subst h h'; simp [zipD]
  | a :: xs, b :: ys, i + 1, x, y, h, h' => by
    show (zipD xs ys)[i]? = _
    exact zipD_get xs ys i x y (by simpa using h) (by simpa using h')
/-- the list of a value: places are frozen -/
def seqIL (d : D) (μ : Mu) : R (List D) := match d with
  | .lst ds => .ok ds μ
  | .loc n => match μ[n]? with
    | some (.lst ds) => .ok ds (μ.set n (.frz ds))
    | some (.frz ds) => .ok ds μ
    | _ => .stk
  | _ => .stk
def diZip (a : DA) : DA := fun Γ μ => (a Γ μ).bind fun xs μ1 => match xs with
  | [.tup ds, .tup es] => .ok (zipD ds es) μ1
  | [x, y] => (seqIL x μ1).bind fun ds μ2 => (seqIL y μ2).bind fun es μ3 => .ok (zipD ds es) μ3
  | _ => .stk
section
variable {X : Cx} {E : XK} {K : PySem.W.Frag} {e e2 tg : Expr} {de : DE} {da : DA} {pos : Pos}
/-- a list's items come frozen -/
theorem seqIL_ok {ρ : List Addr} {F H : Hp} {μ μ' : Mu} {v : V} {d : D} {ds : List D} (k : HpOk K ρ μ F H) (r : Dn K ρ F v d) (h : seqIL d μ = .ok ds μ') : ∃ a vs F', v = .ref a ∧ HpOk K ρ μ' F' H ∧ Nx ρ F H ρ F' H ∧ SqL K F' a vs ∧ DnAll K ρ F' vs ds := by
  unfold seqIL at h
  split at h
  · cases h
    cases r with
    | lst h1 h2 => exact ⟨_, _, F, rfl, k, Nx.refl, SqL.of h1, h2⟩
  · rename_i n
    cases r with
    | @loc a _ e1 =>
      split at h
      · rename_i ds em
        cases h
        obtain ⟨hf, vs, ev, rv⟩ := k.mu n a _ e1 em
        obtain ⟨k2, n2⟩ := k.freeze e1 hf ev rv
        exact ⟨a, vs, _, rfl, k2, n2, SqL.of upd_same, rv.nx n2⟩
      · rename_i ds em
        cases h
        obtain ⟨vs, ev, rv⟩ := k.mu n a _ e1 em
        exact ⟨a, vs, F, rfl, k, Nx.refl, SqL.of ev, rv⟩
      · cases h
  · cases h
theorem itok_enumL {ρ : List Addr} {F : Hp} {a : Addr} {vs : List V} {ds : List D} (h : SqL K F a vs) (r : DnAll K ρ F vs ds) : ItOk K ρ F (Ite K a) (enumD 0 ds) where
  go := fun i H s hi => by
    have hl := r.length
    rw [enumD_len] at hi
    exact ⟨vs, vs[i]'(by omega), s.sqL h, List.getElem?_eq_getElem _⟩
  stop := fun i H s hi0 => by have hi := Nat.le_of_eq hi0.symm; rw [enumD_len] at hi; exact ⟨vs, s.sqL h, by rw [r.length]; exact hi⟩
  yld := fun i ρ' F' H μ' x H' s p k y hi => by
    obtain ⟨T, z, e1, hT, e2, y⟩ := y
    subst e1 e2
    have q := y vs (k.ex.sqL (s.sqL h))
    obtain ⟨d, hd, rd⟩ := r.getV q
    have q2 := enumD_get 0 i ds d hd
    rw [Nat.zero_add] at q2
    obtain ⟨n2, k2, r2⟩ := new_tup (vs := [.int (i : Nat), z]) (ds := [.int (i : Nat), d]) k (.cons (.int _) (.cons (rd.mono p s) .nil)) hT
    exact ⟨_, _, q2, n2, k2, r2⟩
theorem itok_enumT {ρ : List Addr} {F : Hp} {a : Addr} {vs : List V} {ds : List D} (h : SqT K F a vs) (r : DnAll K ρ F vs ds) : ItOk K ρ F (IteT K a) (enumD 0 ds) where
  go := fun i H s hi => by
    have hl := r.length
    rw [enumD_len] at hi
    exact ⟨vs, vs[i]'(by omega), s.sqT h, List.getElem?_eq_getElem _⟩
  stop := fun i H s hi0 => by have hi := Nat.le_of_eq hi0.symm; rw [enumD_len] at hi; exact ⟨vs, s.sqT h, by rw [r.length]; exact hi⟩
  yld := fun i ρ' F' H μ' x H' s p k y hi => by
    obtain ⟨T, z, e1, hT, e2, y⟩ := y
    subst e1 e2
    have q := y vs (k.ex.sqT (s.sqT h))
    obtain ⟨d, hd, rd⟩ := r.getV q
    have q2 := enumD_get 0 i ds d hd
    rw [Nat.zero_add] at q2
    obtain ⟨n2, k2, r2⟩ := new_tup (vs := [.int (i : Nat), z]) (ds := [.int (i : Nat), d]) k (.cons (.int _) (.cons (rd.mono p s) .nil)) hT
    exact ⟨_, _, q2, n2, k2, r2⟩
theorem qi_enum {elts : List Expr} {kk : Nat} {tpos p : Pos} (hm : X.mg "enumerate" = none) (ha : QA X E [e] da) (hg : Gl X "enumerate" := by rfl) (hs : starEach [e] X.env = [(false, eval e X.env)] := by rfl) :
    QI X E (.Tuple elts kk tpos) (.Call (.Name "enumerate" p) [e] [] pos) (diEnum da) := by
  obtain ⟨ta, a1, a2⟩ := ha.ex
  refine ⟨_, PI.or (pi_enum hg hm a1 hs) (pi_enumT hg hm a1 hs), ?_⟩
  intro ρ F H Γ μ σ k s Rr h
  unfold diEnum at h
  cases hr : da Γ μ with
  | stk => rw [hr] at h; exact False.elim h
  | exc x μ1 =>
    rw [hr] at h
    refine .inl (a2 ρ F H Γ μ σ k s _ ?_)
    rw [hr]
    exact h
  | ok xs μ1 =>
    rw [hr] at h
    cases xs with
    | nil => exact False.elim h
    | cons x xs =>
      cases xs with
      | cons _ _ => exact False.elim h
      | nil =>
        have h : WpR ((seqIE x μ1).bind fun ds μ2 => .ok (enumD 0 ds) μ2) _ _ := h
        cases x with
        | tup ds =>
          refine .inr (a2 ρ F H Γ μ σ k s _ ?_)
          rw [hr]
          intro ρ1 F1 H1 vs n1 k1 r1
          cases r1 with
          | cons r1 r2 =>
            cases r2
            cases r1 with
            | tup h1 h2 => exact ⟨_, _, rfl, k1.ex.sqT h1, h ρ1 F1 H1 _ n1 k1 (itok_enumT h1 h2)⟩
        | lst ds =>
          refine .inl (a2 ρ F H Γ μ σ k s _ ?_)
          rw [hr]
          intro ρ1 F1 H1 vs n1 k1 r1
          cases r1 with
          | cons r1 r2 =>
            cases r2
            cases r1 with
            | lst h1 h2 => exact ⟨_, _, rfl, .inl (Rd.of (k1.ex _ _ h1)), h ρ1 F1 H1 _ n1 k1 (itok_enumL (SqL.of h1) h2)⟩
        | scr ds =>
          refine .inl (a2 ρ F H Γ μ σ k s _ ?_)
          rw [hr]
          intro ρ1 F1 H1 vs n1 k1 r1
          cases r1 with
          | cons r1 r2 =>
            cases r2
            cases r1 with
            | scr h1 h2 => exact ⟨_, _, rfl, k1.ex.sqL h1, h ρ1 F1 H1 _ n1 k1 (itok_enumL h1 h2)⟩
        | loc n =>
          refine .inl (a2 ρ F H Γ μ σ k s _ ?_)
          rw [hr]
          intro ρ1 F1 H1 vs n1 k1 r1
          cases r1 with
          | cons r1 r2 =>
            cases r2
            have e3 : seqIE (.loc n) μ1 = seqIL (.loc n) μ1 := rfl
            rw [e3] at h
            cases hs : seqIL (.loc n) μ1 with
            | stk => rw [hs] at h; exact False.elim h
            | exc _ _ => unfold seqIL at hs; simp only at hs; split at hs <;> cases hs
            | ok ds μ2 =>
              rw [hs] at h
              obtain ⟨a, vs, F2, rfl, k2, n2, h1, h2⟩ := seqIL_ok k1 r1 hs
              exact ⟨a, vs, rfl, k2.ex.sqL h1, h ρ1 F2 H1 _ (n1.trans n2) k2 (itok_enumL h1 h2)⟩
        | non => exact False.elim h
        | bl _ => exact False.elim h
        | int _ => exact False.elim h
        | str _ => exact False.elim h
        | ins _ _ => exact False.elim h
        | slt _ _ => exact False.elim h
        | dK _ => exact False.elim h
        | glo _ => exact False.elim h
        | ty _ => exact False.elim h
        | adr => exact False.elim h
        | clo => exact False.elim h
        | exn => exact False.elim h
theorem itok_zipL {ρ : List Addr} {F : Hp} {a b : Addr} {vs ws : List V} {ds es : List D} (h : SqL K F a vs) (r : DnAll K ρ F vs ds) (h' : SqL K F b ws) (r' : DnAll K ρ F ws es) : ItOk K ρ F (Itz K a b) (zipD ds es) where
  go := fun i H s hi => by
    have hl := r.length
    have hl' := r'.length
    rw [zipD_len] at hi
    exact ⟨vs, ws, vs[i]'(by omega), ws[i]'(by omega), s.sqL h, s.sqL h', List.getElem?_eq_getElem _, List.getElem?_eq_getElem _⟩
  stop := fun i H s hi0 => by
    have hi := Nat.le_of_eq hi0.symm
    have hl := r.length
    have hl' := r'.length
    rw [zipD_len] at hi
    exact ⟨vs, ws, s.sqL h, s.sqL h', by omega⟩
  yld := fun i ρ' F' H μ' x H' s p k y hi => by
    obtain ⟨T, z, z', e1, hT, e2, y, y'⟩ := y
    subst e1 e2
    have q := y vs (k.ex.sqL (s.sqL h))
    have q' := y' ws (k.ex.sqL (s.sqL h'))
    obtain ⟨d, hd, rd⟩ := r.getV q
    obtain ⟨d', hd', rd'⟩ := r'.getV q'
    obtain ⟨n2, k2, r2⟩ := new_tup (vs := [z, z']) (ds := [d, d']) k (.cons (rd.mono p s) (.cons (rd'.mono p s) .nil)) hT
    exact ⟨_, _, zipD_get ds es i d d' hd hd', n2, k2, r2⟩
theorem itok_zipT {ρ : List Addr} {F : Hp} {a b : Addr} {vs ws : List V} {ds es : List D} (h : SqT K F a vs) (r : DnAll K ρ F vs ds) (h' : SqT K F b ws) (r' : DnAll K ρ F ws es) : ItOk K ρ F (RZ.ItzT K a b) (zipD ds es) where
  go := fun i H s hi => by
    have hl := r.length
    have hl' := r'.length
    rw [zipD_len] at hi
    exact ⟨vs, ws, vs[i]'(by omega), ws[i]'(by omega), s.sqT h, s.sqT h', List.getElem?_eq_getElem _, List.getElem?_eq_getElem _⟩
  stop := fun i H s hi0 => by
    have hi := Nat.le_of_eq hi0.symm
    have hl := r.length
    have hl' := r'.length
    rw [zipD_len] at hi
    exact ⟨vs, ws, s.sqT h, s.sqT h', by omega⟩
  yld := fun i ρ' F' H μ' x H' s p k y hi => by
    obtain ⟨T, z, z', e1, hT, e2, y, y'⟩ := y
    subst e1 e2
    have q := y vs (k.ex.sqT (s.sqT h))
    have q' := y' ws (k.ex.sqT (s.sqT h'))
    obtain ⟨d, hd, rd⟩ := r.getV q
    obtain ⟨d', hd', rd'⟩ := r'.getV q'
    obtain ⟨n2, k2, r2⟩ := new_tup (vs := [z, z']) (ds := [d, d']) k (.cons (rd.mono p s) (.cons (rd'.mono p s) .nil)) hT
    exact ⟨_, _, zipD_get ds es i d d' hd hd', n2, k2, r2⟩
theorem qi_zip {elts : List Expr} {kk : Nat} {tpos p : Pos} (hm : X.mg "zip" = none) (ha : QA X E [e, e2] da) (hg : Gl X "zip" := by rfl)
    (hs : starEach [e, e2] X.env = (false, eval e X.env) :: starEach [e2] X.env := by rfl) (hpl : (backTo pos (starEach [e2] X.env)).any (·.1) = false := by rfl) :
    QI X E (.Tuple elts kk tpos) (.Call (.Name "zip" p) [e, e2] [] pos) (diZip da) := by
  obtain ⟨ta, a1, a2⟩ := ha.ex
  refine ⟨_, RZ.pi_zipA hg hm a1 hs hpl, ?_⟩
  intro ρ F H Γ μ σ k s Rr h
  refine a2 ρ F H Γ μ σ k s _ ((WpR.bind h).mono (fun xs μ1 q => ?_) fun _ _ q => q)
  intro ρ1 F1 H1 vs n1 k1 r1
  split at q
  · cases r1 with
    | cons r1 r2 =>
      cases r2 with
      | cons r2 r3 =>
        cases r3
        cases r1 with
        | tup h1 h2 =>
          cases r2 with
          | tup g1 g2 => exact ⟨_, _, _, _, rfl, .inr ⟨k1.ex.sqT h1, k1.ex.sqT g1, q ρ1 F1 H1 _ n1 k1 (itok_zipT h1 h2 g1 g2)⟩⟩
  · cases r1 with
    | cons r1 r2 =>
      cases r2 with
      | cons r2 r3 =>
        cases r3
        rename_i x y _ _ _
        cases hx : seqIL x μ1 with
        | stk => rw [hx] at q; exact False.elim q
        | exc _ _ => unfold seqIL at hx; split at hx <;> first | cases hx | (split at hx <;> cases hx)
        | ok ds μ2 =>
          rw [hx] at q
          obtain ⟨a, vs, F2, rfl, k2, n2, h1, h2⟩ := seqIL_ok k1 r1 hx
          have q : WpR ((seqIL y μ2).bind fun es μ3 => .ok (zipD ds es) μ3) _ _ := q
          cases hy : seqIL y μ2 with
          | stk => rw [hy] at q; exact False.elim q
          | exc _ _ => unfold seqIL at hy; split at hy <;> first | cases hy | (split at hy <;> cases hy)
          | ok es μ3 =>
            rw [hy] at q
            obtain ⟨b, ws, F3, rfl, k3, n3, g1, g2⟩ := seqIL_ok k2 (r2.nx n2) hy
            have h1' := n3.ex.sqL h1
            exact ⟨a, b, vs, ws, rfl, .inl ⟨k3.ex.sqL h1', k3.ex.sqL g1, q ρ1 F3 H1 _ ((n1.trans n2).trans n3) k3 (itok_zipL h1' (h2.nx n3) g1 g2)⟩⟩
  · exact False.elim q
end
end Ar

set_option Elab.async false
set_option linter.all false
set_option maxRecDepth 100000
set_option maxHeartbeats 2000000
/-! Ar9: calls with keywords, methods of lists and texts -/
namespace Ar
open PySem PySem.Spec PyProof.Rows L2

/-! ### calls with keywords -/
def pick {α : Type} (pm : List Nat) (xs : List α) : List α := pm.filterMap (xs[·]?)
theorem pick_vals {xs : List V} {us : List Value} (h : Vals xs us) : ∀ pm : List Nat, Vals (pick pm xs) (pick pm us)
  | [] => .nil
  | i :: pm => by
    unfold pick
    rw [List.filterMap_cons, List.filterMap_cons]
    cases e : xs[i]? with
    | none => rw [h.none_of e]; exact pick_vals h pm
    | some x =>
      obtain ⟨u, e2, r⟩ := h.get e
      rw [e2]
      exact .cons r (pick_vals h pm)
theorem pick_dn {K : PySem.W.Frag} {ρ : List Addr} {F : Hp} {xs : List V} {ds : List D} (h : DnAll K ρ F xs ds) : ∀ pm : List Nat, DnAll K ρ F (pick pm xs) (pick pm ds)
  | [] => .nil
  | i :: pm => by
    unfold pick
    rw [List.filterMap_cons, List.filterMap_cons]
    cases e : ds[i]? with
    | none =>
      have e2 : xs[i]? = none := by
        rw [List.getElem?_eq_none_iff] at e ⊢
        rw [h.length]
        exact e
      rw [e2]
      exact pick_dn h pm
    | some d =>
      obtain ⟨v, e2, r⟩ := h.get e
      rw [e2]
      exact .cons r (pick_dn h pm)
structure FnK (P : Program) (w : World) (K : PySem.W.Frag) (mg : Str → Option Value) (base : Heap) (x : Str) (k : Nat) (n : Nat) (ks : List Str) (pm : List Nat) (m : Fn) : Prop where
  ex : ∃ f fd ps, mg x = some (.ref f) ∧ PySem.W.keepIn K (.ref f) = true ∧ KBn K fd ps n ks (fun us ws => pick pm (us ++ ws)) (fun vs zs => pick pm (vs ++ zs)) ∧ Pm P w K mg base (L2.CX P w) k f fd ps (spM K m)
theorem kbn_of {K : PySem.W.Frag} {x qual : Str} {params : Arguments} {body : List Stmt} {scope : Scope} {f : Addr} {fd : FuncData} {ps : List Str} (F : FunD K x qual params body scope [] [] f fd) (n : Nat) (ks : List Str) (pm : List Nat)
    (h : ∀ (kV doc pm' : Value) (an : Option Addr) (cdv ct : Value) (us ws : List Value), us.length = n → ws.length = ks.length → bindArgs (PySem.W.fnOf x qual params body scope .none kV doc pm' an cdv ct) ⟨us, ks.zip ws⟩ = pure (ps.zip (pick pm (us ++ ws)))) :
    KBn K fd ps n ks (fun us ws => pick pm (us ++ ws)) (fun vs zs => pick pm (vs ++ zs)) := by
  obtain ⟨oc, od, dV, kV, doc, pm', an, cdv, ct, osl, rfl, lk, hcd, hD, hK⟩ := F.ex
  rcases hD with ⟨_, rfl⟩ | ⟨e, _⟩
  · exact ⟨fun s us ws X l1 l2 => .of_eq (h kV doc pm' an cdv ct us ws l1 l2), fun r1 r2 => pick_vals (r1.append r2) pm⟩
  · exact absurd rfl e
structure QK (X : Cx) (E : XK) (kws : List Keyword) (da : DA) : Prop where
  ex : ∃ ta, PK X kws ta ∧ SimA X.K E ta da
def dCallK (n m : Nat) (pm : List Nat) (f : Fn) (a k : DA) : DE := fun Γ μ => (a Γ μ).bind fun xs μ1 => (k Γ μ1).bind fun zs μ2 => if xs.length = n ∧ zs.length = m then f (pick pm (xs ++ zs)) μ2 else .stk
section
variable {X : Cx} {E : XK} {e : Expr} {es : List Expr} {kws : List Keyword} {de : DE} {da dk : DA} {pos p kpos : Pos} {nm : Option Str}
theorem qk_nil : QK X E [] daNil := ⟨_, pk_nil, sim_nil⟩
theorem qk_cons (ha : QE X E e de) (hr : QK X E kws dk) : QK X E (⟨nm, e, kpos⟩ :: kws) (daCons de dk) := by
  obtain ⟨te, a1, a2⟩ := ha.ex
  obtain ⟨ta, b1, b2⟩ := hr.ex
  exact ⟨_, pk_cons a1 b1, sim_cons a2 b2⟩
theorem sim_callK {K : PySem.W.Frag} {n m : Nat} {pm : List Nat} {f : Fn} {ta tk : TA} (ha : SimA K E ta da) (hk : SimA K E tk dk) : SimE K E (tCallN n m (spM K f) (fun vs zs => pick pm (vs ++ zs)) E ta tk) (dCallK n m pm f da dk) := by
  intro ρ F H Γ μ σ k s Q h
  refine ha ρ F H Γ μ σ k s _ ((WpR.bind h).mono (fun xs μ1 q => ?_) fun _ _ q => q)
  intro ρ1 F1 H1 vs n1 k1 r1
  refine hk ρ1 F1 H1 Γ μ1 σ k1 (s.nx n1) _ ((WpR.bind q).mono (fun zs μ2 q => ?_) fun _ _ q => XP.nx n1 q)
  intro ρ2 F2 H2 ws n2 k2 r2
  have nn := n1.trans n2
  split at q
  · rename_i hl
    exact ⟨by rw [r1.length]; exact hl.1, by rw [r2.length]; exact hl.2, ρ2, F2, μ2, _, k2, pick_dn ((r1.nx n2).append r2) pm, q.mono (fun d μ2 q => QV.nx nn q) fun _ _ q => XP.nx nn q⟩
  · exact False.elim q
theorem q_callK0 {x : Str} {j mm : Nat} {ks : List Str} {pm : List Nat} {m : Fn} (G : FnK X.prog X.w X.K X.mg X.base x j 0 ks pm m) (hr : RoomG j X.A) (hp : Passes (L2.CX X.prog X.w) X E) (hk : QK X E kws dk) (hg : Gl X x := by rfl)
    (hall : (backToKw pos (keywordEach kws X.env)).all (·.1.isSome) = true := by rfl) (hks : (backToKw pos (keywordEach kws X.env)).filterMap (·.1) = ks := by rfl) (hmm : ks.length = mm := by rfl)
    (hdb : (x == ("__debug__" : Str)) = false := by decide) (hpl : ((backTo pos (starEach [] X.env)).any (·.1) || (backToKw pos (keywordEach kws X.env)).any (·.1.isNone)) = false := by rfl) :
    QE X E (.Call (.Name x p) [] kws pos) (dCallK 0 mm pm m daNil dk) := by
  subst hmm
  obtain ⟨f, fd, ps, h1, h2, h3, h4⟩ := G.ex
  obtain ⟨tk, b1, b2⟩ := hk.ex
  exact ⟨_, pe_callGN0 h4 hr hg h1 h2 h3 hp b1 hall hks hdb hpl, sim_callK sim_nil b2⟩
end

/-! ### methods of lists that change them -/
def placeL (μ : Mu) (d : D) : Option (Nat × List D) := match d with
  | .loc n => match μ[n]? with
    | some (.lst ds) => some (n, ds)
    | _ => none
  | _ => none
theorem placeL_ok {K : PySem.W.Frag} {ρ : List Addr} {F H : Hp} {μ : Mu} {v : V} {d : D} {n : Nat} {ds : List D} (k : HpOk K ρ μ F H) (r : Dn K ρ F v d) (h : placeL μ d = some (n, ds)) : ∃ a vs, v = .ref a ∧ ρ[n]? = some a ∧ μ[n]? = some (.lst ds) ∧ F a = none ∧ H a = some (.lst vs) ∧ DnAll K ρ F vs ds := by
  unfold placeL at h
  split at h
  · rename_i m
    split at h
    · rename_i ds' em
      cases h
      cases r with
      | @loc a _ e =>
        obtain ⟨hf, vs, e1, e2⟩ := k.mu n a _ e em
        exact ⟨a, vs, rfl, e, em, hf, e1, e2⟩
    · cases h
  · cases h
def dAppend (o e : DE) : DE := fun Γ μ => (o Γ μ).bind fun x μ1 => match placeL μ1 x with
  | some _ => (e Γ μ1).bind fun d μ2 => match placeL μ2 x with
    | some (n, ds) => if ds.length < 1000000 then .ok .non (μ2.set n (.lst (ds ++ [d]))) else .stk
    | none => .stk
  | none => .stk
def dExtend (o e : DE) : DE := fun Γ μ => (o Γ μ).bind fun x μ1 => match placeL μ1 x with
  | some _ => (e Γ μ1).bind fun d μ2 => match placeL μ2 x, seqL μ2 d with
    | some (n, ds), some es => if ds.length + es.length ≤ 1000000 then .ok .non (μ2.set n (.lst (ds ++ es))) else .stk
    | _, _ => .stk
  | none => .stk
section
variable {X : Cx} {E : XK} {o e : Expr} {do_ de : DE} {apos cpos : Pos}
theorem q_append (ho : QE X E o do_) (he : QE X E e de)
    (hbase : attributeBase o "append" X.env (eval o X.env) = eval o X.env := by rfl)
    (hfew : ((backTo cpos (starEach (e :: []) X.env)).all (fun x => !x.1) && (backToKw cpos (keywordEach [] X.env)).all (fun x => x.1.isSome)
      && decide ((e :: []).length + ([] : List Keyword).length + (if ([] : List Keyword).isEmpty then 0 else 1) < 30)) = true := by rfl)
    (hline : (apos.endLine == cpos.line) = true := by rfl) (hs : starEach (e :: []) X.env = (false, eval e X.env) :: starEach [] X.env := by rfl) (hplain : (backTo cpos (starEach [] X.env)).any (·.1) = false := by rfl) :
    QE X E (.Call (.Attribute o "append" apos) [e] [] cpos) (dAppend do_ de) := by
  obtain ⟨to, o1, o2⟩ := ho.ex
  obtain ⟨te, e1, e2⟩ := he.ex
  refine ⟨_, pe_bm PySem.F.plainAttrs_list PySem.F.slot_list_append PySem.F.type_list_append mt_append o1 (pa_cons e1 pa_nil hs) hbase hfew hline hs hplain, ?_⟩
  intro ρ F H Γ μ σ k s Q h
  refine o2 ρ F H Γ μ σ k s _ ((WpR.bind h).mono (fun x μ1 q => ?_) fun _ _ q => q)
  intro ρ1 F1 H1 v n1 k1 r1
  split at q
  · rename_i nd hp
    obtain ⟨a, vs, rfl, _, _, _, hv, _⟩ := placeL_ok k1 r1 hp
    refine ⟨.inl ⟨rfl, vs, SqL.of hv⟩, ?_⟩
    refine e2 ρ1 F1 H1 Γ μ1 σ k1 (s.nx n1) _ ((WpR.bind q).mono (fun d μ2 q => ?_) fun _ _ q => XP.nx n1 q)
    intro ρ2 F2 H2 w n2 k2 r2
    split at q
    · rename_i n ds hp2
      split at q
      · rename_i hl
        obtain ⟨a', vs2, e3, er, em, hf, hv2, rv2⟩ := placeL_ok k2 (r1.nx n2) hp2
        cases e3
        have k3 := k2.write (o := .lst (vs2 ++ [w])) (m := .lst (ds ++ [d])) er hf ⟨hf, _, upd_same, rv2.append (.cons r2 .nil)⟩
        have n3 := Nx.write_ (o := .lst (vs2 ++ [w])) (F := F2) (H := H2) er hf (by rw [hv2]; exact Option.some_ne_none _)
        exact ⟨a, vs2, w, rfl, rfl, hv2, by rw [rv2.length]; exact lt_million hl, q ρ2 F2 _ _ ((n1.trans n2).trans n3) k3 .non⟩
      · exact False.elim q
    · exact False.elim q
  · exact False.elim q
/-! ### texts -/
theorem strs_dn {K : PySem.W.Frag} {ρ : List Addr} {F : Hp} : ∀ ns : List Str, DnAll K ρ F (ns.map V.str) (ns.map D.str)
  | [] => .nil
  | n :: ns => .cons (.str n) (strs_dn ns)
def isStr : D → Bool
  | .str _ => true
  | _ => false
def dStrM (f : Mu → D → D → Option D) (o e : DE) : DE := fun Γ μ => (o Γ μ).bind fun x μ1 => match isStr x with
  | true => (e Γ μ1).bind fun y μ2 => R.of μ2 (f μ2 x y)
  | false => .stk
def StrS (K : PySem.W.Frag) (r : V → List V → Hp → VK → Prop) (f : Mu → D → D → Option D) : Prop := ∀ (ρ : List Addr) (F H : Hp) (μ : Mu) (v w : V) (d e z : D), HpOk K ρ μ F H → Dn K ρ F v d → Dn K ρ F w e → f μ d e = some z → ∀ Q : VK, QV K ρ F H Q z μ → r v [w] H Q
theorem sim_m1 {K : PySem.W.Frag} {r : V → List V → Hp → VK → Prop} {f : Mu → D → D → Option D} {to te : TE} (hr : StrS K r f) (ho : SimE K E to do_) (he : SimE K E te de) : SimE K E (tM1 r to te) (dStrM f do_ de) := by
  intro ρ F H Γ μ σ k s Q h
  refine ho ρ F H Γ μ σ k s _ ((WpR.bind h).mono (fun x μ1 q => ?_) fun _ _ q => q)
  intro ρ1 F1 H1 v n1 k1 r1
  cases r1 with
  | str a =>
    refine ⟨⟨a, rfl⟩, ?_⟩
    refine he ρ1 F1 H1 Γ μ1 σ k1 (s.nx n1) _ ((WpR.bind (show WpR ((de Γ μ1).bind fun y μ2 => R.of μ2 (f μ2 (.str a) y)) _ _ from q)).mono (fun y μ2 q => ?_) fun _ _ q => XP.nx n1 q)
    intro ρ2 F2 H2 w n2 k2 r2
    obtain ⟨z, ez, q⟩ := q.of
    exact hr ρ2 F2 H2 μ2 _ w _ y z k2 (.str a) r2 ez Q (QV.nx (n1.trans n2) q)
  | _ => exact False.elim q
/-- s.split(sep) -/
def fSplit : Mu → D → D → Option D := fun _ x y => match x, y with
  | .str a, .str b => if b.length ≠ 0 ∧ a.length ≤ 1000000 then some (.lst ((Txt.split a b).map .str)) else none
  | _, _ => none
theorem q_split (ho : QE X E o do_) (he : QE X E e de) (hs : starEach [e] X.env = [(false, eval e X.env)] := by rfl) (hbase : attributeBase o "split" X.env (eval o X.env) = eval o X.env := by rfl) (hline : (apos.endLine == cpos.line) = true := by rfl) :
    QE X E (.Call (.Attribute o "split" apos) [e] [] cpos) (dStrM fSplit do_ de) := by
  obtain ⟨to, o1, o2⟩ := ho.ex
  obtain ⟨te, e1, e2⟩ := he.ex
  refine ⟨_, pe_split o1 e1 hs hbase hline, sim_m1 ?_ o2 e2⟩
  intro ρ F H μ v w d e z k rv rw' ez Q q
  unfold fSplit at ez
  split at ez
  · rename_i a b
    split at ez
    · rename_i hl
      cases ez
      cases rv
      cases rw'
      have := million
      refine ⟨a, b, rfl, rfl, by simp [hl.1], Nat.le_trans (show a.length + 2 ≤ 1000002 by omega) (by decide), fun p hp => ?_⟩
      obtain ⟨n2, k2, r2⟩ := new_lst k (strs_dn (Txt.split a b)) hp
      exact q _ _ _ _ n2 k2 r2
    · cases ez
  · cases ez
end
end Ar

set_option Elab.async false
set_option linter.all false
set_option maxRecDepth 100000
set_option maxHeartbeats 2000000
/-! Ar10: the head: a Hook with facts of one's own; the law's end -/
namespace Ar
open PySem PySem.Spec PyProof.Rows L2

def obsX (fa : List He.Fa) (fn : List He.DefD) (ex : PySem.W.Frag → Bool) (K : PySem.W.Frag) : He.AlD := (((fa.all fun f => f.ok K) && fn.all fun d => d.ok K) && ex K, fn.map fun d => He.fnW K d.at_)
def SaysX (fa : List He.Fa) (fn : List He.DefD) (ex : PySem.W.Frag → Bool) (K : PySem.W.Frag) : Prop := obsX fa fn ex K = He.valD fn
theorem SaysX.both {fa : List He.Fa} {fn : List He.DefD} {ex : PySem.W.Frag → Bool} {K : PySem.W.Frag} (c : SaysX fa fn ex K) : He.SaysD fa fn K ∧ ex K = true := by
  unfold SaysX obsX He.valD at c
  have c1 := congrArg (fun z : He.AlD => z.1) c
  have c2 := congrArg (fun z : He.AlD => z.2) c
  obtain ⟨c3, c4⟩ := He.ba c1
  exact ⟨Prod.ext c3 c2, c4⟩
/-- a module's name as data -/
structure GloC (K : PySem.W.Frag) (mg : Str → Option Value) (x : Str) (d : D) : Prop where
  ex : ∃ v u, mg x = some u ∧ RelV v u ∧ ∀ ρ F, Dn K ρ F v d
theorem GloC.v {X : Cx} {x : Str} {d : D} (h : GloC X.K X.mg x d) : GloV X x d := ⟨h.ex⟩
def dvD : He.Dv → Option D
  | .non => some .non
  | .bl b => some (.bl b)
  | .int i => some (.int i)
  | .str x => some (.str x)
  | .ty n => some (.ty n)
  | .glo x => some (.glo x)
  | _ => none
theorem dvD_ok {K : PySem.W.Frag} {x : He.Dv} {d : D} (h : dvD x = some d) (ρ : List Addr) (F : Hp) : Dn K ρ F (x.v K) d := by
  cases x with
  | non => cases h; exact .non
  | bl b => cases h; exact .bl b
  | int i => cases h; exact .int i
  | str x => cases h; exact .str x
  | ty n => cases h; exact .ty n
  | glo x => cases h; exact .glo x
  | byt b => cases h
  | flt b => cases h
  | adr p => cases h
def dvDs : List He.Dv → Option (List D)
  | [] => some []
  | x :: xs => match dvD x, dvDs xs with
    | some d, some ds => some (d :: ds)
    | _, _ => none
theorem dvDs_ok {K : PySem.W.Frag} (ρ : List Addr) (F : Hp) : ∀ {xs : List He.Dv} {ds : List D}, dvDs xs = some ds → DnAll K ρ F (xs.map (He.Dv.v K)) ds
  | [], _, h => by cases h; exact .nil
  | x :: xs, ds, h => by
    unfold dvDs at h
    split at h
    · rename_i d ds' e1 e2
      cases h
      exact .cons (dvD_ok e1 ρ F) (dvDs_ok ρ F e2)
    · cases h
theorem glo_tup {K : PySem.W.Frag} {h : Heap} {mg : Str → Option Value} {x : Str} {vs : List He.Dv} {ds : List D} (X : K.In h) (G : h.Ns mainGlobals mg) (c1 : (He.Fa.glo x).ok K = true) (c2 : He.tupB K x vs = true) (e : dvDs vs = some ds) : GloC K mg x (.tup ds) :=
  ⟨.ref (He.ga K x), .ref (He.ga K x), He.glo_ok X G c1, rfl, fun ρ F => .tup (He.tupB_ok c2 F) (dvDs_ok ρ F e)⟩
theorem glo_int {K : PySem.W.Frag} {h : Heap} {mg : Str → Option Value} {x : Str} {i : Int} (X : K.In h) (G : h.Ns mainGlobals mg) (c1 : (He.Fa.int x i).ok K = true) : GloC K mg x (.int i) := by
  obtain ⟨t, e⟩ := He.int_ok X G c1
  exact ⟨.int i, _, e, ⟨t, rfl⟩, fun ρ F => .int i⟩
theorem glo_str {K : PySem.W.Frag} {h : Heap} {mg : Str → Option Value} {x z : Str} (X : K.In h) (G : h.Ns mainGlobals mg) (c1 : (He.Fa.str x z).ok K = true) : GloC K mg x (.str z) := by
  obtain ⟨t, e⟩ := He.str_ok X G c1
  exact ⟨.str z, _, e, ⟨t, rfl⟩, fun ρ F => .str z⟩
/-- the law's last step: what the mirror says of the script -/
theorem law_end {K : PySem.W.Frag} {m : Fn} {n : Nat} (hm : ∀ ns : List Int, ns.length ≤ n → ∃ μ, m [.scr (ns.map .int)] [] = .ok (.bl true) μ) (H : Hp) (a : Addr) (ns : List Int) (hl : ns.length ≤ n) (hS : SqL K H a (ns.map V.int)) : spM K m [.ref a] H (fun v _ => v = .bl true) fun _ _ _ => False := by
  obtain ⟨μ, e⟩ := hm ns hl
  have hd : ∀ ns : List Int, DnAll K [] H (ns.map V.int) (ns.map D.int) := by
    intro ns
    induction ns with
    | nil => exact .nil
    | cons i ns ih => exact .cons (.int i) ih
  refine ⟨[], H, [], [.scr (ns.map .int)], ⟨Sub.refl _, rfl, List.nodup_nil, fun n a o e => by simp at e⟩, .cons (.scr hS (hd ns)) .nil, ?_⟩
  rw [e]
  intro ρ F H' v _ _ r
  cases r
  rfl
theorem cx_end {P : Program} {w : World} (H : Hp) (s : Shared) (e : Value) (s' : Shared) (h : L2.CX P w [] H s (fun _ _ _ => False) e s') : False := by
  obtain ⟨a, B, H', cls, d, _, _, _, _, _, _, _, z⟩ := h
  exact z
theorem walk {l : PySem.W.OpenLaw} {n k : Nat} {q : Program} {loose : List Str} {XP : (Str → Option Value) → Heap → Prop} {YP : World → Heap → Prop} {d : DefRec} {x : Str}
    (hn : l.most = some n) (hn2 : n ≤ sizeLine) (hdf : d.params.defaults = []) (hr : RoomG k callerA)
    (F : ∀ (w : World) (mg : Str → Option Value) (fa : Addr) (h : Heap), YP w h → h.Ns mainGlobals mg → mg d.name = some (.ref fa) →
      ∃ (K : PySem.W.Frag) (fd : FuncData) (m : Fn), K.In h ∧ (∀ (s : Shared) (u : Value), BindsTo s fd ⟨[u], []⟩ [(x, u)]) ∧
        (∀ ns : List Int, ns.length ≤ n → ∃ μ, m [.scr (ns.map .int)] [] = .ok (.bl true) μ) ∧
        ∀ base : Heap, K.In base → base.Ns mainGlobals mg → Pm l.prog w K mg base (L2.CX l.prog w) k fa fd [x] (spM K m)) :
    PySem.W.WalkO q loose XP YP l.row.toRowW d [] (fun f vs => PySem.call f vs) := by
  refine Att.attach_call hn hdf fun w s₀ s₁ mg mb fa o pm cd doc a vs ns G Y ho hd hcd hmg hobj hints hlen hg => ?_
  obtain ⟨K, fd, m, KX, hb, hm, hF⟩ := F w mg fa _ Y G.T.g hmg
  exact law_callG KX G.T.g G.T.b G.T.builtins G.T.nolimit hg hobj hints (Nat.le_trans hlen hn2) hr hF hb (fun H hO hS => law_end hm H a ns hlen hS) fun H e s' => cx_end H s₁ e s'
/-- FnG from the def's datum -/
theorem fng {P : Program} {w : World} {K : PySem.W.Frag} {mg : Str → Option Value} {base : Heap} {x qual : Str} {params : Arguments} {body : List Stmt} {scope : Scope} {f : Addr} {fd : FuncData} {ps : List Str} {k : Nat} {m : Fn} (F : FunD K x qual params body scope [] [] f fd) (g : mg x = some (.ref f))
    (hb : ∀ (kV doc pm : Value) (an : Option Addr) (cdv ct : Value) (us : List Value), us.length = ps.length → bindArgs (PySem.W.fnOf x qual params body scope Value.none kV doc pm an cdv ct) { pos := us } = pure (ps.zip us))
    (ok : Pm P w K mg base (L2.CX P w) k f fd ps (spM K m)) : FnG P w K mg base x k m := ⟨f, fd, ps, g, F.kp, F.bindsN hb, ok⟩
theorem fnk {P : Program} {w : World} {K : PySem.W.Frag} {mg : Str → Option Value} {base : Heap} {x qual : Str} {params : Arguments} {body : List Stmt} {scope : Scope} {f : Addr} {fd : FuncData} {ps : List Str} {k : Nat} {m : Fn} (F : FunD K x qual params body scope [] [] f fd) (g : mg x = some (.ref f)) (n : Nat) (ks : List Str) (pm : List Nat)
    (h : ∀ (kV doc pm' : Value) (an : Option Addr) (cdv ct : Value) (us ws : List Value), us.length = n → ws.length = ks.length → bindArgs (PySem.W.fnOf x qual params body scope .none kV doc pm' an cdv ct) ⟨us, ks.zip ws⟩ = pure (ps.zip (pick pm (us ++ ws))))
    (ok : Pm P w K mg base (L2.CX P w) k f fd ps (spM K m)) : FnK P w K mg base x k n ks pm m := ⟨f, fd, ps, g, F.kp, kbn_of F n ks pm h, ok⟩
theorem blk {N : List Str} {sc scope : Scope} {own : List (Str × Nat)} (h1 : scope.kind = ScopeKind.function) (h2 : (scope.names.all fun y => decide (List.lookup y.1 scope.names = some y.2)) = true) (h3 : (own.all fun p => decide (N[p.2]? = some p.1)) = true)
    (h4 : (scope.names.all fun y => !decide (y.2 = NameKind.free) || (decide (List.lookup y.1 sc.names = some NameKind.cell) || decide (List.lookup y.1 sc.names = some NameKind.free))) = true)
    (h5 : (scope.names.all fun y => !(decide (y.2 = NameKind.local) || decide (y.2 = NameKind.cell)) || ((own.map (·.1)).contains y.1 || !N.contains y.1)) = true) : BlkOk N sc scope own := by
  refine ⟨h1, fun y hy => of_decide_eq_true (List.all_eq_true.mp h2 y hy), fun p hp => of_decide_eq_true (List.all_eq_true.mp h3 p hp), fun y hy hf => ?_, fun y hy hf => ?_⟩
  · have := List.all_eq_true.mp h4 y hy
    simp only [hf, decide_true, Bool.not_true, Bool.false_or, Bool.or_eq_true, decide_eq_true_eq] at this
    exact this
  · have := List.all_eq_true.mp h5 y hy
    have e : (decide (y.2 = NameKind.local) || decide (y.2 = NameKind.cell)) = true := by
      rcases hf with h | h <;> simp [h]
    rw [e] at this
    simp only [Bool.not_true, Bool.false_or, Bool.or_eq_true, Bool.not_eq_true', List.contains_iff_mem] at this
    rcases this with h | h
    · exact .inl h
    · refine .inr fun z => ?_
      have : N.contains y.1 = true := by simpa using z
      rw [h] at this
      cases this
end Ar

set_option Elab.async false
set_option linter.all false
set_option maxRecDepth 100000
set_option maxHeartbeats 2000000
/-! Ar11: what a combinator gives: rules that rewrite -/
namespace Ar
open PySem PySem.Spec PyProof.Rows L2

/-- what is wished of an exception; nothing is let if nothing is said -/
class ExW where
  X : ExK → Mu → Prop
instance (priority := low) xp0 : ExW := ⟨fun _ _ => False⟩
def Ok [x : ExW] {α : Type} (r : R α) (Q : α → Mu → Prop) : Prop := match r with
  | .ok a μ => Q a μ
  | .exc e μ => x.X e μ
  | .stk => False
def OkO {α : Type} (o : Option α) (Q : α → Prop) : Prop := match o with
  | some a => Q a
  | none => False
def OkS [x : ExW] (r : RS) (N B C : Gam → Mu → Prop) (T : D → Mu → Prop) : Prop := match r with
  | .nx Γ μ => N Γ μ
  | .bk Γ μ => B Γ μ
  | .ct Γ μ => C Γ μ
  | .rt d μ => T d μ
  | .exc e μ => x.X e μ
  | .stk => False
def SetG (Γ : Gam) (i : Nat) (d : D) (P : Gam → Prop) : Prop := P (Γ.set i (some d))
theorem setg0 {x : Option D} {G : Gam} {d : D} {P : Gam → Prop} : SetG (x :: G) 0 d P = P (some d :: G) := rfl
theorem setgS {x : Option D} {G : Gam} {i : Nat} {d : D} {P : Gam → Prop} : SetG (x :: G) (i + 1) d P = SetG G i d fun G' => P (x :: G') := rfl
def UnsetG (Γ : Gam) (i : Nat) (P : Gam → Prop) : Prop := P (Γ.set i none)
theorem unsetg0 {x : Option D} {G : Gam} {P : Gam → Prop} : UnsetG (x :: G) 0 P = P (none :: G) := rfl
theorem unsetgS {x : Option D} {G : Gam} {i : Nat} {P : Gam → Prop} : UnsetG (x :: G) (i + 1) P = UnsetG G i fun G' => P (x :: G') := rfl
def WipeG (Γ : Gam) (vs : List Nat) (P : Gam → Prop) : Prop := P (wipeG Γ vs)
theorem wipeg0 {Γ : Gam} {P : Gam → Prop} : WipeG Γ [] P = P Γ := rfl
theorem wipegS {Γ : Gam} {v : Nat} {vs : List Nat} {P : Gam → Prop} : WipeG Γ (v :: vs) P = WipeG Γ vs fun G => UnsetG G v P := rfl
def InitG (ds : List D) (M : Nat) (P : Gam → Prop) : Prop := P (ds.map some ++ List.replicate (M - ds.length) none)
theorem initg0 {P : Gam → Prop} : InitG [] 0 P = P [] := rfl
theorem initgN {M : Nat} {P : Gam → Prop} : InitG [] (M + 1) P = InitG [] M fun G => P (none :: G) := rfl
theorem initgS {d : D} {ds : List D} {M : Nat} {P : Gam → Prop} : InitG (d :: ds) (M + 1) P = InitG ds M fun G => P (some d :: G) := by
  unfold InitG
  rw [List.map_cons, List.length_cons, Nat.add_sub_add_right, List.cons_append]
def LenIs {α : Type} (ds : List α) (n : Nat) (P : Prop) : Prop := ds.length = n ∧ P
theorem lenis0 {α : Type} {P : Prop} : LenIs ([] : List α) 0 P = P := by unfold LenIs; simp
theorem lenisS {α : Type} {d : α} {ds : List α} {n : Nat} {P : Prop} : LenIs (d :: ds) (n + 1) P = LenIs ds n P := by unfold LenIs; simp
def LenLe {α : Type} (ds : List α) (n : Nat) (P : Prop) : Prop := ds.length ≤ n ∧ P
theorem lenle0 {α : Type} {n : Nat} {P : Prop} : LenLe ([] : List α) n P = P := by unfold LenLe; simp
theorem lenleS {α : Type} {d : α} {ds : List α} {n : Nat} {P : Prop} : LenLe (d :: ds) (n + 1) P = LenLe ds n P := by unfold LenLe; simp
theorem Ok.mono [ExW] {α : Type} {r : R α} {Q Q' : α → Mu → Prop} (h : Ok r Q) (i : ∀ a μ, Q a μ → Q' a μ) : Ok r Q' := by
  cases r with
  | ok a μ => exact i _ _ h
  | _ => exact h
theorem OkS.mono [ExW] {r : RS} {N B C N' B' C' : Gam → Mu → Prop} {T T' : D → Mu → Prop} (h : OkS r N B C T) (hn : ∀ a μ, N a μ → N' a μ) (hb : ∀ a μ, B a μ → B' a μ) (hc : ∀ a μ, C a μ → C' a μ) (ht : ∀ a μ, T a μ → T' a μ) : OkS r N' B' C' T' := by
  cases r with
  | nx a μ => exact hn _ _ h
  | bk a μ => exact hb _ _ h
  | ct a μ => exact hc _ _ h
  | rt a μ => exact ht _ _ h
  | exc _ _ => exact h
  | stk => exact h
/-- where nothing is raised, nothing is wished of it -/
theorem Ok.up [x : ExW] {α : Type} {r : R α} {Q : α → Mu → Prop} (h : @Ok xp0 α r Q) : Ok r Q := by
  cases r with
  | ok a μ => exact h
  | exc e μ => exact False.elim h
  | stk => exact h
theorem OkS.up [x : ExW] {r : RS} {N B C : Gam → Mu → Prop} {T : D → Mu → Prop} (h : @OkS xp0 r N B C T) : OkS r N B C T := by
  cases r with
  | exc e μ => exact False.elim h
  | _ => exact h
section
variable [x_ : ExW] {α β : Type} {Γ : Gam} {μ : Mu} {Q : D → Mu → Prop} {QB : Bool → Mu → Prop} {QL : List D → Mu → Prop} {QG_ : Gam → Mu → Prop} {QO_ : Option Int → Mu → Prop} {N B C : Gam → Mu → Prop} {T : D → Mu → Prop}
theorem ok_ok {a : α} {P : α → Mu → Prop} : Ok (.ok a μ) P = P a μ := rfl
theorem ok_stk {P : α → Mu → Prop} : Ok (.stk : R α) P = False := rfl
theorem ok_exc {e : ExK} {P : α → Mu → Prop} : Ok (.exc e μ : R α) P = x_.X e μ := rfl
theorem ok_bind {r : R α} {f : α → Mu → R β} {P : β → Mu → Prop} : Ok (r.bind f) P = Ok r fun a μ1 => Ok (f a μ1) P := by cases r <;> rfl
theorem ok_nox {r : R α} {P : α → Mu → Prop} : Ok r.nox P = @Ok xp0 α r P := by cases r <;> rfl
theorem ok_of {o : Option α} {P : α → Mu → Prop} : Ok (R.of μ o) P = OkO o fun a => P a μ := by cases o <;> rfl
theorem oko_some {a : α} {P : α → Prop} : OkO (some a) P = P a := rfl
theorem oko_none {P : α → Prop} : OkO (none : Option α) P = False := rfl
theorem oko_ite {c : Prop} [Decidable c] {a : α} {P : α → Prop} : OkO (if c then some a else none) P = (c ∧ P a) := by
  by_cases h : c
  · rw [if_pos h]; exact propext ⟨fun z => ⟨h, z⟩, fun z => z.2⟩
  · rw [if_neg h]; exact propext ⟨fun z => False.elim z, fun z => h z.1⟩
theorem oko_map {f : α → β} {o : Option α} {P : β → Prop} : OkO (o.map f) P = OkO o fun a => P (f a) := by cases o <;> rfl
theorem ok_ite {c : Prop} [Decidable c] {r : R α} {P : α → Mu → Prop} : Ok (if c then r else .stk) P = (c ∧ Ok r P) := by
  by_cases h : c
  · rw [if_pos h]; exact propext ⟨fun z => ⟨h, z⟩, fun z => z.2⟩
  · rw [if_neg h]; exact propext ⟨fun z => False.elim z, fun z => h z.1⟩
theorem oks_nx : OkS (.nx Γ μ) N B C T = N Γ μ := rfl
theorem oks_stk : OkS .stk N B C T = False := rfl
theorem oks_exc {e : ExK} : OkS (.exc e μ) N B C T = x_.X e μ := rfl
theorem oks_bk : OkS (.bk Γ μ) N B C T = B Γ μ := rfl
theorem oks_ct : OkS (.ct Γ μ) N B C T = C Γ μ := rfl
theorem oks_rt {d : D} : OkS (.rt d μ) N B C T = T d μ := rfl
theorem oks_then {r : R α} {f : α → Mu → RS} : OkS (r.thenS f) N B C T = Ok r fun a μ1 => OkS (f a μ1) N B C T := by cases r <;> rfl
theorem oks_thenN {r : RS} {f : Gam → Mu → RS} : OkS (r.thenN f) N B C T = OkS r (fun Γ μ => OkS (f Γ μ) N B C T) B C T := by cases r <;> rfl
/-! expressions -/
theorem ok_var0 {d : D} {G : Gam} : Ok (dVar 0 (some d :: G) μ) Q = Q d μ := rfl
theorem ok_varS {i : Nat} {x : Option D} {G : Gam} : Ok (dVar (i + 1) (x :: G) μ) Q = Ok (dVar i G μ) Q := rfl
theorem ok_c {d : D} : Ok (dC d Γ μ) Q = Q d μ := rfl
theorem ok_bin {f : Mu → D → D → Option D} {a b : DE} : Ok (dBin f a b Γ μ) Q = Ok (a Γ μ) fun x μ1 => Ok (b Γ μ1) fun y μ2 => OkO (f μ2 x y) fun z => Q z μ2 := by
  unfold dBin; simp only [ok_bind, ok_of]
theorem ok_un {f : Mu → D → Option D} {a : DE} : Ok (dUn f a Γ μ) Q = Ok (a Γ μ) fun x μ1 => OkO (f μ1 x) fun z => Q z μ1 := by
  unfold dUn; simp only [ok_bind, ok_of]
def OkB (d : D) (P : Bool → Prop) : Prop := match d with
  | .bl b => P b
  | _ => False
theorem okb {b : Bool} {P : Bool → Prop} : OkB (.bl b) P = P b := rfl
theorem ok_test {a : DE} : Ok (dTest a Γ μ) QB = Ok (a Γ μ) fun x μ1 => OkB x fun b => QB b μ1 := by
  unfold dTest; rw [ok_bind]; congr 1; funext x μ1; cases x <;> rfl
theorem ok_tru {a : DE} : Ok (dTru a Γ μ) QB = Ok (a Γ μ) fun x μ1 => OkO (truD μ1 x) fun b => QB b μ1 := by
  unfold dTru; simp only [ok_bind, ok_of]
theorem ok_and {t u : DT} : Ok (dAnd t u Γ μ) QB = Ok (t Γ μ) fun c μ1 => if c = true then Ok (u Γ μ1) QB else QB false μ1 := by
  unfold dAnd; rw [ok_bind]; congr 1; funext c μ1; cases c <;> rfl
theorem ok_or {t u : DT} : Ok (dOr t u Γ μ) QB = Ok (t Γ μ) fun c μ1 => if c = true then QB true μ1 else Ok (u Γ μ1) QB := by
  unfold dOr; rw [ok_bind]; congr 1; funext c μ1; cases c <;> rfl
theorem ok_not {t : DT} : Ok (dNot t Γ μ) QB = Ok (t Γ μ) fun c μ1 => QB (!c) μ1 := by
  unfold dNot; simp only [ok_bind, ok_ok]
theorem ok_andV {x y : DE} : Ok (dAndV x y Γ μ) Q = Ok (x Γ μ) fun c μ1 => OkB c fun b => if b = true then Ok (y Γ μ1) Q else Q (.bl false) μ1 := by
  unfold dAndV; rw [ok_bind]; congr 1; funext c μ1
  cases c with
  | bl b => cases b <;> rfl
  | _ => rfl
theorem ok_orV {x y : DE} : Ok (dOrV x y Γ μ) Q = Ok (x Γ μ) fun c μ1 => OkB c fun b => if b = true then Q (.bl true) μ1 else Ok (y Γ μ1) Q := by
  unfold dOrV; rw [ok_bind]; congr 1; funext c μ1
  cases c with
  | bl b => cases b <;> rfl
  | _ => rfl
theorem ok_notV {x : DE} : Ok (dNotV x Γ μ) Q = Ok (x Γ μ) fun c μ1 => OkB c fun b => Q (.bl (!b)) μ1 := by
  unfold dNotV; rw [ok_bind]; congr 1; funext c μ1
  cases c with
  | bl b => cases b <;> rfl
  | _ => rfl
theorem ok_if {t : DT} {x y : DE} : Ok (dIf t x y Γ μ) Q = Ok (t Γ μ) fun c μ1 => if c = true then Ok (x Γ μ1) Q else Ok (y Γ μ1) Q := by
  unfold dIf; rw [ok_bind]; congr 1; funext c μ1; cases c <;> rfl
theorem ok_nil : Ok (daNil Γ μ) QL = QL [] μ := rfl
theorem ok_cons {e : DE} {r : DA} : Ok (daCons e r Γ μ) QL = Ok (e Γ μ) fun x μ1 => Ok (r Γ μ1) fun xs μ2 => QL (x :: xs) μ2 := by
  unfold daCons; simp only [ok_bind, ok_ok]
theorem ok_tup {a : DA} : Ok (dTup a Γ μ) Q = Ok (a Γ μ) fun xs μ1 => LenLe xs 1000000 (Q (.tup xs) μ1) := by
  unfold dTup LenLe; simp only [ok_bind, ok_ite, ok_ok]
theorem ok_lst {a : DA} : Ok (dLst a Γ μ) Q = Ok (a Γ μ) fun xs μ1 => LenLe xs 1000000 (Q (.lst xs) μ1) := by
  unfold dLst LenLe; simp only [ok_bind, ok_ite, ok_ok]
theorem ok_lstM {a : DA} : Ok (dLstM a Γ μ) Q = Ok (a Γ μ) fun xs μ1 => LenLe xs 1000000 (Q (.loc μ1.length) (μ1 ++ [.lst xs])) := by
  unfold dLstM LenLe; simp only [ok_bind, ok_ite, ok_ok]
theorem ok_fn {f : Mu → List D → Option D} {a : DA} : Ok (dFn f a Γ μ) Q = Ok (a Γ μ) fun ds μ1 => OkO (f μ1 ds) fun z => Q z μ1 := by
  unfold dFn; simp only [ok_bind, ok_of]
theorem ok_call {m : Fn} {a : DA} : Ok (dCall m a Γ μ) Q = Ok (a Γ μ) fun ds μ1 => Ok (m ds μ1) Q := by
  unfold dCall; simp only [ok_bind]
theorem ok_callK {n m : Nat} {pm : List Nat} {f : Fn} {a k : DA} : Ok (dCallK n m pm f a k Γ μ) Q = Ok (a Γ μ) fun xs μ1 => Ok (k Γ μ1) fun zs μ2 => LenIs xs n (LenIs zs m (Ok (f (pick pm (xs ++ zs)) μ2) Q)) := by
  unfold dCallK LenIs; simp only [ok_bind, ok_ite, and_assoc]
theorem ok_noPart : Ok (dNoPart Γ μ) QO_ = QO_ none μ := rfl
def OkI (d : D) (P : Int → Prop) : Prop := match d with
  | .int b => P b
  | _ => False
theorem oki {i : Int} {P : Int → Prop} : OkI (.int i) P = P i := rfl
theorem ok_part {a : DE} : Ok (dPart a Γ μ) QO_ = Ok (a Γ μ) fun x μ1 => OkI x fun i => QO_ (some i) μ1 := by
  unfold dPart; rw [ok_bind]; congr 1; funext x μ1; cases x <;> rfl
theorem ok_sl {a : DE} {l h : DO} : Ok (dSl a l h Γ μ) Q = Ok (a Γ μ) fun x μ1 => Ok (l Γ μ1) fun lo μ2 => Ok (h Γ μ2) fun hi μ3 => OkO (fSl μ3 x lo hi) fun z => Q z μ3 := by
  unfold dSl; simp only [ok_bind, ok_of]
/-! statements -/
theorem oks_next : OkS (dsNext Γ μ) N B C T = N Γ μ := rfl
theorem oks_seq {s t : DS} : OkS (dSeq s t Γ μ) N B C T = OkS (s Γ μ) (fun Γ μ => OkS (t Γ μ) N B C T) B C T := by unfold dSeq; rw [oks_thenN]
theorem oks_drop {e : DE} : OkS (dDrop e Γ μ) N B C T = Ok (e Γ μ) fun _ μ1 => N Γ μ1 := by unfold dDrop; simp only [oks_then, oks_nx]
theorem oks_ret {e : DE} : OkS (dRet e Γ μ) N B C T = Ok (e Γ μ) T := by unfold dRet; simp only [oks_then, oks_rt]
theorem oks_retN : OkS (dRetN Γ μ) N B C T = T .non μ := rfl
theorem oks_break : OkS (dBreak Γ μ) N B C T = B Γ μ := rfl
theorem oks_cont : OkS (dCont Γ μ) N B C T = C Γ μ := rfl
theorem oks_never : OkS (dNever Γ μ) N B C T = False := rfl
theorem oks_if {c : DT} {s t : DS} : OkS (dIfS c s t Γ μ) N B C T = Ok (c Γ μ) fun b μ1 => if b = true then OkS (s Γ μ1) N B C T else OkS (t Γ μ1) N B C T := by
  unfold dIfS; rw [oks_then]; congr 1; funext b μ1; cases b <;> rfl
theorem oks_asg {e : DE} {g : DG} : OkS (dAsg e g Γ μ) N B C T = Ok (e Γ μ) fun d μ1 => Ok (g d Γ μ1) N := by unfold dAsg; simp only [oks_then, oks_nx]
theorem oks_set {i : Nat} {e : DE} : OkS (dSet i e Γ μ) N B C T = Ok (e Γ μ) fun d μ1 => SetG Γ i d fun G => N G μ1 := by unfold dSet SetG; simp only [oks_then, oks_nx]
theorem ok_gName {i : Nat} {d : D} : Ok (dgName i d Γ μ) N = SetG Γ i d fun G => N G μ := rfl
theorem ok_gNil : Ok (dgNil [] Γ μ) N = N Γ μ := rfl
theorem ok_gCons {g : DG} {gs : DGs} {d : D} {r : List D} : Ok (dgCons g gs (d :: r) Γ μ) N = Ok (g d Γ μ) fun Γ1 μ1 => Ok (gs r Γ1 μ1) N := by unfold dgCons; simp only [ok_bind]
theorem ok_gTup {n : Nat} {gs : DGs} {ds : List D} : Ok (dgTup n gs (.tup ds) Γ μ) N = LenIs ds n (Ok (gs ds Γ μ) N) := by unfold dgTup LenIs; simp only [ok_ite]
theorem ok_gSub {o i : DE} {d : D} : Ok (dgSub o i d Γ μ) N = Ok (o Γ μ) fun x μ1 => Ok (i Γ μ1) fun y μ2 => OkO (placeL μ2 x) fun p => OkI y fun j => OkO (ixN p.2.length j) fun m => N Γ (μ2.set p.1 (.lst (p.2.set m d))) := by
  unfold dgSub; simp only [ok_bind]
  congr 1; funext x μ1; congr 1; funext y μ2
  unfold placeL
  split
  · rename_i n j
    cases h : μ2[n]? with
    | none => simp [ok_stk, OkO, h]
    | some o =>
      cases o with
      | lst ds =>
        simp only [h, oko_some, oki]
        cases ixN ds.length j <;> rfl
      | _ => simp [ok_stk, OkO, h]
  · rename_i hx
    rw [ok_stk]
    cases x with
    | loc n =>
      cases y with
      | int j => exact absurd rfl (hx n j rfl)
      | _ =>
        cases h : μ2[n]? with
        | none => simp [OkO, h]
        | some o => cases o <;> simp [OkO, OkI, h]
    | _ => rfl
def OkL2 (ds : List D) (P : D → D → Prop) : Prop := match ds with
  | [x, y] => P x y
  | _ => False
def OkL3 (ds : List D) (P : D → D → D → Prop) : Prop := match ds with
  | [x, y, z] => P x y z
  | _ => False
theorem okl2 {x y : D} {P : D → D → Prop} : OkL2 [x, y] P = P x y := rfl
theorem okl3 {x y z : D} {P : D → D → D → Prop} : OkL3 [x, y, z] P = P x y z := rfl
theorem oks_par {i j : Nat} {a : DA} : OkS (dPar i j a Γ μ) N B C T = Ok (a Γ μ) fun ds μ1 => OkL2 ds fun x y => SetG Γ i x fun G => SetG G j y fun G => N G μ1 := by
  unfold dPar; rw [oks_then]; congr 1; funext ds μ1
  rcases ds with _ | ⟨x, _ | ⟨y, _ | ⟨z, r⟩⟩⟩ <;> rfl
theorem oks_par3 {i j l : Nat} {a : DA} : OkS (dPar3 i j l a Γ μ) N B C T = Ok (a Γ μ) fun ds μ1 => OkL3 ds fun x y z => SetG Γ i x fun G => SetG G j y fun G => SetG G l z fun G => N G μ1 := by
  unfold dPar3; rw [oks_then]; congr 1; funext ds μ1
  rcases ds with _ | ⟨x, _ | ⟨y, _ | ⟨z, _ | ⟨u, r⟩⟩⟩⟩ <;> rfl
def OkV (Γ : Gam) (i : Nat) (P : D → Prop) : Prop := match Γ[i]? with
  | some (some x) => P x
  | _ => False
theorem okv0 {d : D} {G : Gam} {P : D → Prop} : OkV (some d :: G) 0 P = P d := rfl
theorem okvS {x : Option D} {G : Gam} {i : Nat} {P : D → Prop} : OkV (x :: G) (i + 1) P = OkV G i P := rfl
theorem oks_aug {i : Nat} {f : Mu → D → D → Option D} {a : DE} : OkS (dAug i f a Γ μ) N B C T = OkV Γ i fun x => Ok (a Γ μ) fun y μ1 => OkO (f μ1 x y) fun z => SetG Γ i z fun G => N G μ1 := by
  unfold dAug OkV SetG
  cases h : Γ[i]? with
  | none => rfl
  | some o => cases o <;> simp only [oks_then, ok_of, oks_nx, oks_stk]
theorem ok_append {o e : DE} : Ok (dAppend o e Γ μ) Q = Ok (o Γ μ) fun x μ1 => OkO (placeL μ1 x) fun _ => Ok (e Γ μ1) fun d μ2 => OkO (placeL μ2 x) fun p => p.2.length < 1000000 ∧ Q .non (μ2.set p.1 (.lst (p.2 ++ [d]))) := by
  unfold dAppend; rw [ok_bind]; congr 1; funext x μ1
  cases placeL μ1 x with
  | none => rfl
  | some p =>
    simp only [ok_bind, oko_some]
    congr 1; funext d μ2
    cases placeL μ2 x with
    | none => rfl
    | some p => simp only [ok_ite, ok_ok, oko_some]
theorem ok_strM {f : Mu → D → D → Option D} {o e : DE} : Ok (dStrM f o e Γ μ) Q = Ok (o Γ μ) fun x μ1 => (isStr x = true ∧ Ok (e Γ μ1) fun y μ2 => OkO (f μ2 x y) fun z => Q z μ2) := by
  unfold dStrM; rw [ok_bind]; congr 1; funext x μ1
  cases isStr x with
  | true => simp only [ok_bind, ok_of, true_and]
  | false => simp [ok_stk]
/-! defs -/
theorem ok_def {n M : Nat} {b : DS} {ds : List D} : Ok (dDef n M b ds μ) Q = LenIs ds n (InitG ds M fun G => OkS (b G μ) (fun _ μ => Q .non μ) (fun _ _ => False) (fun _ _ => False) Q) := by
  unfold dDef LenIs InitG; rw [ok_ite]; congr 1
  show Ok (b (ds.map some ++ List.replicate (M - ds.length) none) μ).fin Q = OkS (b (ds.map some ++ List.replicate (M - ds.length) none) μ) _ _ _ _
  generalize b (ds.map some ++ List.replicate (M - ds.length) none) μ = r
  cases r <;> rfl
/-! walks -/
theorem ok_iSeq {e : DE} : Ok (diSeq e Γ μ) QL = Ok (e Γ μ) fun d μ1 => Ok (seqI d μ1) QL := by unfold diSeq; rw [ok_bind]
def OkI1 (ds : List D) (P : Int → Prop) : Prop := match ds with
  | [.int j] => P j
  | _ => False
def OkI2 (ds : List D) (P : Int → Int → Prop) : Prop := match ds with
  | [.int i, .int j] => P i j
  | _ => False
theorem oki1 {i : Int} {P : Int → Prop} : OkI1 [.int i] P = P i := rfl
theorem oki2 {i j : Int} {P : Int → Int → Prop} : OkI2 [.int i, .int j] P = P i j := rfl
theorem ok_range1 {a : DA} : Ok (diRange1 a Γ μ) QL = Ok (a Γ μ) fun ds μ1 => OkI1 ds fun j => j.natAbs < 2 ^ 61 ∧ QL (rngD 0 j.toNat) μ1 := by
  unfold diRange1; rw [ok_bind]; congr 1; funext ds μ1
  rcases ds with _ | ⟨x, _ | ⟨y, r⟩⟩
  · rfl
  · cases x <;> first | rfl | exact ok_ite
  · cases x <;> rfl
theorem ok_range2 {a : DA} : Ok (diRange2 a Γ μ) QL = Ok (a Γ μ) fun ds μ1 => OkI2 ds fun i j => (i.natAbs < 2 ^ 61 ∧ j.natAbs < 2 ^ 61) ∧ QL (rngD i (j - i).toNat) μ1 := by
  unfold diRange2; rw [ok_bind]; congr 1; funext ds μ1
  rcases ds with _ | ⟨x, _ | ⟨y, _ | ⟨z, r⟩⟩⟩
  · rfl
  · cases x <;> rfl
  · cases x <;> cases y <;> first | rfl | exact ok_ite
  · cases x <;> cases y <;> rfl
def OkL1 (ds : List D) (P : D → Prop) : Prop := match ds with
  | [x] => P x
  | _ => False
theorem okl1 {x : D} {P : D → Prop} : OkL1 [x] P = P x := rfl
theorem ok_enum {a : DA} : Ok (diEnum a Γ μ) QL = Ok (a Γ μ) fun xs μ1 => OkL1 xs fun x => Ok (seqIE x μ1) fun ds μ2 => QL (enumD 0 ds) μ2 := by
  unfold diEnum; rw [ok_bind]; congr 1; funext ds μ1
  rcases ds with _ | ⟨x, _ | ⟨y, r⟩⟩
  · rfl
  · show Ok ((seqIE x μ1).bind _) _ = _
    rw [ok_bind]; rfl
  · rfl
theorem oks_for {i : DA} {g : DG} {b : DS} : OkS (dFor i g b Γ μ) N B C T = Ok (i Γ μ) fun ds μ1 => OkS (forL g b ds Γ μ1) N B C T := by unfold dFor; rw [oks_then]
theorem oks_forNil {g : DG} {b : DS} : OkS (forL g b [] Γ μ) N B C T = N Γ μ := rfl
theorem oks_forCons {g : DG} {b : DS} {d : D} {ds : List D} : OkS (forL g b (d :: ds) Γ μ) N B C T = Ok (g d Γ μ) fun Γ1 μ1 => OkS (b Γ1 μ1) (fun Γ2 μ2 => OkS (forL g b ds Γ2 μ2) N B C T) N (fun Γ2 μ2 => OkS (forL g b ds Γ2 μ2) N B C T) T := by
  rw [forL, oks_then]; congr 1; funext Γ1 μ1
  cases b Γ1 μ1 <;> rfl
/-- a loop by what stands before each item -/
theorem oks_forInv {g : DG} {b : DS} (I : List D → List D → Gam → Mu → Prop) : ∀ (ds pre : List D) (Γ : Gam) (μ : Mu), I pre ds Γ μ → (∀ pre d ds Γ μ, I pre (d :: ds) Γ μ → Ok (g d Γ μ) fun Γ1 μ1 => OkS (b Γ1 μ1) (I (pre ++ [d]) ds) N (I (pre ++ [d]) ds) T) → (∀ pre Γ μ, I pre [] Γ μ → N Γ μ) → OkS (forL g b ds Γ μ) N B C T
  | [], pre, Γ, μ, h, _, h2 => h2 pre Γ μ h
  | d :: ds, pre, Γ, μ, h, h1, h2 => by
    rw [oks_forCons]
    exact (h1 pre d ds Γ μ h).mono fun Γ1 μ1 q => q.mono (fun Γ2 μ2 q => oks_forInv I ds (pre ++ [d]) Γ2 μ2 q h1 h2) (fun _ _ q => q) (fun Γ2 μ2 q => oks_forInv I ds (pre ++ [d]) Γ2 μ2 q h1 h2) fun _ _ q => q
theorem lc_nx {g : DG} {t : DT} {e : DE} {P : List D → Mu → Prop} : ∀ (ds : List D) (Γ : Gam) (μ : Mu), Ok (lcL g t e Γ ds μ) P = @Ok xp0 _ (lcL g t e Γ ds μ) P
  | [], _, _ => rfl
  | d :: ds, Γ, μ => by
    have no : ∀ (ds : List D) (Γ : Gam) (μ : Mu) (z : ExK) (ν : Mu), lcL g t e Γ ds μ ≠ .exc z ν := by
      intro ds
      induction ds with
      | nil => intro Γ μ z ν h; cases h
      | cons d ds ih =>
        intro Γ μ z ν h
        rw [lcL] at h
        cases h1 : (g d Γ μ) with
        | ok Γ1 μ1 =>
          rw [h1] at h
          simp only [R.nox, R.bind] at h
          cases h2 : (t Γ1 μ1) with
          | ok b μ2 =>
            rw [h2] at h
            simp only [R.nox, R.bind] at h
            cases b with
            | true =>
              cases h3 : (e Γ1 μ2) with
              | ok y μ3 =>
                simp only [h3, R.nox, R.bind] at h
                cases h4 : lcL g t e Γ ds μ3 with
                | ok ys μ4 => rw [h4] at h; cases h
                | exc a b => exact ih _ _ _ _ h4
                | stk => rw [h4] at h; cases h
              | exc a b => simp only [h3, R.nox, R.bind] at h; cases h
              | stk => simp only [h3, R.nox, R.bind] at h; cases h
            | false => exact ih _ _ _ _ h
          | exc a b => rw [h2] at h; cases h
          | stk => rw [h2] at h; cases h
        | exc a b => rw [h1] at h; cases h
        | stk => rw [h1] at h; cases h
    cases h : lcL g t e Γ (d :: ds) μ with
    | ok a μ => rfl
    | exc a b => exact absurd h (no _ _ _ _ _)
    | stk => rfl
theorem ok_lc {fin : List D → Mu → R D} {vs : List Nat} {i : DA} {g : DG} {t : DT} {e : DE} : Ok (dLcF fin vs i g t e Γ μ) Q = Ok (i Γ μ) fun ds μ1 => LenLe ds 1000000 (WipeG Γ vs fun G => @Ok xp0 _ (lcL g t e G ds μ1) fun ys μ2 => Ok (fin ys μ2) Q) := by
  unfold dLcF LenLe WipeG; simp only [ok_bind, ok_ite]
  congr 1; funext a μ1; rw [lc_nx]
theorem ok_finL {ys : List D} : Ok (finL ys μ) Q = Q (.lst ys) μ := rfl
theorem ok_finM {ys : List D} : Ok (finM ys μ) Q = Q (.loc μ.length) (μ ++ [.lst ys]) := rfl
end
section
variable {α β : Type} {Γ : Gam} {μ : Mu} {Q : D → Mu → Prop} {QB : Bool → Mu → Prop} {QL : List D → Mu → Prop} {QG_ : Gam → Mu → Prop} {QO_ : Option Int → Mu → Prop} {N B C : Gam → Mu → Prop} {T : D → Mu → Prop}
theorem ok_lcNil {g : DG} {t : DT} {e : DE} : Ok (lcL g t e Γ [] μ) QL = QL [] μ := rfl
theorem ok_lcCons {g : DG} {t : DT} {e : DE} {d : D} {ds : List D} : Ok (lcL g t e Γ (d :: ds) μ) QL = Ok (g d Γ μ) fun Γ1 μ1 => Ok (t Γ1 μ1) fun b μ2 => if b = true then Ok (e Γ1 μ2) fun y μ3 => Ok (lcL g t e Γ ds μ3) fun ys μ4 => QL (y :: ys) μ4 else Ok (lcL g t e Γ ds μ2) QL := by
  rw [lcL]; simp only [ok_bind, ok_nox]
  congr 1; funext Γ1 μ1; congr 1; funext b μ2
  cases b <;> simp only [ok_bind, ok_nox, ok_ok, if_true, if_false, Bool.false_eq_true]
theorem ok_lcConsY {g : DG} {e : DE} {d : D} {ds : List D} : Ok (lcL g dYes e Γ (d :: ds) μ) QL = Ok (g d Γ μ) fun Γ1 μ1 => Ok (e Γ1 μ1) fun y μ3 => Ok (lcL g dYes e Γ ds μ3) fun ys μ4 => QL (y :: ys) μ4 := by
  rw [ok_lcCons]; rfl
theorem ok_yes {QB : Bool → Mu → Prop} : Ok (dYes Γ μ) QB = QB true μ := rfl
/-- a comprehension with no if, by what stands -/
theorem ok_lcInv {g : DG} {e : DE} (I : List D → List D → Mu → Prop) : ∀ (ds acc : List D) (μ : Mu), I acc ds μ → (∀ acc d ds μ, I acc (d :: ds) μ → Ok (g d Γ μ) fun Γ1 μ1 => Ok (e Γ1 μ1) fun y μ2 => I (acc ++ [y]) ds μ2) → Ok (lcL g dYes e Γ ds μ) fun ys μ2 => I (acc ++ ys) [] μ2
  | [], acc, μ, h, _ => by rw [ok_lcNil, List.append_nil]; exact h
  | d :: ds, acc, μ, h, h1 => by
    rw [ok_lcCons]
    refine (h1 acc d ds μ h).mono fun Γ1 μ1 q => ?_
    rw [ok_yes, if_pos rfl]
    refine q.mono fun y μ2 q => ?_
    refine (ok_lcInv I ds (acc ++ [y]) μ2 q h1).mono fun ys μ3 q => ?_
    rw [List.append_assoc] at q
    exact q
theorem ok_end {r : R D} (h : Ok r fun d _ => d = .bl true) : ∃ μ, r = .ok (.bl true) μ := by
  cases r with
  | ok d μ =>
    have h : d = .bl true := h
    exact ⟨μ, by rw [h]⟩
  | _ => exact False.elim h
end
end Ar

set_option Elab.async false
set_option linter.all false
set_option maxRecDepth 100000
set_option maxHeartbeats 2000000
/-! Ar12: small facts of the mirror's data -/
namespace Ar
open PySem PySem.Spec PyProof.Rows L2

theorem fix_loc {μ : Mu} {n : Nat} {ds : List D} {i : Int} (h : μ[n]? = some (.lst ds)) : fIx μ (.loc n) (.int i) = L2.atI ds i := by
  show (match seqA μ (.loc n) with | some ds => L2.atI ds i | none => none) = _
  unfold seqA seqL
  simp only [h]
theorem place_loc {μ : Mu} {n : Nat} {ds : List D} (h : μ[n]? = some (.lst ds)) : placeL μ (.loc n) = some (n, ds) := by
  unfold placeL
  simp only [h]
theorem atI_0 {α : Type} {a : α} {r : List α} : L2.atI (a :: r) 0 = some a := by
  unfold L2.atI ixN; rw [if_pos (by decide), if_pos (by simp only [List.length_cons]; omega)]; rfl
theorem atI_1 {α : Type} {a b : α} {r : List α} : L2.atI (a :: b :: r) 1 = some b := by
  unfold L2.atI ixN; rw [if_pos (by decide), if_pos (by simp only [List.length_cons]; omega)]; rfl
theorem atI_2 {α : Type} {a b c : α} {r : List α} : L2.atI (a :: b :: c :: r) 2 = some c := by
  unfold L2.atI ixN; rw [if_pos (by decide), if_pos (by simp only [List.length_cons]; omega)]; rfl
theorem atI_3 {α : Type} {a b c d : α} {r : List α} : L2.atI (a :: b :: c :: d :: r) 3 = some d := by
  unfold L2.atI ixN; rw [if_pos (by decide), if_pos (by simp only [List.length_cons]; omega)]; rfl
theorem atI_4 {α : Type} {a b c d e : α} {r : List α} : L2.atI (a :: b :: c :: d :: e :: r) 4 = some e := by
  unfold L2.atI ixN; rw [if_pos (by decide), if_pos (by simp only [List.length_cons]; omega)]; rfl
theorem atI_5 {α : Type} {a b c d e f : α} {r : List α} : L2.atI (a :: b :: c :: d :: e :: f :: r) 5 = some f := by
  unfold L2.atI ixN; rw [if_pos (by decide), if_pos (by simp only [List.length_cons]; omega)]; rfl
theorem atI_nat {α : Type} {xs : List α} {k : Nat} : L2.atI xs (k : Int) = xs[k]? := by
  unfold L2.atI ixN
  rw [if_pos (by omega)]
  by_cases h : k < xs.length
  · rw [if_pos (by omega)]; rfl
  · rw [if_neg (by omega), List.getElem?_eq_none (by omega)]; rfl
theorem atI_map {xs : List D} {i : Int} (h0 : 0 ≤ i) (h1 : i < xs.length) : ∃ x, L2.atI xs i = some x ∧ x ∈ xs := by
  obtain ⟨k, rfl⟩ := Int.eq_ofNat_of_zero_le h0
  rw [atI_nat]
  exact ⟨xs[k]'(by omega), List.getElem?_eq_getElem _, List.getElem_mem _⟩
theorem pow_6 {μ : Mu} : fPowI μ (.int 10) (.int 6) = some (.int 1000000) := by
  have h : powOk 10 6 = true := by decide
  show (if powOk 10 6 = true then some (D.int (10 ^ (6 : Int).toNat)) else none) = _
  rw [if_pos h]; rfl
theorem pow_18 {μ : Mu} : fPowI μ (.int 10) (.int 18) = some (.int 1000000000000000000) := by
  have h : powOk 10 18 = true := by decide
  show (if powOk 10 18 = true then some (D.int (10 ^ (18 : Int).toNat)) else none) = _
  rw [if_pos h]; rfl
theorem mul_l {i j : Int} (h : i.natAbs < 2 ^ 64) : mulOk i j = true := by
  unfold mulOk
  rw [show Nat.blt i.natAbs (2 ^ 64) = true from Nat.ble_eq_true_of_le h]; rfl
theorem mul_r {i j : Int} (h : j.natAbs < 2 ^ 64) : mulOk i j = true := by
  unfold mulOk
  rw [show Nat.blt j.natAbs (2 ^ 64) = true from Nat.ble_eq_true_of_le h, Bool.or_true]; rfl
theorem mul_small {i j : Int} (hi : i.natAbs < 2 ^ 200000) (hj : j.natAbs < 2 ^ 200000) : mulOk i j = true := by
  unfold mulOk
  rw [show Nat.blt (i.natAbs.log2 + j.natAbs.log2) 1000000 = true from ?_, Bool.or_true]
  have lg : ∀ n : Nat, n < 2 ^ 200000 → n.log2 < 200000 := fun n h => by
    by_cases hn : n = 0
    · subst hn; rw [Nat.log2_zero]; omega
    · exact (Nat.log2_lt hn).mpr h
  have h1 := lg _ hi
  have h2 := lg _ hj
  exact Nat.ble_eq_true_of_le (show i.natAbs.log2 + j.natAbs.log2 < 1000000 by omega)
/-- others are as they were -/
structure Gr (n : Nat) (μ μ' : Mu) : Prop where
  len : μ.length ≤ μ'.length
  at_ : ∀ j o, j ≠ n → μ[j]? = some o → μ'[j]? = some o
theorem Gr.refl {n : Nat} {μ : Mu} : Gr n μ μ := ⟨Nat.le_refl _, fun _ _ _ h => h⟩
theorem Gr.trans {n : Nat} {μ μ' μ'' : Mu} (a : Gr n μ μ') (b : Gr n μ' μ'') : Gr n μ μ'' := ⟨Nat.le_trans a.len b.len, fun j o h e => b.at_ j o h (a.at_ j o h e)⟩
theorem Gr.set {n : Nat} {μ : Mu} {o : MO} : Gr n μ (μ.set n o) := ⟨by simp, fun j o h e => by rw [List.getElem?_set_ne (Ne.symm h)]; exact e⟩
theorem Gr.app {n : Nat} {μ : Mu} {o : MO} : Gr n μ (μ ++ [o]) := ⟨by simp, fun j o h e => by rw [List.getElem?_append_left (List.getElem?_eq_some_iff.mp e).1]; exact e⟩
theorem app_new {μ : Mu} {o : MO} : (μ ++ [o])[μ.length]? = some o := by simp
theorem app_old {μ : Mu} {o : MO} {n : Nat} {x : MO} (h : μ[n]? = some x) : (μ ++ [o])[n]? = some x := by
  rw [List.getElem?_append_left (List.getElem?_eq_some_iff.mp h).1]; exact h
theorem set_new {μ : Mu} {n : Nat} {x o : MO} (h : μ[n]? = some x) : (μ.set n o)[n]? = some o := List.getElem?_set_self (List.getElem?_eq_some_iff.mp h).1
/-- the well of a drawing -/
def Wl (n : Nat) (μ : Mu) : Prop := ∃ a b c : Int, 0 ≤ a ∧ 0 ≤ b ∧ b < 2147483399 ∧ μ[n]? = some (.lst [.int a, .int b, .int c])
theorem Wl.lt {n : Nat} {μ : Mu} (h : Wl n μ) : n < μ.length := by
  obtain ⟨a, b, c, _, _, _, e⟩ := h
  exact (List.getElem?_eq_some_iff.mp e).1
theorem Wl.app {n : Nat} {μ : Mu} {o : MO} (h : Wl n μ) : Wl n (μ ++ [o]) := by
  obtain ⟨a, b, c, h1, h2, h3, e⟩ := h
  exact ⟨a, b, c, h1, h2, h3, app_old e⟩
theorem Wl.set {n m : Nat} {μ : Mu} {o : MO} (h : Wl n μ) (hm : m ≠ n) : Wl n (μ.set m o) := by
  obtain ⟨a, b, c, h1, h2, h3, e⟩ := h
  exact ⟨a, b, c, h1, h2, h3, by rw [List.getElem?_set_ne hm]; exact e⟩
theorem add_ii {μ : Mu} {i j : Int} : fAdd μ (.int i) (.int j) = some (.int (i + j)) := rfl
theorem sub_ii {μ : Mu} {i j : Int} : fSubI μ (.int i) (.int j) = some (.int (i - j)) := rfl
theorem mul_ii {μ : Mu} {i j : Int} : fMulI μ (.int i) (.int j) = if mulOk i j = true then some (.int (i * j)) else none := rfl
theorem div_ii {μ : Mu} {i j : Int} : fDivI μ (.int i) (.int j) = if fdOk j = true then some (.int (i.fdiv j)) else none := rfl
theorem mod_ii {μ : Mu} {i j : Int} : fModI μ (.int i) (.int j) = if j ≠ 0 then some (.int (i.fmod j)) else none := rfl
theorem lt_ii {μ : Mu} {i j : Int} : fLt μ (.int i) (.int j) = some (.bl (decide (i < j))) := rfl
theorem le_ii {μ : Mu} {i j : Int} : fLe μ (.int i) (.int j) = some (.bl (decide (i ≤ j))) := rfl
theorem gt_ii {μ : Mu} {i j : Int} : fGt μ (.int i) (.int j) = some (.bl (decide (j < i))) := rfl
theorem ge_ii {μ : Mu} {i j : Int} : fGe μ (.int i) (.int j) = some (.bl (decide (j ≤ i))) := rfl
theorem add_tt {μ : Mu} {i j : List D} : fAdd μ (.tup i) (.tup j) = if i.length + j.length ≤ 1000000 then some (.tup (i ++ j)) else none := by
  show (match (if i.length + j.length ≤ 1000000 then some (D.tup (i ++ j)) else none) with | some z => some z | none => none) = _
  by_cases h : i.length + j.length ≤ 1000000 <;> simp only [h, if_true, if_false]
theorem add_ll {μ : Mu} {i j : List D} : fAdd μ (.lst i) (.lst j) = if i.length + j.length ≤ 1000000 then some (.lst (i ++ j)) else none := rfl
theorem add_ss {μ : Mu} {i j : Str} : fAdd μ (.str i) (.str j) = if i.length + j.length ≤ 1000000 then some (.str (i ++ j)) else none := by
  show (match (if i.length + j.length ≤ 1000000 then some (D.str (i ++ j)) else none) with | some z => some z | none => none) = _
  by_cases h : i.length + j.length ≤ 1000000 <;> simp only [h, if_true, if_false]
theorem divmod_ii {μ : Mu} {i j : Int} : fDivmod μ [.int i, .int j] = if 0 < j ∧ fdOk j = true then some (.tup [.int (i / j), .int (i % j)]) else none := rfl
theorem neg_i {μ : Mu} {i : Int} : fNeg μ (.int i) = some (.int (-i)) := rfl
theorem int_i {μ : Mu} {i : Int} : fInt μ [.int i] = some (.int i) := rfl
theorem abs_i {μ : Mu} {i : Int} : fAbs μ [.int i] = some (.int (if i < 0 then -i else i)) := rfl
theorem max_ii {μ : Mu} {i j : Int} : fMax μ [.int i, .int j] = some (.int (if i < j then j else i)) := rfl
theorem min_ii {μ : Mu} {i j : Int} : fMin μ [.int i, .int j] = some (.int (if j < i then j else i)) := rfl
theorem len_tup {μ : Mu} {xs : List D} : fLen μ [.tup xs] = some (.int xs.length) := rfl
theorem len_lst {μ : Mu} {xs : List D} : fLen μ [.lst xs] = some (.int xs.length) := rfl
theorem len_scr {μ : Mu} {xs : List D} : fLen μ [.scr xs] = some (.int xs.length) := rfl
theorem slc_lst {μ : Mu} {xs : List D} {lo hi : Option Int} : fSl μ (.lst xs) lo hi = some (.lst (cutL xs lo hi)) := rfl
theorem slc_scr {μ : Mu} {xs : List D} {lo hi : Option Int} : fSl μ (.scr xs) lo hi = some (.lst (cutL xs lo hi)) := rfl
theorem slc_tup {μ : Mu} {xs : List D} {lo hi : Option Int} : fSl μ (.tup xs) lo hi = some (.tup (cutL xs lo hi)) := rfl
theorem tuple_lst {μ : Mu} {xs : List D} : fTuple μ [.lst xs] = some (.tup xs) := rfl
theorem tuple_tup {μ : Mu} {xs : List D} : fTuple μ [.tup xs] = some (.tup xs) := rfl
theorem tuple_scr {μ : Mu} {xs : List D} : fTuple μ [.scr xs] = some (.tup xs) := rfl
theorem list_tup {μ : Mu} {xs : List D} : fList μ [.tup xs] = some (.lst xs) := rfl
theorem list_lst {μ : Mu} {xs : List D} : fList μ [.lst xs] = some (.lst xs) := rfl
theorem bool_b {μ : Mu} {b : Bool} : fBool μ [.bl b] = some (.bl b) := rfl
theorem isa_int_int {μ : Mu} {i : Int} : fIsa μ [.int i, .ty "int"] = some (.bl true) := rfl
theorem isa_int_bool {μ : Mu} {i : Int} : fIsa μ [.int i, .ty "bool"] = some (.bl false) := rfl
theorem isa_int_tup {μ : Mu} {i : Int} : fIsa μ [.int i, .ty "tuple"] = some (.bl false) := rfl
theorem isa_int_str {μ : Mu} {i : Int} : fIsa μ [.int i, .ty "str"] = some (.bl false) := rfl
theorem isa_int_lst {μ : Mu} {i : Int} : fIsa μ [.int i, .ty "list"] = some (.bl false) := rfl
theorem isa_bl_int {μ : Mu} {i : Bool} : fIsa μ [.bl i, .ty "int"] = some (.bl true) := rfl
theorem isa_bl_bool {μ : Mu} {i : Bool} : fIsa μ [.bl i, .ty "bool"] = some (.bl true) := rfl
theorem isa_tup_tup {μ : Mu} {i : List D} : fIsa μ [.tup i, .ty "tuple"] = some (.bl true) := rfl
theorem isa_tup_int {μ : Mu} {i : List D} : fIsa μ [.tup i, .ty "int"] = some (.bl false) := rfl
theorem isa_tup_lst {μ : Mu} {i : List D} : fIsa μ [.tup i, .ty "list"] = some (.bl false) := rfl
theorem isa_tup_str {μ : Mu} {i : List D} : fIsa μ [.tup i, .ty "str"] = some (.bl false) := rfl
theorem isa_str_str {μ : Mu} {i : Str} : fIsa μ [.str i, .ty "str"] = some (.bl true) := rfl
theorem isa_str_int {μ : Mu} {i : Str} : fIsa μ [.str i, .ty "int"] = some (.bl false) := rfl
theorem isa_str_tup {μ : Mu} {i : Str} : fIsa μ [.str i, .ty "tuple"] = some (.bl false) := rfl
theorem isa_lst_lst {μ : Mu} {i : List D} : fIsa μ [.lst i, .ty "list"] = some (.bl true) := rfl
theorem isa_lst_tup {μ : Mu} {i : List D} : fIsa μ [.lst i, .ty "tuple"] = some (.bl false) := rfl
theorem isa_lst_int {μ : Mu} {i : List D} : fIsa μ [.lst i, .ty "int"] = some (.bl false) := rfl
theorem isa_non_int {μ : Mu} : fIsa μ [.non, .ty "int"] = some (.bl false) := rfl
theorem isa_non_tup {μ : Mu} : fIsa μ [.non, .ty "tuple"] = some (.bl false) := rfl
theorem seqIE_lst [ExW] {μ : Mu} {xs : List D} {P : List D → Mu → Prop} : Ok (seqIE (.lst xs) μ) P = P xs μ := rfl
theorem seqIE_tup [ExW] {μ : Mu} {xs : List D} {P : List D → Mu → Prop} : Ok (seqIE (.tup xs) μ) P = P xs μ := rfl
theorem seqIE_scr [ExW] {μ : Mu} {xs : List D} {P : List D → Mu → Prop} : Ok (seqIE (.scr xs) μ) P = P xs μ := rfl
theorem seqI_str [ExW] {μ : Mu} {z : Str} {P : List D → Mu → Prop} : Ok (seqI (.str z) μ) P = P (z.cps.toList.map fun c => .str ⟨#[c]⟩) μ := rfl
theorem seqI_lst [ExW] {μ : Mu} {xs : List D} {P : List D → Mu → Prop} : Ok (seqI (.lst xs) μ) P = P xs μ := rfl
theorem seqI_tup [ExW] {μ : Mu} {xs : List D} {P : List D → Mu → Prop} : Ok (seqI (.tup xs) μ) P = P xs μ := rfl
theorem seqI_scr [ExW] {μ : Mu} {xs : List D} {P : List D → Mu → Prop} : Ok (seqI (.scr xs) μ) P = P xs μ := rfl
theorem cut_len {xs : List D} {lo hi : Option Int} : (cutL xs lo hi).length ≤ xs.length := by
  unfold cutL
  rw [List.length_take, List.length_drop]
  omega
theorem cut_mem {xs : List D} {lo hi : Option Int} {d : D} (h : d ∈ cutL xs lo hi) : d ∈ xs := List.mem_of_mem_drop (List.mem_of_mem_take h)
theorem int_mem {ns : List Int} {d : D} (h : d ∈ ns.map D.int) : ∃ i, d = .int i := by
  obtain ⟨i, _, e⟩ := List.mem_map.mp h
  exact ⟨i, e.symm⟩
theorem int_at {ns : List Int} {t : Int} (h0 : 0 ≤ t) (h : t < ns.length) : ∃ z : Int, L2.atI (ns.map D.int) t = some (.int z) := by
  obtain ⟨x, e, m⟩ := atI_map (xs := ns.map D.int) h0 (by rw [List.length_map]; exact h)
  obtain ⟨i, rfl⟩ := int_mem m
  exact ⟨i, e⟩
theorem sum_3 {μ : Mu} {a b c : Int} : fSum μ [.lst [.int a, .int b, .int c]] = some (.int (a + (b + (c + 0)))) := rfl
theorem all_3 {μ : Mu} {a b c : Bool} : fAll μ [.lst [.bl a, .bl b, .bl c]] = some (.bl (a && (b && (c && true)))) := by cases a <;> cases b <;> cases c <;> rfl
theorem rng_3 : rngD 0 (3 : Int).toNat = [.int 0, .int 1, .int 2] := rfl
theorem rng_2 : rngD 0 (2 : Int).toNat = [.int 0, .int 1] := rfl
theorem eqLs_refl {f : D → D → Bool} : ∀ {ds : List D}, (∀ d ∈ ds, f d d = true) → eqLs f ds ds = true
  | [], _ => rfl
  | d :: ds, h => by
    show (f d d && eqLs f ds ds) = true
    rw [h d List.mem_cons_self, eqLs_refl fun d hd => h d (List.mem_cons_of_mem _ hd)]
    rfl
theorem eqD_refl : ∀ (n : Nat) (d : D), plainD n d = true → eqD n d d = true := by
  intro n
  induction n with
  | zero =>
    intro d h
    cases d with
    | non => rfl
    | bl b => cases b <;> rfl
    | int i => show (i == i) = true; simp
    | str x => show (x == x) = true; simp
    | _ => cases h
  | succ n ih =>
    intro d h
    cases d with
    | non => rfl
    | bl b => cases b <;> rfl
    | int i => show (i == i) = true; simp
    | str x => show (x == x) = true; simp
    | tup ds =>
      have h : ds.all (plainD n) = true := h
      exact eqLs_refl fun d hd => ih d (List.all_eq_true.mp h d hd)
    | lst ds =>
      have h : ds.all (plainD n) = true := h
      exact eqLs_refl fun d hd => ih d (List.all_eq_true.mp h d hd)
    | _ => cases h
theorem o_ne_self {μ : Mu} {d : D} {P : D → Prop} (h : plainD 20 d = true) (q : P (.bl false)) : OkO (fNe μ d d) P := by
  have u : unloc μ d = d := by
    cases d with
    | loc n => cases h
    | _ => rfl
  unfold fNe
  rw [u, if_pos ⟨h, h⟩, eqD_refl 20 d h]
  exact q
theorem cut_map {α β : Type} {f : α → β} {xs : List α} {lo hi : Option Int} : cutL (xs.map f) lo hi = (cutL xs lo hi).map f := by
  unfold cutL
  rw [List.length_map, List.map_take, List.map_drop]
theorem bls_true : ∀ {ys : List D}, (∀ d ∈ ys, d = D.bl true) → ∃ bs, blsOf ys = some bs ∧ bs.all id = true
  | [], _ => ⟨[], rfl, rfl⟩
  | y :: ys, h => by
    obtain ⟨bs, e1, e2⟩ := bls_true fun d hd => h d (List.mem_cons_of_mem _ hd)
    rw [h y List.mem_cons_self]
    exact ⟨true :: bs, by show (blsOf ys).map (true :: ·) = _; rw [e1]; rfl, by rw [List.all_cons, e2]; rfl⟩
theorem all_true {μ : Mu} {ys : List D} {P : D → Prop} (h : ∀ d ∈ ys, d = D.bl true) (q : P (.bl true)) : OkO (fAll μ [.lst ys]) P := by
  obtain ⟨bs, e1, e2⟩ := bls_true h
  have e : fAll μ [.lst ys] = some (.bl true) := by
    show (match seqL μ (.lst ys) with
      | some xs => (blsOf xs).map fun bs => D.bl (bs.all id)
      | none => none) = some (.bl true)
    show (blsOf ys).map (fun bs => D.bl (bs.all id)) = some (.bl true)
    rw [e1]
    show some (D.bl (bs.all id)) = _
    rw [e2]
  rw [e]
  exact q
theorem rng_nat {lo : Int} {n : Nat} {d : D} (h : d ∈ rngD lo n) : ∃ i : Int, d = .int i ∧ lo ≤ i ∧ i < lo + n := by
  obtain ⟨i, hi, rfl⟩ := List.mem_map.mp h
  have := List.mem_range.mp hi
  exact ⟨_, rfl, by omega, by omega⟩
theorem o_add_ii {μ : Mu} {i j : Int} {P : D → Prop} : OkO (fAdd μ (.int i) (.int j)) P = P (.int (i + j)) := by rw [add_ii, oko_some]
theorem o_sub_ii {μ : Mu} {i j : Int} {P : D → Prop} : OkO (fSubI μ (.int i) (.int j)) P = P (.int (i - j)) := by rw [sub_ii, oko_some]
theorem o_mul_ii {μ : Mu} {i j : Int} {P : D → Prop} : OkO (fMulI μ (.int i) (.int j)) P = ((mulOk i j = true) ∧ P ((.int (i * j)))) := by rw [mul_ii, oko_ite]
theorem o_div_ii {μ : Mu} {i j : Int} {P : D → Prop} : OkO (fDivI μ (.int i) (.int j)) P = ((fdOk j = true) ∧ P ((.int (i.fdiv j)))) := by rw [div_ii, oko_ite]
theorem o_mod_ii {μ : Mu} {i j : Int} {P : D → Prop} : OkO (fModI μ (.int i) (.int j)) P = ((j ≠ 0) ∧ P ((.int (i.fmod j)))) := by rw [mod_ii, oko_ite]
theorem o_lt_ii {μ : Mu} {i j : Int} {P : D → Prop} : OkO (fLt μ (.int i) (.int j)) P = P (.bl (decide (i < j))) := by rw [lt_ii, oko_some]
theorem o_le_ii {μ : Mu} {i j : Int} {P : D → Prop} : OkO (fLe μ (.int i) (.int j)) P = P (.bl (decide (i ≤ j))) := by rw [le_ii, oko_some]
theorem o_gt_ii {μ : Mu} {i j : Int} {P : D → Prop} : OkO (fGt μ (.int i) (.int j)) P = P (.bl (decide (j < i))) := by rw [gt_ii, oko_some]
theorem o_ge_ii {μ : Mu} {i j : Int} {P : D → Prop} : OkO (fGe μ (.int i) (.int j)) P = P (.bl (decide (j ≤ i))) := by rw [ge_ii, oko_some]
theorem o_add_tt {μ : Mu} {i j : List D} {P : D → Prop} : OkO (fAdd μ (.tup i) (.tup j)) P = ((i.length + j.length ≤ 1000000) ∧ P ((.tup (i ++ j)))) := by rw [add_tt, oko_ite]
theorem o_add_ll {μ : Mu} {i j : List D} {P : D → Prop} : OkO (fAdd μ (.lst i) (.lst j)) P = ((i.length + j.length ≤ 1000000) ∧ P ((.lst (i ++ j)))) := by rw [add_ll, oko_ite]
theorem o_add_ss {μ : Mu} {i j : Str} {P : D → Prop} : OkO (fAdd μ (.str i) (.str j)) P = ((i.length + j.length ≤ 1000000) ∧ P ((.str (i ++ j)))) := by rw [add_ss, oko_ite]
theorem o_divmod_ii {μ : Mu} {i j : Int} {P : D → Prop} : OkO (fDivmod μ [.int i, .int j]) P = ((0 < j ∧ fdOk j = true) ∧ P ((.tup [.int (i / j), .int (i % j)]))) := by rw [divmod_ii, oko_ite]
theorem o_neg_i {μ : Mu} {i : Int} {P : D → Prop} : OkO (fNeg μ (.int i)) P = P (.int (-i)) := by rw [neg_i, oko_some]
theorem o_int_i {μ : Mu} {i : Int} {P : D → Prop} : OkO (fInt μ [.int i]) P = P (.int i) := by rw [int_i, oko_some]
theorem o_abs_i {μ : Mu} {i : Int} {P : D → Prop} : OkO (fAbs μ [.int i]) P = P (.int (if i < 0 then -i else i)) := by rw [abs_i, oko_some]
theorem o_max_ii {μ : Mu} {i j : Int} {P : D → Prop} : OkO (fMax μ [.int i, .int j]) P = P (.int (if i < j then j else i)) := by rw [max_ii, oko_some]
theorem o_min_ii {μ : Mu} {i j : Int} {P : D → Prop} : OkO (fMin μ [.int i, .int j]) P = P (.int (if j < i then j else i)) := by rw [min_ii, oko_some]
theorem o_len_tup {μ : Mu} {xs : List D} {P : D → Prop} : OkO (fLen μ [.tup xs]) P = P (.int xs.length) := by rw [len_tup, oko_some]
theorem o_len_lst {μ : Mu} {xs : List D} {P : D → Prop} : OkO (fLen μ [.lst xs]) P = P (.int xs.length) := by rw [len_lst, oko_some]
theorem o_len_scr {μ : Mu} {xs : List D} {P : D → Prop} : OkO (fLen μ [.scr xs]) P = P (.int xs.length) := by rw [len_scr, oko_some]
theorem o_slc_lst {μ : Mu} {xs : List D} {lo hi : Option Int} {P : D → Prop} : OkO (fSl μ (.lst xs) lo hi) P = P (.lst (cutL xs lo hi)) := by rw [slc_lst, oko_some]
theorem o_slc_scr {μ : Mu} {xs : List D} {lo hi : Option Int} {P : D → Prop} : OkO (fSl μ (.scr xs) lo hi) P = P (.lst (cutL xs lo hi)) := by rw [slc_scr, oko_some]
theorem o_slc_tup {μ : Mu} {xs : List D} {lo hi : Option Int} {P : D → Prop} : OkO (fSl μ (.tup xs) lo hi) P = P (.tup (cutL xs lo hi)) := by rw [slc_tup, oko_some]
theorem o_tuple_lst {μ : Mu} {xs : List D} {P : D → Prop} : OkO (fTuple μ [.lst xs]) P = P (.tup xs) := by rw [tuple_lst, oko_some]
theorem o_tuple_tup {μ : Mu} {xs : List D} {P : D → Prop} : OkO (fTuple μ [.tup xs]) P = P (.tup xs) := by rw [tuple_tup, oko_some]
theorem o_tuple_scr {μ : Mu} {xs : List D} {P : D → Prop} : OkO (fTuple μ [.scr xs]) P = P (.tup xs) := by rw [tuple_scr, oko_some]
theorem o_list_tup {μ : Mu} {xs : List D} {P : D → Prop} : OkO (fList μ [.tup xs]) P = P (.lst xs) := by rw [list_tup, oko_some]
theorem o_list_lst {μ : Mu} {xs : List D} {P : D → Prop} : OkO (fList μ [.lst xs]) P = P (.lst xs) := by rw [list_lst, oko_some]
theorem o_bool_b {μ : Mu} {b : Bool} {P : D → Prop} : OkO (fBool μ [.bl b]) P = P (.bl b) := by rw [bool_b, oko_some]
theorem o_isa_int_int {μ : Mu} {i : Int} {P : D → Prop} : OkO (fIsa μ [.int i, .ty "int"]) P = P (.bl true) := by rw [isa_int_int, oko_some]
theorem o_isa_int_bool {μ : Mu} {i : Int} {P : D → Prop} : OkO (fIsa μ [.int i, .ty "bool"]) P = P (.bl false) := by rw [isa_int_bool, oko_some]
theorem o_isa_int_tup {μ : Mu} {i : Int} {P : D → Prop} : OkO (fIsa μ [.int i, .ty "tuple"]) P = P (.bl false) := by rw [isa_int_tup, oko_some]
theorem o_isa_int_str {μ : Mu} {i : Int} {P : D → Prop} : OkO (fIsa μ [.int i, .ty "str"]) P = P (.bl false) := by rw [isa_int_str, oko_some]
theorem o_isa_int_lst {μ : Mu} {i : Int} {P : D → Prop} : OkO (fIsa μ [.int i, .ty "list"]) P = P (.bl false) := by rw [isa_int_lst, oko_some]
theorem o_isa_bl_int {μ : Mu} {i : Bool} {P : D → Prop} : OkO (fIsa μ [.bl i, .ty "int"]) P = P (.bl true) := by rw [isa_bl_int, oko_some]
theorem o_isa_bl_bool {μ : Mu} {i : Bool} {P : D → Prop} : OkO (fIsa μ [.bl i, .ty "bool"]) P = P (.bl true) := by rw [isa_bl_bool, oko_some]
theorem o_isa_tup_tup {μ : Mu} {i : List D} {P : D → Prop} : OkO (fIsa μ [.tup i, .ty "tuple"]) P = P (.bl true) := by rw [isa_tup_tup, oko_some]
theorem o_isa_tup_int {μ : Mu} {i : List D} {P : D → Prop} : OkO (fIsa μ [.tup i, .ty "int"]) P = P (.bl false) := by rw [isa_tup_int, oko_some]
theorem o_isa_tup_lst {μ : Mu} {i : List D} {P : D → Prop} : OkO (fIsa μ [.tup i, .ty "list"]) P = P (.bl false) := by rw [isa_tup_lst, oko_some]
theorem o_isa_tup_str {μ : Mu} {i : List D} {P : D → Prop} : OkO (fIsa μ [.tup i, .ty "str"]) P = P (.bl false) := by rw [isa_tup_str, oko_some]
theorem o_isa_str_str {μ : Mu} {i : Str} {P : D → Prop} : OkO (fIsa μ [.str i, .ty "str"]) P = P (.bl true) := by rw [isa_str_str, oko_some]
theorem o_isa_str_int {μ : Mu} {i : Str} {P : D → Prop} : OkO (fIsa μ [.str i, .ty "int"]) P = P (.bl false) := by rw [isa_str_int, oko_some]
theorem o_isa_str_tup {μ : Mu} {i : Str} {P : D → Prop} : OkO (fIsa μ [.str i, .ty "tuple"]) P = P (.bl false) := by rw [isa_str_tup, oko_some]
theorem o_isa_lst_lst {μ : Mu} {i : List D} {P : D → Prop} : OkO (fIsa μ [.lst i, .ty "list"]) P = P (.bl true) := by rw [isa_lst_lst, oko_some]
theorem o_isa_lst_tup {μ : Mu} {i : List D} {P : D → Prop} : OkO (fIsa μ [.lst i, .ty "tuple"]) P = P (.bl false) := by rw [isa_lst_tup, oko_some]
theorem o_isa_lst_int {μ : Mu} {i : List D} {P : D → Prop} : OkO (fIsa μ [.lst i, .ty "int"]) P = P (.bl false) := by rw [isa_lst_int, oko_some]
theorem o_isa_non_int {μ : Mu} {P : D → Prop} : OkO (fIsa μ [.non, .ty "int"]) P = P (.bl false) := by rw [isa_non_int, oko_some]
theorem o_isa_non_tup {μ : Mu} {P : D → Prop} : OkO (fIsa μ [.non, .ty "tuple"]) P = P (.bl false) := by rw [isa_non_tup, oko_some]
theorem o_sum_3 {μ : Mu} {a b c : Int} {P : D → Prop} : OkO (fSum μ [.lst [.int a, .int b, .int c]]) P = P (.int (a + (b + (c + 0)))) := by rw [sum_3, oko_some]
theorem o_all_3 {μ : Mu} {a b c : Bool} {P : D → Prop} : OkO (fAll μ [.lst [.bl a, .bl b, .bl c]]) P = P (.bl (a && (b && (c && true)))) := by rw [all_3, oko_some]
theorem o_atI_0 {a : D} {r : List D} {P : D → Prop} : OkO (L2.atI (a :: r) 0) P = P a := by rw [atI_0, oko_some]
theorem o_atI_1 {a b : D} {r : List D} {P : D → Prop} : OkO (L2.atI (a :: b :: r) 1) P = P b := by rw [atI_1, oko_some]
theorem o_atI_2 {a b c : D} {r : List D} {P : D → Prop} : OkO (L2.atI (a :: b :: c :: r) 2) P = P c := by rw [atI_2, oko_some]
theorem o_atI_3 {a b c d : D} {r : List D} {P : D → Prop} : OkO (L2.atI (a :: b :: c :: d :: r) 3) P = P d := by rw [atI_3, oko_some]
theorem o_atI_4 {a b c d e : D} {r : List D} {P : D → Prop} : OkO (L2.atI (a :: b :: c :: d :: e :: r) 4) P = P e := by rw [atI_4, oko_some]
theorem o_atI_5 {a b c d e f : D} {r : List D} {P : D → Prop} : OkO (L2.atI (a :: b :: c :: d :: e :: f :: r) 5) P = P f := by rw [atI_5, oko_some]
theorem o_ixN_30 {P : Nat → Prop} : OkO (ixN 3 0) P = P 0 := rfl
theorem o_ixN_31 {P : Nat → Prop} : OkO (ixN 3 1) P = P 1 := rfl
theorem o_ixN_32 {P : Nat → Prop} : OkO (ixN 3 2) P = P 2 := rfl
theorem o_fix_tup {μ : Mu} {ds : List D} {i : Int} {P : D → Prop} : OkO (fIx μ (.tup ds) (.int i)) P = OkO (L2.atI ds i) P := rfl
theorem o_fix_lst {μ : Mu} {ds : List D} {i : Int} {P : D → Prop} : OkO (fIx μ (.lst ds) (.int i)) P = OkO (L2.atI ds i) P := rfl
theorem o_fix_scr {μ : Mu} {ds : List D} {i : Int} {P : D → Prop} : OkO (fIx μ (.scr ds) (.int i)) P = OkO (L2.atI ds i) P := rfl
theorem o_pow_6 {μ : Mu} {P : D → Prop} : OkO (fPowI μ (.int 10) (.int 6)) P = P (.int 1000000) := by rw [pow_6, oko_some]
theorem o_pow_18 {μ : Mu} {P : D → Prop} : OkO (fPowI μ (.int 10) (.int 18)) P = P (.int 1000000000000000000) := by rw [pow_18, oko_some]
theorem o_fix_loc {μ : Mu} {n : Nat} {ds : List D} {i : Int} (h : μ[n]? = some (.lst ds)) {P : D → Prop} : OkO (fIx μ (.loc n) (.int i)) P = OkO (L2.atI ds i) P := by rw [fix_loc h]
theorem o_place {μ : Mu} {n : Nat} {ds : List D} (h : μ[n]? = some (.lst ds)) {P : Nat × List D → Prop} : OkO (placeL μ (.loc n)) P = P (n, ds) := by rw [place_loc h, oko_some]
theorem o_eq_ii {μ : Mu} {i j : Int} {P : D → Prop} : OkO (fEq μ (.int i) (.int j)) P = P (.bl (decide (i = j))) := rfl
theorem o_ne_ii {μ : Mu} {i j : Int} {P : D → Prop} : OkO (fNe μ (.int i) (.int j)) P = P (.bl (!decide (i = j))) := rfl
theorem o_ne_mv {μ : Mu} {a b c x y z : Int} {P : D → Prop} : OkO (fNe μ (.tup [.int a, .int b, .int c]) (.tup [.int x, .int y, .int z])) P = P (.bl (!(decide (a = x) && (decide (b = y) && (decide (c = z) && true))))) := rfl
theorem o_eq_mv {μ : Mu} {a b c x y z : Int} {P : D → Prop} : OkO (fEq μ (.tup [.int a, .int b, .int c]) (.tup [.int x, .int y, .int z])) P = P (.bl (decide (a = x) && (decide (b = y) && (decide (c = z) && true)))) := rfl
theorem o_mul_rep {μ : Mu} {ds : List D} {k : Int} {P : D → Prop} : OkO (fMul μ (.lst ds) (.int k)) P = (((-(2 ^ 63) ≤ k ∧ k < 2 ^ 63) ∧ ds.length * k.toNat ≤ 1000000) ∧ P (.lst (List.replicate k.toNat ds).flatten)) := by
  show OkO (if (-(2 ^ 63) ≤ k ∧ k < 2 ^ 63) ∧ ds.length * k.toNat ≤ 1000000 then some (D.lst (List.replicate k.toNat ds).flatten) else none) P = _
  rw [oko_ite]
theorem o_mul_iiF {μ : Mu} {i j : Int} {P : D → Prop} : OkO (fMul μ (.int i) (.int j)) P = (mulOk i j = true ∧ P (.int (i * j))) := by
  rw [← oko_ite]
  by_cases h : mulOk i j = true
  · rw [if_pos h]; show OkO (match (if mulOk i j = true then some (D.int (i * j)) else none) with | some z => some z | none => none) P = _; rw [if_pos h]
  · rw [if_neg h]; show OkO (match (if mulOk i j = true then some (D.int (i * j)) else none) with | some z => some z | none => none) P = _; rw [if_neg h]
theorem o_isn_non {μ : Mu} {P : D → Prop} : OkO (fIs true μ .non .non) P = P (.bl false) := id rfl
theorem o_isn_int {μ : Mu} {i : Int} {P : D → Prop} : OkO (fIs true μ (.int i) .non) P = P (.bl true) := id rfl
theorem o_isn_tup {μ : Mu} {i : List D} {P : D → Prop} : OkO (fIs true μ (.tup i) .non) P = P (.bl true) := id rfl
theorem o_isn_lst {μ : Mu} {i : List D} {P : D → Prop} : OkO (fIs true μ (.lst i) .non) P = P (.bl true) := id rfl
theorem o_isn_str {μ : Mu} {i : Str} {P : D → Prop} : OkO (fIs true μ (.str i) .non) P = P (.bl true) := id rfl
theorem o_is_non {μ : Mu} {P : D → Prop} : OkO (fIs false μ .non .non) P = P (.bl true) := id rfl
theorem o_is_int {μ : Mu} {i : Int} {P : D → Prop} : OkO (fIs false μ (.int i) .non) P = P (.bl false) := id rfl
theorem o_is_tup {μ : Mu} {i : List D} {P : D → Prop} : OkO (fIs false μ (.tup i) .non) P = P (.bl false) := id rfl
theorem o_is_lst {μ : Mu} {i : List D} {P : D → Prop} : OkO (fIs false μ (.lst i) .non) P = P (.bl false) := id rfl
theorem o_is_str {μ : Mu} {i : Str} {P : D → Prop} : OkO (fIs false μ (.str i) .non) P = P (.bl false) := id rfl
/-- of at most n hex figures -/
def Dg (n : Nat) (x : Int) : Prop := x.natAbs < 16 ^ n
theorem Dg.mono {a b : Nat} {x : Int} (h : Dg a x) (hl : a ≤ b) : Dg b x := Nat.lt_of_lt_of_le h (Nat.pow_le_pow_right (by decide) hl)
theorem Dg.mul {a b : Nat} {x y : Int} (h : Dg a x) (h2 : Dg b y) : Dg (a + b) (x * y) := by
  unfold Dg at h h2 ⊢
  rw [Int.natAbs_mul, Nat.pow_add]
  exact Nat.mul_lt_mul_of_lt_of_lt h h2
theorem Dg.add {a b : Nat} {x y : Int} (h : Dg a x) (h2 : Dg b y) : Dg (max a b + 1) (x + y) := by
  have h := h.mono (Nat.le_max_left a b)
  have h2 := h2.mono (Nat.le_max_right a b)
  unfold Dg at h h2 ⊢
  rw [Nat.pow_succ]
  have := Int.natAbs_add_le x y
  omega
theorem Dg.neg {a : Nat} {x : Int} (h : Dg a x) : Dg a (-x) := by
  unfold Dg at h ⊢
  rw [Int.natAbs_neg]
  exact h
theorem Dg.sub {a b : Nat} {x y : Int} (h : Dg a x) (h2 : Dg b y) : Dg (max a b + 1) (x - y) := by
  rw [Int.sub_eq_add_neg]
  exact h.add h2.neg
theorem Dg.half {a : Nat} {x : Int} (h : Dg a x) : Dg a (x.fdiv 2) := by
  unfold Dg at h ⊢
  rw [Int.fdiv_eq_ediv_of_nonneg _ (by decide)]
  omega
theorem Dg.lit {x : Int} {a : Nat} (h : x.natAbs < 16) (ha : 1 ≤ a) : Dg a x := Nat.lt_of_lt_of_le (show x.natAbs < 16 ^ 1 from h) (Nat.pow_le_pow_right (show 16 > 0 by decide) ha)
theorem Dg.ok {a b : Nat} {x y : Int} (h : Dg a x) (h2 : Dg b y) (ha : a ≤ 50000) (hb : b ≤ 50000) : mulOk x y = true := by
  have e : (16 : Nat) ^ 50000 = 2 ^ 200000 := by rw [show (16 : Nat) = 2 ^ 4 from rfl, ← Nat.pow_mul]
  have h := h.mono ha
  have h2 := h2.mono hb
  unfold Dg at h h2
  rw [e] at h h2
  exact mul_small h h2
theorem fdOk_dg {s : Int} {a : Nat} (h : Dg a s) (ha : a ≤ 2000) (h0 : s ≠ 0) : fdOk s = true := by
  unfold fdOk
  rw [Bool.and_eq_true]
  refine ⟨by simpa using h0, Nat.ble_eq_true_of_le ?_⟩
  have hn : s.natAbs ≠ 0 := by omega
  have h2 := h.mono ha
  unfold Dg at h2
  rw [show (16 : Nat) = 2 ^ 4 from rfl, ← Nat.pow_mul] at h2
  have := (Nat.log2_lt hn).mpr h2
  omega
theorem fdOk_small {s : Int} (h : s.natAbs < 16 ^ 20) (h0 : s ≠ 0) : fdOk s = true := fdOk_dg (a := 20) h (by decide) h0
theorem Dg.fdiv {a : Nat} {x m : Int} (h : Dg a x) (hm : 0 < m) : Dg a (x.fdiv m) := by
  have e : (x.fdiv m).natAbs ≤ x.natAbs := by
    rw [Int.fdiv_eq_ediv_of_nonneg _ (by omega)]
    by_cases hx : 0 ≤ x
    · have h1 := Int.ediv_nonneg hx (Int.le_of_lt hm)
      have h2 := Int.ediv_le_self m hx
      omega
    · have h1 : x ≤ x / m := Int.le_ediv_of_mul_le hm (by
        have : x * m ≤ x * 1 := Int.mul_le_mul_of_nonpos_left (by omega) (by omega)
        omega)
      have h2 : x / m < 0 := Int.ediv_neg_of_neg_of_pos (by omega) hm
      omega
  exact Nat.lt_of_le_of_lt e h
theorem tri2 (n : Int) : 2 * (n * (n - 1)).fdiv 2 = n * (n - 1) := by
  rw [Int.fdiv_eq_ediv_of_nonneg _ (by decide)]
  have h : ∃ z, n * (n - 1) = 2 * z := by
    have : n % 2 = 0 ∨ n % 2 = 1 := by omega
    rcases this with h | h
    · exact ⟨n / 2 * (n - 1), by rw [← Int.mul_assoc, show 2 * (n / 2) = n by omega]⟩
    · exact ⟨n * (n / 2), by rw [Int.mul_left_comm, show 2 * (n / 2) = n - 1 by omega]⟩
  obtain ⟨z, hz⟩ := h
  rw [hz]
  omega
theorem cut_2of3 {a b c : D} : cutL [a, b, c] none (some 2) = [a, b] := rfl
theorem o_ne_2 {μ : Mu} {a b x y : Int} {P : D → Prop} : OkO (fNe μ (.tup [.int a, .int b]) (.tup [.int x, .int y])) P = P (.bl (!(decide (a = x) && (decide (b = y) && true)))) := id rfl
theorem o_eq_2 {μ : Mu} {a b x y : Int} {P : D → Prop} : OkO (fEq μ (.tup [.int a, .int b]) (.tup [.int x, .int y])) P = P (.bl (decide (a = x) && (decide (b = y) && true))) := id rfl
theorem o_ne_bb {μ : Mu} {a b : Bool} {P : D → Prop} : OkO (fNe μ (.bl a) (.bl b)) P = P (.bl (!(a == b))) := id rfl
theorem o_eq_bb {μ : Mu} {a b : Bool} {P : D → Prop} : OkO (fEq μ (.bl a) (.bl b)) P = P (.bl (a == b)) := id rfl
theorem o_tru_b {μ : Mu} {b : Bool} {P : Bool → Prop} : OkO (truD μ (.bl b)) P = P b := id rfl
theorem o_tru_i {μ : Mu} {i : Int} {P : Bool → Prop} : OkO (truD μ (.int i)) P = P (i != 0) := id rfl
theorem o_tru_t {μ : Mu} {xs : List D} {P : Bool → Prop} : OkO (truD μ (.tup xs)) P = P (!xs.isEmpty) := id rfl
theorem o_tru_l {μ : Mu} {xs : List D} {P : Bool → Prop} : OkO (truD μ (.lst xs)) P = P (!xs.isEmpty) := id rfl
theorem o_tru_n {μ : Mu} {P : Bool → Prop} : OkO (truD μ .non) P = P false := id rfl
theorem natabsN {n : Nat} : Int.natAbs (no_index (@OfNat.ofNat Int n _)) = @OfNat.ofNat Nat n _ := rfl
def mulOkX : Int → Int → Bool := mulOk
theorem mulOkL {n : Nat} {j : Int} : mulOk (no_index (@OfNat.ofNat Int n _)) j = (decide (@OfNat.ofNat Nat n _ < 18446744073709551616) || mulOkX (@OfNat.ofNat Int n _) j) := by
  by_cases h : @OfNat.ofNat Nat n _ < 18446744073709551616
  · rw [mul_l (i := @OfNat.ofNat Int n _) (show n < 2 ^ 64 from h), decide_eq_true h]; rfl
  · rw [decide_eq_false h]; rfl
theorem mulOkR {n : Nat} {j : Int} : mulOk j (no_index (@OfNat.ofNat Int n _)) = (decide (@OfNat.ofNat Nat n _ < 18446744073709551616) || mulOkX j (@OfNat.ofNat Int n _)) := by
  by_cases h : @OfNat.ofNat Nat n _ < 18446744073709551616
  · rw [mul_r (j := @OfNat.ofNat Int n _) (show n < 2 ^ 64 from h), decide_eq_true h]; rfl
  · rw [decide_eq_false h]; rfl
theorem castN {n : Nat} : ((no_index (@OfNat.ofNat Nat n _) : Nat) : Int) = @OfNat.ofNat Int n _ := rfl
theorem pick_0 {a : D} : pick [0] [a] = [a] := rfl
theorem pick_01 {a b : D} : pick [0, 1] [a, b] = [a, b] := rfl
theorem pick_10 {a b : D} : pick [1, 0] [a, b] = [b, a] := rfl
theorem pick_012 {a b c : D} : pick [0, 1, 2] [a, b, c] = [a, b, c] := rfl
theorem pick_021 {a b c : D} : pick [0, 2, 1] [a, b, c] = [a, c, b] := rfl
theorem pick_102 {a b c : D} : pick [1, 0, 2] [a, b, c] = [b, a, c] := rfl
theorem pick_120 {a b c : D} : pick [1, 2, 0] [a, b, c] = [b, c, a] := rfl
theorem pick_201 {a b c : D} : pick [2, 0, 1] [a, b, c] = [c, a, b] := rfl
theorem pick_210 {a b c : D} : pick [2, 1, 0] [a, b, c] = [c, b, a] := rfl
end Ar

set_option Elab.async false
set_option linter.all false
set_option maxRecDepth 100000
set_option maxHeartbeats 2000000
/-! Ar13: dicts of the module with text keys -/
namespace Ar
open PySem PySem.Spec PyProof.Rows L2

structure DctC (K : PySem.W.Frag) (w : World) (mg : Str → Option Value) (x : Str) (kvs : List (Str × D)) : Prop where
  gl : mg x = some (.ref (He.ga K x))
  ex : ∃ es n, KDict K w (He.ga K x) es n
  has : ∀ z d, kvs.lookup z = some d → ∃ u v, PySem.W.nsIn K (He.ga K x) z = some (some u) ∧ RelV v u ∧ ∀ ρ F, Dn K ρ F v d
  no : ∀ z, kvs.lookup z = none → PySem.W.nsIn K (He.ga K x) z = some none
def dKIx (kvs : List (Str × D)) (b : DE) : DE := fun Γ μ => (b Γ μ).bind fun y μ1 => match y with
  | .str z => R.of μ1 (kvs.lookup z)
  | _ => .stk
def dKGet (kvs : List (Str × D)) (b f : DE) : DE := fun Γ μ => (b Γ μ).bind fun y μ1 => (f Γ μ1).bind fun z μ2 => match y with
  | .str k => .ok ((kvs.lookup k).getD z) μ2
  | _ => .stk
def KGet (K : PySem.W.Frag) (a : Addr) (k : Str) (r : Option V) : Prop := (∃ u v, PySem.W.nsIn K a k = some (some u) ∧ RelV v u ∧ r = some v) ∨ (PySem.W.nsIn K a k = some none ∧ r = none)
def tKGet2 (K : PySem.W.Frag) (w : World) (td ty tx : TE) : TE := fun σ H Q => td σ H fun x H1 => ∃ a es n, x = .ref a ∧ KDict K w a es n ∧ ty σ H1 fun y H2 => tx σ H2 fun z H3 => ∃ k r, y = .str k ∧ KGet K a k r ∧ Q (r.getD z) H3
section
variable {X : Cx} {E : XK} {o b e f : Expr} {td ty tx : TE} {db df : DE} {pos apos cpos p : Pos}
theorem pe_kget2 (ho : PE X o td) (he : PE X e ty) (hf : PE X f tx) (m : M2 X o "get" apos e f cpos) : PE X (.Call (.Attribute o "get" apos) [e, f] [] cpos) (tKGet2 X.K X.w td ty tx) := by
  refine ⟨fun pins s σ H Q I h => ?_⟩
  refine wpAny_Call_method m.base m.few m.line PySem.F.plainAttrs_dict PySem.F.slot_dict_get PySem.F.type_dict_get (thn (ho.run pins s σ H _ I h) fun u s1 ⟨x, H1, I1, rx, q⟩ => ?_)
  obtain ⟨a, es, n, rfl, kd, q⟩ := q
  obtain rfl : u = Value.ref a := rx
  have mo := fun {s : Shared} {σ : L2.St} {H : Hp} (I : L2.Inv X pins σ H s) => PySem.W.mapOf_K (prog := X.prog) (w := X.w) I.kIn kd.at_ kd.lit
  refine ⟨(mo I1).typeIs, fun b eb => by cases eb; exact ⟨_, I1.kIn _ _ kd.at_, rfl⟩, ?_⟩
  rw [m.trees]
  refine Calls.callWith_builtin rfl (Calls.evalArgs_plain (Calls.spliced_cons (thn (he.run pins s1 σ H1 _ I1 q) fun iv s2 ⟨y, H2, I2, ry, q2⟩ =>
    Calls.spliced_cons (thn (hf.run pins s2 σ H2 _ I2 q2) fun fv s3 ⟨z, H3, I3, rz, k, r, ey, g, q3⟩ => Calls.spliced_nil ?_))))
  subst ey
  obtain ⟨t, rfl⟩ := (show ∃ t, iv = Value.str k t from ry)
  rcases g with ⟨u0, v0, hn, ru, rfl⟩ | ⟨hn, rfl⟩
  · refine call_meetsIn PySem.F.slot_dict_get (mo I3).typeIs PySem.F.entry_dict_get (PySem.F.args_dict_get_3 _ _ _) (meets_dict_get_default (strKind X.prog X.w) a (strKind_is X.prog X.w k t) kd.low fv) ⟨_, mo I3, ?_⟩
    rw [PySem.W.find_K kd.at_ hn]
    exact ⟨_, H3, I3.tok _, ru, q3⟩
  · refine call_meetsIn PySem.F.slot_dict_get (mo I3).typeIs PySem.F.entry_dict_get (PySem.F.args_dict_get_3 _ _ _) (meets_dict_get_default (strKind X.prog X.w) a (strKind_is X.prog X.w k t) kd.low fv) ⟨_, mo I3, ?_⟩
    rw [PySem.W.find_K kd.at_ hn]
    exact ⟨_, H3, I3.tok _, rz, q3⟩
theorem q_getK {x : Str} {kvs : List (Str × D)} (g : DctC X.K X.w X.mg x kvs) (hb : QE X E e db) (hf : QE X E f df) (hg : Gl X x := by rfl) (hd : (x == ("__debug__" : Str)) = false := by decide)
    (hbase : attributeBase (.Name x p) "get" X.env (eval (.Name x p) X.env) = eval (.Name x p) X.env := by rfl)
    (hfew : ((backTo cpos (starEach [e, f] X.env)).all (fun x => !x.1) && (backToKw cpos (keywordEach [] X.env)).all (fun x => x.1.isSome) && decide (([e, f] : List Expr).length + ([] : List Keyword).length + (if ([] : List Keyword).isEmpty then 0 else 1) < 30)) = true := by rfl)
    (hline : (apos.endLine == cpos.line) = true := by rfl) (htr : backTo cpos (starEach [e, f] X.env) = [(false, eval e X.env), (false, eval f X.env)] := by rfl) : QE X E (.Call (.Attribute (.Name x p) "get" apos) [e, f] [] cpos) (dKGet kvs db df) := by
  obtain ⟨tb, b1, b2⟩ := hb.ex
  obtain ⟨tf, f1, f2⟩ := hf.ex
  refine ⟨_, pe_kget2 (pe_glob (v := .ref (He.ga X.K x)) hg g.gl rfl hd) b1 f1 ⟨hbase, hfew, hline, htr⟩, ?_⟩
  intro ρ F H Γ μ σ k s Q h
  obtain ⟨es, n, kd⟩ := g.ex
  refine ⟨_, es, n, rfl, kd, ?_⟩
  refine b2 ρ F H Γ μ σ k s _ ((WpR.bind h).mono (fun y μ1 q => ?_) fun _ _ q => q)
  intro ρ1 F1 H1 v n1 k1 r1
  refine f2 ρ1 F1 H1 Γ μ1 σ k1 (s.nx n1) _ ((WpR.bind q).mono (fun z μ2 q => ?_) fun _ _ q => XP.nx n1 q)
  intro ρ2 F2 H2 w n2 k2 r2
  cases r1 with
  | str y =>
    have q : QV X.K ρ F H Q ((kvs.lookup y).getD z) μ2 := q
    cases e : kvs.lookup y with
    | none =>
      rw [e] at q
      exact ⟨y, none, rfl, .inr ⟨g.no y e, rfl⟩, q ρ2 F2 H2 w (n1.trans n2) k2 r2⟩
    | some d =>
      rw [e] at q
      obtain ⟨u, v, hn, ru, hv⟩ := g.has y d e
      exact ⟨y, some v, rfl, .inl ⟨u, v, hn, ru, rfl⟩, q ρ2 F2 H2 v (n1.trans n2) k2 (hv _ _)⟩
  | _ => exact False.elim q
end
/-! ### the head with tables -/
def obsY (fa : List He.Fa) (fn : List He.DefD) (ts : List He.Tab) (ex : PySem.W.Frag → Bool) (K : PySem.W.Frag) : He.AlT := (obsX fa fn ex K, ts.map fun t => He.dicW K (t.1 K))
def SaysY (fa : List He.Fa) (fn : List He.DefD) (ts : List He.Tab) (ex : PySem.W.Frag → Bool) (w : World) (K : PySem.W.Frag) : Prop := obsY fa fn ts ex K = He.valT fn ts w
theorem SaysY.x {fa : List He.Fa} {fn : List He.DefD} {ts : List He.Tab} {ex : PySem.W.Frag → Bool} {w : World} {K : PySem.W.Frag} (c : SaysY fa fn ts ex w K) : SaysX fa fn ex K := congrArg (fun z : He.AlT => z.1) c
theorem SaysY.tab {fa : List He.Fa} {fn : List He.DefD} {ts : List He.Tab} {ex : PySem.W.Frag → Bool} {w : World} {K : PySem.W.Frag} (c : SaysY fa fn ts ex w K) (i : Nat) {t : He.Tab} (h : ts[i]? = some t := by rfl) : ∃ es n, KDict K w (t.1 K) es n := by
  have e : ts.map (fun t => He.dicW K (t.1 K)) = ts.map fun t => some (He.keysIn w.params t.2) := congrArg (fun z : He.AlT => z.2) c
  have e2 : (ts.map fun t => He.dicW K (t.1 K))[i]? = (ts.map fun t => some (He.keysIn w.params t.2))[i]? := by rw [e]
  rw [List.getElem?_map, List.getElem?_map, h] at e2
  exact He.dicW_ok (Option.some.inj e2)
/-- a table's value: flat, or a tuple of flat ones -/
inductive Tv where
  | one (v : He.Dv)
  | tup (vs : List He.Dv)
def Tv.d : Tv → Option D
  | .one v => dvD v
  | .tup vs => (dvDs vs).map .tup
def tupAt (K : PySem.W.Frag) (a : Addr) (vs : List He.Dv) : Bool := match K.lookup a with
  | some ⟨.type c, _, .seq its _, _⟩ => decide (c = "tuple") && (decide (its.size ≤ sizeLine) && He.relAll (vs.map (He.Dv.v K)) its.toList)
  | _ => false
theorem tupAt_ok {K : PySem.W.Frag} {a : Addr} {vs : List He.Dv} (h : tupAt K a vs = true) (H : Hp) : SqT K H a (vs.map (He.Dv.v K)) := by
  unfold tupAt at h
  split at h
  · rename_i c od its n sl q
    obtain ⟨h1, h2⟩ := He.ba h
    obtain ⟨h3, h4⟩ := He.ba h2
    exact .inr ⟨_, its, n, q, congrArg Value.type (of_decide_eq_true h1), rfl, of_decide_eq_true h3, He.relAll_ok h4⟩
  · cases h
def tvB (K : PySem.W.Frag) (u : Value) : Tv → Bool
  | .one v => He.relB (v.v K) u
  | .tup vs => match u with
    | .ref a => tupAt K a vs
    | _ => false
def tabB (K : PySem.W.Frag) (x : Str) (kvs : List (Str × Tv)) : Bool := (kvs.all fun q => match PySem.W.nsIn K (He.ga K x) q.1 with
  | some (some u) => tvB K u q.2
  | _ => false) && match K.lookup (He.ga K x) with
  | some ⟨_, _, .dict es _, _⟩ => es.toList.all fun e => match e.key with
    | .str z _ => (kvs.map (·.1)).contains z
    | _ => false
  | _ => false
def tvD : List (Str × Tv) → Option (List (Str × D))
  | [] => some []
  | (k, v) :: r => match v.d, tvD r with
    | some d, some ds => some ((k, d) :: ds)
    | _, _ => none
theorem tvD_has : ∀ {kvs : List (Str × Tv)} {ds : List (Str × D)} {z : Str} {d : D}, tvD kvs = some ds → ds.lookup z = some d → ∃ v, (z, v) ∈ kvs ∧ v.d = some d
  | [], _, z, d, h, e => by cases h; cases e
  | (k, v) :: r, ds, z, d, h, e => by
    unfold tvD at h
    split at h
    · rename_i d1 ds1 e1 e2
      cases h
      rw [List.lookup_cons] at e
      split at e
      · rename_i hz
        cases e
        have : z = k := by simpa using hz
        subst this
        exact ⟨v, List.mem_cons_self, e1⟩
      · obtain ⟨v2, m, e3⟩ := tvD_has e2 e
        exact ⟨v2, List.mem_cons_of_mem _ m, e3⟩
    · cases h
theorem tvD_no : ∀ {kvs : List (Str × Tv)} {ds : List (Str × D)} {z : Str}, tvD kvs = some ds → ds.lookup z = none → z ∉ kvs.map (·.1)
  | [], _, z, h, e => by simp
  | (k, v) :: r, ds, z, h, e => by
    unfold tvD at h
    split at h
    · rename_i d1 ds1 e1 e2
      cases h
      rw [List.lookup_cons] at e
      split at e
      · cases e
      · rename_i hz
        have h1 := tvD_no e2 e
        simp only [List.map_cons, List.mem_cons, not_or]
        exact ⟨by simpa using hz, h1⟩
    · cases h
theorem glo_dct {K : PySem.W.Frag} {w : World} {h : Heap} {mg : Str → Option Value} {x : Str} {kvs : List (Str × Tv)} {ds : List (Str × D)} (X : K.In h) (G : h.Ns mainGlobals mg) (c1 : (He.Fa.glo x).ok K = true) (c2 : ∃ es n, KDict K w (He.ga K x) es n) (c3 : tabB K x kvs = true) (e : tvD kvs = some ds) : DctC K w mg x ds := by
  obtain ⟨h1, h2⟩ := He.ba c3
  refine ⟨He.glo_ok X G c1, c2, fun z d hz => ?_, fun z hz => ?_⟩
  · obtain ⟨v, hm, hv⟩ := tvD_has e hz
    have h3 := List.all_eq_true.mp h1 (z, v) hm
    split at h3
    · rename_i u hn
      cases v with
      | one v => exact ⟨u, v.v K, hn, He.relB_ok h3, fun ρ F => dvD_ok hv ρ F⟩
      | tup vs =>
        cases u with
        | ref a =>
          have hv : (dvDs vs).map D.tup = some d := hv
          cases hd : dvDs vs with
          | none => rw [hd] at hv; cases hv
          | some xs =>
            rw [hd] at hv
            cases hv
            exact ⟨_, .ref a, hn, rfl, fun ρ F => .tup (tupAt_ok h3 F) (dvDs_ok ρ F hd)⟩
        | _ => cases h3
    · cases h3
  · have hn := tvD_no e hz
    unfold PySem.W.nsIn
    split at h2
    · rename_i c od es n sl q
      rw [q]
      have h3 := List.all_eq_true.mp h2
      have f1 : es.toList.find? (·.key.isStr z) = none := by
        rw [List.find?_eq_none]
        intro e he
        have h4 := h3 e he
        split at h4
        · rename_i y t ek
          rw [ek]
          intro hc
          have : y = z := by
            have hc : (y == z) = true := hc
            simpa using hc
          subst this
          exact hn (by simpa using h4)
        · cases h4
      have f2 : es.toList.any (·.refKey) = false := by
        rw [List.any_eq_false]
        intro e he
        have h4 := h3 e he
        split at h4
        · rename_i y t ek
          unfold DictEntry.refKey
          rw [ek]
          simp
        · cases h4
      simp only [f1, f2]
      rfl
    · cases h2
end Ar

set_option Elab.async false
set_option linter.all false
set_option maxRecDepth 100000
set_option maxHeartbeats 2000000
/-! Ar14: texts: text * int, text[::-1]; dict(pairs), d[k] of a dict that never changes -/
namespace Ar
open PySem PySem.Spec PyProof.Rows L2

section
variable {X : Cx}
def fMulS := fun (_ : Mu) (x y : D) => match x, y with
  | .str z, .int n => if n.natAbs < 1000000 ∧ z.length * n.toNat ≤ 1000000 then some (D.str (Txt.mul z n)) else none
  | _, _ => none
def revS (z : Str) : Str := ⟨z.cps.toList.reverse.toArray⟩
def dRevS (e : DE) : DE := fun Γ μ => (e Γ μ).bind fun x μ1 => match x with
  | .str z => if z.length ≤ 1000000 then .ok (.str (revS z)) μ1 else .stk
  | _ => .stk
end
end Ar

set_option Elab.async false
set_option linter.all false
set_option maxRecDepth 100000
set_option maxHeartbeats 2000000
/-! Ar15: dict(pairs), d[k] of a dict that never changes -/
namespace Ar
open PySem PySem.Spec PyProof.Rows L2

def keyD : D → Option Key
  | .int i => some (.inl i)
  | .str x => some (.inr x)
  | _ => none
def getD' (kvs : List (Key × D)) (k : Key) : Option D := (kvs.find? fun kv => decide (kv.1 = k)).map (·.2)
theorem DnK.get {K : PySem.W.Frag} {ρ : List Addr} {F : Hp} {k : Key} {d : D} : ∀ {vs : List (Key × V)} {ds : List (Key × D)}, DnK K ρ F vs ds → getD' ds k = some d → ∃ v, valV vs k = some v ∧ Dn K ρ F v d
  | _, _, .nil, h => by cases h
  | _, _, .cons (f := f) r t, h => by
    unfold getD' at h
    unfold valV
    rw [List.find?_cons] at h ⊢
    by_cases e : f = k
    · rw [decide_eq_true e] at h ⊢
      cases h
      exact ⟨_, rfl, r⟩
    · rw [decide_eq_false e] at h ⊢
      exact DnK.get t h
def dDGet (o i : DE) : DE := fun Γ μ => (o Γ μ).bind fun x μ1 => (i Γ μ1).bind fun y μ2 => match x with
  | .dK kvs => match keyD y with
    | some k => R.of μ2 (getD' kvs k)
    | none => .stk
  | _ => .stk
section
variable {X : Cx} {E : XK} {o i : Expr} {do_ di : DE} {pos : Pos}
theorem mergeK_nd : ∀ (kvs acc : List (Key × V)), ((acc ++ kvs).map (·.1)).Nodup → mergeK acc kvs = acc ++ kvs
  | [], acc, _ => by simp [mergeK]
  | (k, v) :: r, acc, h => by
    have hk : ¬ (acc.any fun kv => decide (kv.1 = k)) = true := by
      intro z
      obtain ⟨p, hp, e⟩ := List.any_eq_true.mp z
      have e := of_decide_eq_true e
      rw [List.map_append, List.nodup_append] at h
      exact h.2.2 p.1 (List.mem_map_of_mem hp) k (by simp) e
    have e1 : mergeK acc ((k, v) :: r) = mergeK (putK acc k v) r := rfl
    rw [e1]
    unfold putK
    rw [if_neg hk, mergeK_nd r (acc ++ [(k, v)]) (by simpa using h)]
    simp
end
end Ar

set_option Elab.async false
set_option linter.all false
set_option maxRecDepth 100000
set_option maxHeartbeats 2000000
/-! Ar16: Ok rules of Ar13 to Ar15 -/
namespace Ar
open PySem PySem.Spec PyProof.Rows L2
def OkT (d : D) (P : Str → Prop) : Prop := match d with
  | .str z => P z
  | _ => False
section
variable {Γ : Gam} {μ : Mu} {Q : D → Mu → Prop}
theorem okt {z : Str} {P : Str → Prop} : OkT (.str z) P = P z := id rfl
theorem ok_kIx [ExW] {kvs : List (Str × D)} {b : DE} : Ok (dKIx kvs b Γ μ) Q = Ok (b Γ μ) fun y μ1 => OkT y fun z => OkO (kvs.lookup z) fun d => Q d μ1 := by
  unfold dKIx; rw [ok_bind]; congr 1; funext y μ1
  cases y with
  | str z => exact ok_of
  | _ => rfl
theorem ok_kGet [ExW] {kvs : List (Str × D)} {b f : DE} : Ok (dKGet kvs b f Γ μ) Q = Ok (b Γ μ) fun y μ1 => Ok (f Γ μ1) fun z μ2 => OkT y fun k => Q ((kvs.lookup k).getD z) μ2 := by
  unfold dKGet; rw [ok_bind]; congr 1; funext y μ1; rw [ok_bind]; congr 1; funext z μ2
  cases y <;> rfl
theorem ok_revS [ExW] {e : DE} : Ok (dRevS e Γ μ) Q = Ok (e Γ μ) fun x μ1 => OkT x fun z => z.length ≤ 1000000 ∧ Q (.str (revS z)) μ1 := by
  unfold dRevS; rw [ok_bind]; congr 1; funext x μ1
  cases x with
  | str z => exact ok_ite
  | _ => rfl
def OkD (d : D) (P : List (Key × D) → Prop) : Prop := match d with
  | .dK kvs => P kvs
  | _ => False
theorem okd {kvs : List (Key × D)} {P : List (Key × D) → Prop} : OkD (.dK kvs) P = P kvs := id rfl
theorem ok_dGet [ExW] {o i : DE} : Ok (dDGet o i Γ μ) Q = Ok (o Γ μ) fun x μ1 => Ok (i Γ μ1) fun y μ2 => OkD x fun kvs => OkO (keyD y) fun k => OkO (getD' kvs k) fun d => Q d μ2 := by
  unfold dDGet; rw [ok_bind]; congr 1; funext x μ1; rw [ok_bind]; congr 1; funext y μ2
  cases x with
  | dK kvs =>
    show Ok (match keyD y with | some k => R.of μ2 (getD' kvs k) | none => .stk) Q = OkO (keyD y) fun k => OkO (getD' kvs k) fun d => Q d μ2
    cases keyD y with
    | none => rfl
    | some k => exact ok_of
  | _ => rfl
theorem o_mulS {z : Str} {n : Int} {P : D → Prop} : OkO (fMulS μ (.str z) (.int n)) P = ((n.natAbs < 1000000 ∧ z.length * n.toNat ≤ 1000000) ∧ P (.str (Txt.mul z n))) := by
  show OkO (if n.natAbs < 1000000 ∧ z.length * n.toNat ≤ 1000000 then some (D.str (Txt.mul z n)) else none) P = _
  rw [oko_ite]
end
end Ar

set_option Elab.async false
set_option linter.all false
set_option maxRecDepth 100000
set_option maxHeartbeats 2000000
/-! Ar17: repr of data of any depth -/
namespace Ar
open PySem PySem.Spec PyProof.Rows L2

/-- the signs of a text of data are not too many, its ints not too great -/
def showD (d : D) : Bool := plainD 20 d && (toP d).showable && decide ((toP d).shown.length ≤ sizeLine)
def shw (d : D) : Str := (toP d).shown
theorem plain_noDict : ∀ (n : Nat) (d : D), plainD n d = true → (toP d).hasDict = false
  | n, .non, _ => by simp [toP, PyData.hasDict]
  | n, .bl b, _ => by simp [toP, PyData.hasDict]
  | n, .int i, _ => by simp [toP, PyData.hasDict]
  | n, .str i, _ => by simp [toP, PyData.hasDict]
  | 0, .tup ds, h => by simp [plainD] at h
  | 0, .lst ds, h => by simp [plainD] at h
  | n + 1, .tup ds, h => by
    have h1 : ds.all (plainD n) = true := h
    rw [toP, PyData.hasDict]
    clear h
    induction ds with
    | nil => simp [toPs, PyData.hasDictAll]
    | cons d ds ih =>
      rw [List.all_cons, Bool.and_eq_true] at h1
      rw [toPs, PyData.hasDictAll, plain_noDict n d h1.1, ih h1.2]
      rfl
  | n + 1, .lst ds, h => by
    have h1 : ds.all (plainD n) = true := h
    rw [toP, PyData.hasDict]
    clear h
    induction ds with
    | nil => simp [toPs, PyData.hasDictAll]
    | cons d ds ih =>
      rw [List.all_cons, Bool.and_eq_true] at h1
      rw [toPs, PyData.hasDictAll, plain_noDict n d h1.1, ih h1.2]
      rfl
  | n, .scr _, h => by cases n <;> simp [plainD] at h
  | n, .ins _ _, h => by cases n <;> simp [plainD] at h
  | n, .slt _ _, h => by cases n <;> simp [plainD] at h
  | n, .dK _, h => by cases n <;> simp [plainD] at h
  | n, .loc _, h => by cases n <;> simp [plainD] at h
  | n, .glo _, h => by cases n <;> simp [plainD] at h
  | n, .ty _, h => by cases n <;> simp [plainD] at h
  | n, .exn _ _ _ _, h => by cases n <;> simp [plainD] at h
  | n, .adr _, h => by cases n <;> simp [plainD] at h
  | n, .clo _ _ _ _ _, h => by cases n <;> simp [plainD] at h
/-- sizes: every leaf at most B signs -/
theorem show_le (B : Nat) (hB : 8 ≤ B) (d : D) (h : (toP d).leavesShort B = true) (hw : (B + 2) * (toP d).weight + B ≤ sizeLine) : (toP d).shown.length ≤ sizeLine := Nat.le_trans (PyData.shown_le B hB _ h) hw
end Ar

set_option Elab.async false
set_option linter.all false
set_option maxRecDepth 100000
set_option maxHeartbeats 2000000
/-! Ar18: instances that do not change: plain ones (made by __init__ that keeps its parameters), one with slots; attributes; isinstance -/
namespace Ar
open PySem PySem.Spec PyProof.Rows L2

section
variable {K : PySem.W.Frag} {ρ ρ' : List Addr} {F F' H H' : Hp} {μ μ' : Mu}
/-- an object of both heaps is laid or changed, that nothing tells of -/
theorem HpOk.both (k : HpOk K ρ μ F H) {p : Addr} {o : HO} (hp : p ∉ ρ) (hf : F p = none) : HpOk K ρ μ (upd F p o) (upd H p o) := by
  have sub : Sub F (upd F p o) := fun a u e => by
    rw [upd_ne fun z => by subst z; rw [hf] at e; cases e]
    exact e
  refine ⟨fun a u e => ?_, k.len, k.nd, fun n a u e1 e2 => ?_⟩
  · by_cases h : a = p
    · subst h
      rw [upd_same] at e ⊢
      exact e
    · rw [upd_ne h] at e ⊢
      exact k.ex a u e
  · have ne : a ≠ p := fun z => by subst z; exact hp (List.mem_of_getElem? e1)
    exact (k.mu n a u e1 e2).mono (fun _ _ h => h) sub (upd_ne ne) fun z => by rw [upd_ne ne]; exact z
theorem Nx.outF (x : Nx ρ F H ρ' F' H') {p : Addr} {u : HO} (h : H p = some u) (hp : p ∉ ρ) (hf : F p = none) : p ∉ ρ' ∧ F' p = none ∧ H' p = some u := by
  refine ⟨fun z => ?_, ?_, x.keep p u h hp⟩
  · rcases x.newR p z with q | q
    · exact hp q
    · rw [h] at q; cases q
  · cases e : F' p with
    | none => rfl
    | some o =>
      rcases x.newF p o e with q | q | q
      · rw [hf] at q; cases q
      · rw [h] at q; cases q
      · exact absurd q hp
/-- new objects p, q beside; then growth; then p, q are written in both heaps -/
theorem Nx.around {p q : Addr} {op oq vp vq : HO} {H0 : Hp} (h0 : H0 = upd (upd H q oq) p op) (hp : H p = none) (hq : H q = none) (fp : F p = none) (fq : F q = none) (x : Nx ρ F H0 ρ' F' H') : Nx ρ F H ρ' (upd (upd F' q vq) p vp) (upd (upd H' q vq) p vp) := by
  have up : ∀ {G : Hp} {b : Addr} {u v : HO}, b ≠ p → b ≠ q → upd (upd G q v) p u b = G b := fun h1 h2 => by rw [upd_ne h1, upd_ne h2]
  have h00 : ∀ b, b ≠ p → b ≠ q → H0 b = H b := fun b h1 h2 => by rw [h0]; exact up h1 h2
  have hpq : ∀ b, H0 b = none → H b = none := fun b e => by
    by_cases h1 : b = p
    · subst h1; exact hp
    · by_cases h2 : b = q
      · subst h2; exact hq
      · rw [← h00 b h1 h2]; exact e
  refine ⟨x.pre, fun b u e => ?_, fun b u e hb => ?_, fun b h => ?_, fun b u e => ?_, fun b e => ?_⟩
  · have h1 : b ≠ p := fun z => by subst z; rw [fp] at e; cases e
    have h2 : b ≠ q := fun z => by subst z; rw [fq] at e; cases e
    rw [up h1 h2]
    exact x.ex b u e
  · have h1 : b ≠ p := fun z => by subst z; rw [hp] at e; cases e
    have h2 : b ≠ q := fun z => by subst z; rw [hq] at e; cases e
    rw [up h1 h2]
    exact x.keep b u (by rw [h00 b h1 h2]; exact e) hb
  · rcases x.newR b h with z | z
    · exact .inl z
    · exact .inr (hpq b z)
  · by_cases h1 : b = p
    · subst h1; exact .inr (.inl hp)
    · by_cases h2 : b = q
      · subst h2; exact .inr (.inl hq)
      · rw [up h1 h2] at e
        rcases x.newF b u e with z | z | z
        · exact .inl z
        · exact .inr (.inl (hpq b z))
        · exact .inr (.inr z)
  · by_cases h1 : b = p
    · subst h1; exact hp
    · by_cases h2 : b = q
      · subst h2; exact hq
      · rw [up h1 h2] at e
        exact hpq b (x.there b e)
end

/-! ### making -/
theorem Pm.of {P : Program} {w : World} {K : PySem.W.Frag} {mg : Str → Option Value} {base : Heap} {Z : CXT} {k : Nat} {f : Addr} {fd : FuncData} {ps : List Str} {sp : Sp} (F : FnOk P w K mg base Z k f fd ps sp) : Pm P w K mg base Z k f fd ps sp := ⟨F.len, fun A o s H ar us xs D E hr => F.run A o s H ar us xs D E hr.r⟩
theorem guards_make {A : Around} {C : Addr} {us : List Value} {kw : List (Str × Value)} (h : A.guards = some []) : (A.under (.builtin "type.__call__" ⟨.ref C :: us, kw⟩)).guards = some [] := by
  first
  | (simp [Around.under, Code.guards, Code.isGuard, pushGuards, h]; done)
  | (simp [Around.under, Code.guards, Code.isGuard, guardIds, pushGuards, h]; done)
theorem RoomG.make {k : Nat} {A : Around} (h : RoomG (k + 1) A) (C : Addr) (us : List Value) (kw : List (Str × Value)) : RoomG k (A.under (.builtin "type.__call__" ⟨.ref C :: us, kw⟩)) := ⟨h.r.make C us kw, guards_make h.g⟩
section
variable {X : Cx} {Z : CXT} {k : Nat} {f C : Addr} {fd : FuncData} {ps : List Str} {sp : Sp} {E : XK} {x : Str} {p pos : Pos} {e : Expr} {es : List Expr} {ta : TA}
/-- C(e, ..) -/
theorem pe_makeG (M : Mk X.K C f) (G : Pm X.prog X.w X.K X.mg X.base Z k f fd ps sp) (hr : RoomG (k + 1) X.A) (gl : Gl X x) (m : X.mg x = some (.ref C)) (b : Binds X.K fd ps []) (hx : Passes Z X E)
    (ar : PA X (e :: es) ta) (db : (x == ("__debug__" : Str)) = false := by decide) (st : starEach (e :: es) X.env = (false, eval e X.env) :: starEach es X.env := by rfl) (pl : (backTo pos (starEach es X.env)).any (·.1) = false := by rfl) :
    PE X (.Call (.Name x p) (e :: es) [] pos) (tMake C sp [] E ta) := by
  refine ⟨fun pins s0 σ H0 D I0 h0 => wpAny_Call_Name_kw (ld_glob I0 gl m ?_ db)⟩
  refine PySem.W.callWith_K (h₀ := X.base) I0.ok.mod.kin M.kp (thn (ar.run pos pins s0 σ H0 _ I0 h0) fun us s ⟨vs, H, I, r, h⟩ => ⟨I.kIn, ?_⟩) st pl
  have q := h (s.heap.objs.size + 1) s.heap.objs.size (I.hok.fresh (Nat.le_succ _)) (I.hok.fresh (Nat.le_refl _)) (Nat.ne_of_lt (Nat.lt_succ_self _))
  rw [List.append_nil] at q
  have J := Inv.made (C := C) I
  have rr : Vals (V.ref (s.heap.objs.size + 1) :: vs) (Value.ref (s.heap.objs.size + 1) :: us) := .cons rfl r
  have bt := b _ (Value.ref (s.heap.objs.size + 1) :: us) J.kIn (by rw [List.append_nil, ← rr.length]; exact G.ln _ _ _ _ q)
  rw [List.append_nil] at bt
  refine wpAny_call (make_map (f := f) I.kIn M.makes M.init (beq_iff_eq.mp M.fn) (codeAny_mono (G.go _ X.stack _ _ ⟨Value.ref (s.heap.objs.size + 1) :: us, []⟩ _ _ _ E (hr.make C us []) (J.env0.make C us []) bt rr q) fun z s' h2 => ?_))
  rcases z with er | fl
  · exact hx pins σ _ _ er s' J h2
  · cases fl with
    | brk => exact h2.elim
    | cont => exact h2.elim
    | next => exact h2.elim
    | ret u =>
      obtain ⟨v, H', J', rv, ev, q3⟩ := J.after h2
      subst ev
      exact ⟨rv, ⟨V.ref (s.heap.objs.size + 1), H', J', rfl, q3⟩⟩
end
/-- plain instances: __init__ keeps its parameters under these names -/
def spKeep (K : PySem.W.Frag) (C : Str) (fs : List Str) : Sp := fun vs H Q _ => ∃ x dx args, vs = V.ref x :: args ∧ args.length = fs.length ∧ H x = some (.ins (He.ga K C) dx []) ∧ Q .non (upd H x (.ins (He.ga K C) dx (fs.zip args)))
def dMake (C : Str) (fs : List Str) (a : DA) : DE := fun Γ μ => (a Γ μ).bind fun ds μ1 => if ds.length = fs.length then .ok (.ins C (fs.zip ds)) μ1 else .stk
/-! ### attributes -/
def fFld (C f : Str) : D → Option D
  | .ins C' fs => if C' = C then fs.lookup f else none
  | _ => none
def dFld (C f : Str) (e : DE) : DE := fun Γ μ => (e Γ μ).bind fun d μ1 => R.of μ1 (fFld C f d)
/-! ### one slot -/
structure SltK (K : PySem.W.Frag) (C f : Str) (i : Nat) : Prop where
  ex : ∃ p, SlX.SCls K (He.ga K C) ∧ SlX.Slot1 K (He.ga K C) f p i
def fSlt (C : Str) (i : Nat) : D → Option D
  | .slt C' ds => if C' = C then ds[i]? else none
  | _ => none
def dSlt (C : Str) (i : Nat) (e : DE) : DE := fun Γ μ => (e Γ μ).bind fun d μ1 => R.of μ1 (fSlt C i d)
theorem q_slt {X : Cx} {E : XK} {C f : Str} {i : Nat} {e : Expr} {pos : Pos} {de : DE} (k : SltK X.K C f i) (he : QE X E e de) (hb : attributeBase e f X.env (eval e X.env) = eval e X.env := by rfl) : QE X E (.Attribute e f pos) (dSlt C i de) := by
  obtain ⟨te, a1, a2⟩ := he.ex
  obtain ⟨p, c, t⟩ := k.ex
  refine ⟨_, SlX.pe_sl a1 hb, ?_⟩
  intro ρ F H Γ μ σ kk s Q h
  refine a2 ρ F H Γ μ σ kk s _ ((WpR.bind h).mono (fun d μ1 q => ?_) fun _ _ q => q)
  intro ρ1 F1 H1 v n1 k1 r1
  obtain ⟨z, ez, q9⟩ := WpR.of q
  unfold fSlt at ez
  split at ez
  · rename_i C' ds
    split at ez
    · rename_i hC
      subst hC
      cases r1 with
      | @slt a dx _ vs _ h1 h2 h3 =>
        obtain ⟨v', e1, r2⟩ := h3.get ez
        refine ⟨a, _, dx, p, vs.map some, i, v', rfl, .inr ⟨k1.ex _ _ h1, k1.ex _ _ h2⟩, c, t, ?_, q9 ρ1 F1 H1 v' n1 k1 r2⟩
        rw [List.getElem?_map, e1]
        rfl
    · cases ez
  · cases ez
/-! ### isinstance(x, C), C a class with slots -/
structure IsiK (K : PySem.W.Frag) (C : Str) : Prop where
  s : SlX.SCls K (He.ga K C)
  i : SlX.SIsi K (He.ga K C)
  one : PySem.W.kitOne K (.ref (He.ga K C)) (.ref (He.ga K C)) = some true
def fIsaC (C : Str) : Mu → List D → Option D := fun _ ds => match ds with
  | [.slt C' _, .glo C2] => if C' = C ∧ C2 = C then some (.bl true) else none
  | _ => none
theorem cd_isaC {X : Cx} {C : Str} (k : IsiK X.K C) : CallD X (.builtin "isinstance") (fIsaC C) := by
  refine ⟨_, SlX.call_isiSl (.ref (He.ga X.K C)), fun ρ F H μ vs ds z kk rv ez Q q => ?_⟩
  unfold fIsaC at ez
  split at ez
  · rename_i C' ds C2
    split at ez
    · rename_i hC
      obtain ⟨rfl, rfl⟩ := hC
      cases ez
      cases rv with
      | cons r1 r2 =>
        cases r2 with
        | cons r2 r3 =>
          cases r3
          cases r2
          cases r1 with
          | @slt a dx _ vs _ h1 h2 h3 =>
            exact ⟨a, _, dx, vs.map some, _, true, rfl, rfl, fun w hw => hw, .inr ⟨kk.ex _ _ h1, kk.ex _ _ h2⟩, k.s, k.i, k.one, q ρ F H _ Nx.refl kk (.bl true)⟩
    · cases ez
  · cases ez
/-! ### an __init__ that keeps its parameters -/
/-! ### a class with one slot, whose __init__ may refuse -/
def spSlot (K : PySem.W.Frag) (C : Str) (m : Fn) : Sp := fun vs H Q _ => ∃ x dx v d ρ F μ, vs = [V.ref x, v] ∧ H x = some (.ins (He.ga K C) dx []) ∧ HpOk K ρ μ F H ∧ Dn K ρ F v d ∧ x ∉ ρ ∧ F x = none ∧
  WpR (m [d] μ) (fun r μ2 => r = .non ∧ ∀ ρ2 F2 H2, Nx ρ F H ρ2 F2 H2 → HpOk K ρ2 μ2 F2 H2 → Q .non (SlX.slH H2 x (He.ga K C) dx [some v])) fun _ _ => False
theorem init_slot {P : Program} {w : World} {K : PySem.W.Frag} {mg : Str → Option Value} {base : Heap} {Z : CXT} {C y qual : Str} {params : Arguments} {body : List Stmt} {scope : Scope} {f : Addr} {fd : FuncData} {k : Nat} {g self b a : Str} {m : Fn}
    (F : FunD K y qual params body scope [] [] f fd) (S : FnScope [self, b, a] [self, b] scope) (sk : SltK K C g 0)
    (hb : ∀ (cdv : Value) (A : Around) (o : List Env) (s : Shared) (H : Hp) (E : XK), RoomG k (A.deeper (envOfC qual scope s.heap.objs.size f cdv)) → ∃ te tc, SimE K E te (dCall m (daCons (dVar 1) daNil)) ∧ SimT K E tc (dTest (dBin (fIs true) (dVar 2) (dC .non))) ∧
      PSs (cxOf Z P w K mg base [self, b, a] qual scope f cdv A o s H E) body (tSeq (tAsg te (gName 2)) (tSeq (tIfS tc tNever tNext) (SlX.sSl K (tVar 0) (tVar 1) g)))) :
    Pm P w K mg base Z (k + 1) f fd [self, b] (spSlot K C m) := by
  obtain ⟨p, sc, sl⟩ := sk.ex
  refine fn_ofG F S (fun xs H D E h => ?_) (fun cdv A o s H xs D E hr h => ?_)
  · obtain ⟨x, dx, v, d, ρ, F, μ, rfl, _⟩ := h
    rfl
  · obtain ⟨x, dx, v, d, ρ, F0, μ, rfl, hx, k0, rv, nx, fx, h⟩ := h
    obtain ⟨te, tc, s1, s2, pss⟩ := hb cdv A o s H E hr
    refine ⟨_, pss, ?_⟩
    have s0 : Slots K ρ F0 [none, some d, none] (L2.start [self, b, a] [V.ref x, v]) := by
      refine ⟨rfl, fun i e he => ?_⟩
      match i, he with
      | 0, he => cases he
      | 1, he => cases he; exact ⟨v, rfl, rv⟩
      | 2, he => cases he
      | n + 3, he => cases he
    refine s1 ρ F0 H _ μ _ k0 s0 _ (WpR.mono (show WpR (m [d] μ) _ _ from h) (fun r μ2 q => ?_) fun _ _ q => q.elim)
    obtain ⟨rfl, q⟩ := q
    intro ρ1 F1 H1 v1 n1 k1 r1
    cases r1
    have s3 : Slots K ρ1 F1 [none, some d, some .non] ((L2.start [self, b, a] [V.ref x, v]).set 2 (some V.non)) := (s0.nx n1).set (d := .non) .non 2
    refine s2 ρ1 F1 H1 [none, some d, some .non] μ2 _ k1 s3 _ (show WpR (R.ok false μ2) _ _ from ?_)
    intro ρ2 F2 H2 n2 k2
    have nn := n1.trans n2
    obtain ⟨_, _, h2⟩ := nn.outF hx nx fx
    refine ⟨v, rfl, .ref x, rfl, x, He.ga K C, dx, p, [], 0, rfl, .inl ⟨h2, rfl⟩, sc, sl, ?_⟩
    exact q ρ2 F2 H2 nn k2
structure MkS (P : Program) (w : World) (K : PySem.W.Frag) (mg : Str → Option Value) (base : Heap) (C : Str) (k : Nat) (m : Fn) : Prop where
  ex : ∃ f fd ps, Mk K (He.ga K C) f ∧ mg C = some (.ref (He.ga K C)) ∧ Binds K fd ps [] ∧ Pm P w K mg base (L2.CX P w) k f fd ps (spSlot K C m)
def dMakeS (C : Str) (m : Fn) (a : DA) : DE := fun Γ μ => (a Γ μ).bind fun ds μ1 => match ds with
  | [d] => (m [d] μ1).nox.bind fun r μ2 => match r with
    | .non => .ok (.slt C [d]) μ2
    | _ => .stk
  | _ => .stk
theorem sim_makeS {K : PySem.W.Frag} {E : XK} {C : Str} {m : Fn} {ta : TA} {da : DA} (ha : SimA K E ta da) : SimE K E (tMake (He.ga K C) (spSlot K C m) [] E ta) (dMakeS C m da) := by
  intro ρ F H Γ μ σ k s Q h
  refine ha ρ F H Γ μ σ k s _ ((WpR.bind h).mono (fun ds μ1 q => ?_) fun _ _ q => q)
  intro ρ1 F1 H1 vs n1 k1 r1
  split at q
  · rename_i d
    intro x dx hx hdx hne
    cases r1 with
    | cons r1 r2 =>
      cases r2
      rename_i v
      have kb := k1.beside (o := .own x) (k1.fresh hdx) (k1.freshF hdx)
      have kb2 := kb.beside (p := x) (o := .ins (He.ga K C) dx []) (k1.fresh hx) (k1.freshF hx)
      refine ⟨x, dx, v, d, ρ1, F1, μ1, rfl, upd_same, kb2, r1, k1.fresh hx, k1.freshF hx, ?_⟩
      have q := WpR.bind q
      refine (WpR.nox (X' := fun _ _ => False) q).mono (fun r μ2 q2 => ?_) fun _ _ q => q
      · split at q2
        · refine ⟨rfl, fun ρ2 F2 H2 n2 k2 => ⟨rfl, ?_⟩⟩
          have odx : upd (upd H1 dx (.own x)) x (.ins (He.ga K C) dx []) dx = some (.own x) := by rw [upd_ne hne, upd_same]
          obtain ⟨a1, a2, a3⟩ := n2.outF odx (k1.fresh hdx) (k1.freshF hdx)
          obtain ⟨b1, b2, b3⟩ := n2.outF upd_same (k1.fresh hx) (k1.freshF hx)
          have k3 := k2.both (o := .xd []) a1 a2
          have k4 := k3.both (p := x) (o := SlX.SlO x (He.ga K C) dx [some v]) b1 (by rw [upd_ne (Ne.symm hne)]; exact b2)
          have nn := Nx.around (vp := SlX.SlO x (He.ga K C) dx [some v]) (vq := .xd []) rfl hx hdx (k1.freshF hx) (k1.freshF hdx) n2
          refine q2 _ _ _ _ (n1.trans nn) k4 (.slt (dx := dx) (vs := [v]) upd_same (by rw [upd_ne hne, upd_same]) (.cons (r1.nx nn) .nil))
        · exact q2.elim
  · exact q.elim
theorem q_makeS {X : Cx} {E : XK} {C : Str} {k : Nat} {m : Fn} {p pos : Pos} {e : Expr} {es : List Expr} {da : DA} (G : MkS X.prog X.w X.K X.mg X.base C k m) (hr : RoomG (k + 1) X.A) (hp : Passes (L2.CX X.prog X.w) X E) (ha : QA X E (e :: es) da) (hg : Gl X C := by rfl)
    (hdb : (C == ("__debug__" : Str)) = false := by decide) (he : starEach (e :: es) X.env = (false, eval e X.env) :: starEach es X.env := by rfl) (hpl : (backTo pos (starEach es X.env)).any (·.1) = false := by rfl) :
    QE X E (.Call (.Name C p) (e :: es) [] pos) (dMakeS C m da) := by
  obtain ⟨f, fd, ps, h1, h2, h3, h4⟩ := G.ex
  obtain ⟨ta, a1, a2⟩ := ha.ex
  exact ⟨_, pe_makeG h1 h4 hr hg h2 h3 hp a1 hdb he hpl, sim_makeS a2⟩
end Ar

set_option Elab.async false
set_option linter.all false
set_option maxRecDepth 100000
set_option maxHeartbeats 2000000
/-! Ar19: classes at the head; chains -/
namespace Ar
open PySem PySem.Spec PyProof.Rows L2

def clsBody (s : Stmt) : List Stmt := match s with
  | .ClassDef _ _ _ b _ _ _ _ _ _ _ => b
  | _ => []
def clsAt (s : Stmt) (i : Nat) : Stmt := (clsBody s).getD i (.Pass ⟨0, 0, 0, 0⟩)
def sltB (K : PySem.W.Frag) (C f : Str) : Bool :=
  PySem.W.plainGet K (He.ga K C) Str.empty && (PySem.W.isClsIn K (He.ga K C) && (PySem.W.plainOver K (He.ga K C) && (He.eqO (PySem.W.findIn K (.ref (He.ga K C)) "__setattr__") (some (some (.builtin "object.__setattr__"))) &&
  (He.eqO (PySem.W.findIn K (.ref (He.ga K C)) f) (some (some (.ref (He.ma K (He.ga K C) f)))) && (He.eqO (PySem.W.specialIn K (.ref (He.ma K (He.ga K C) f)) "__get__") (some (some (.builtin "member_descriptor.__get__"))) &&
  (decide (PySem.W.takesIn K (.ref (He.ma K (He.ga K C) f)) = some true) && (decide (PySem.W.typeIn K (.ref (He.ma K (He.ga K C) f)) = some (.type "member_descriptor")) && decide (PySem.W.slotIn K (He.ma K (He.ga K C) f) (He.ga K C) = some 0))))))))
def isiB (K : PySem.W.Frag) (C : Str) : Bool :=
  He.eqO (PySem.W.findIn K (.ref (He.ga K C)) "__class__") (some (some (.builtin "object.__class__"))) && (He.eqO (PySem.W.specialIn K (.builtin "object.__class__") "__get__") (some (some (.builtin "getset_descriptor.__get__"))) &&
  (decide (PySem.W.takesIn K (.builtin "object.__class__") = some true) && (decide (PySem.W.mroIn K (He.ga K C) (.type "object") = some true) && decide (PySem.W.kitOne K (.ref (He.ga K C)) (.ref (He.ga K C)) = some true))))
theorem sltB_ok {K : PySem.W.Frag} {C f : Str} (h : sltB K C f = true) : SltK K C f 0 := by
  obtain ⟨c1, h⟩ := He.ba h
  obtain ⟨c2, h⟩ := He.ba h
  obtain ⟨c3, h⟩ := He.ba h
  obtain ⟨c4, h⟩ := He.ba h
  obtain ⟨c5, h⟩ := He.ba h
  obtain ⟨c6, h⟩ := He.ba h
  obtain ⟨c7, h⟩ := He.ba h
  obtain ⟨c8, c9⟩ := He.ba h
  exact ⟨_, ⟨c1, c2, c3, He.eqO_ok c4⟩, ⟨He.eqO_ok c5, He.eqO_ok c6, of_decide_eq_true c7, of_decide_eq_true c8, of_decide_eq_true c9, by decide⟩⟩
theorem isiB_ok {K : PySem.W.Frag} {C f : Str} (h : sltB K C f = true) (h2 : isiB K C = true) : IsiK K C := by
  obtain ⟨p, s, _⟩ := (sltB_ok h).ex
  obtain ⟨c1, h2⟩ := He.ba h2
  obtain ⟨c2, h2⟩ := He.ba h2
  obtain ⟨c3, h2⟩ := He.ba h2
  obtain ⟨c4, c5⟩ := He.ba h2
  exact ⟨s, ⟨He.eqO_ok c1, He.eqO_ok c2, of_decide_eq_true c3, of_decide_eq_true c4⟩, of_decide_eq_true c5⟩
theorem glo_cls {K : PySem.W.Frag} {h : Heap} {mg : Str → Option Value} {x : Str} (X : K.In h) (G : h.Ns mainGlobals mg) (c1 : (He.Fa.glo x).ok K = true) : GloC K mg x (.glo x) := ⟨.ref (He.ga K x), .ref (He.ga K x), He.glo_ok X G c1, rfl, fun _ _ => .glo x⟩
theorem mkS {P : Program} {w : World} {K : PySem.W.Frag} {mg : Str → Option Value} {base : Heap} {C y qual : Str} {params : Arguments} {body : List Stmt} {scope : Scope} {f : Addr} {fd : FuncData} {ps : List Str} {k : Nat} {m : Fn} (F : FunD K y qual params body scope [] [] f fd) (M : Mk K (He.ga K C) f) (g : mg C = some (.ref (He.ga K C)))
    (hb : ∀ (kV doc pm : Value) (an : Option Addr) (cdv ct : Value) (us : List Value), us.length = ps.length → bindArgs (PySem.W.fnOf y qual params body scope Value.none kV doc pm an cdv ct) { pos := us } = pure (ps.zip us))
    (ok : Pm P w K mg base (L2.CX P w) k f fd ps (spSlot K C m)) : MkS P w K mg base C k m := ⟨f, fd, ps, M, g, F.bindsN hb, ok⟩
end Ar

set_option Elab.async false
set_option linter.all false
set_option maxRecDepth 100000
set_option maxHeartbeats 2000000
/-! Ar20: a if t else b as a test; Ok rules of instances -/
namespace Ar
open PySem PySem.Spec PyProof.Rows L2

def dIfT (t x y : DT) : DT := fun Γ μ => (t Γ μ).bind fun c μ1 => match c with
  | true => x Γ μ1
  | false => y Γ μ1
def tIfT (t ta tb : TT) : TT := fun σ H Q => t σ H fun c H1 => if c = true then ta σ H1 Q else tb σ H1 Q
section
variable {X : Cx} {E : XK} {c a b : Expr} {t da db : DT} {pos : Pos}
theorem qt_if (hc : QT X E c t) (ha : QT X E a da) (hb : QT X E b db) : QT X E (.IfExp c a b pos) (dIfT t da db) := by
  obtain ⟨tc, c1, c2⟩ := hc.ex
  obtain ⟨ta, a1, a2⟩ := ha.ex
  obtain ⟨tb, b1, b2⟩ := hb.ex
  refine ⟨tIfT tc ta tb, ⟨fun pins s σ H Q I h => ?_⟩, ?_⟩
  · rw [arm_isTrue_IfExp]
    refine wpAny_bind (thn (c1.run pins s σ H _ I h) fun d s1 ⟨H1, I1, q1⟩ => ?_)
    cases d with
    | true => exact a1.run pins s1 σ H1 Q I1 q1
    | false => exact b1.run pins s1 σ H1 Q I1 q1
  · intro ρ F H Γ μ σ k s Q h
    refine c2 ρ F H Γ μ σ k s _ (h.bind.mono (fun x μ1 q => ?_) fun _ _ q => q)
    intro ρ1 F1 H1 n1 k1
    cases x with
    | true =>
      show ta σ H1 Q
      exact a2 ρ1 F1 H1 Γ μ1 σ k1 (s.nx n1) Q (WpR.mono q (fun b μ2 q2 ρ2 F2 H2 n2 k2 => q2 ρ2 F2 H2 (n1.trans n2) k2) fun _ _ q => XP.nx n1 q)
    | false =>
      show tb σ H1 Q
      exact b2 ρ1 F1 H1 Γ μ1 σ k1 (s.nx n1) Q (WpR.mono q (fun b μ2 q2 ρ2 F2 H2 n2 k2 => q2 ρ2 F2 H2 (n1.trans n2) k2) fun _ _ q => XP.nx n1 q)
end
/-! ### Ok rules -/
section
variable {Γ : Gam} {μ : Mu} {Q : D → Mu → Prop}
theorem ok_ifT [ExW] {t x y : DT} {QB : Bool → Mu → Prop} : Ok (dIfT t x y Γ μ) QB = Ok (t Γ μ) fun c μ1 => if c = true then Ok (x Γ μ1) QB else Ok (y Γ μ1) QB := by
  unfold dIfT; rw [ok_bind]; congr 1; funext c μ1; cases c <;> rfl
theorem ok_fld [ExW] {C f : Str} {e : DE} : Ok (dFld C f e Γ μ) Q = Ok (e Γ μ) fun d μ1 => OkO (fFld C f d) fun z => Q z μ1 := by
  unfold dFld; rw [ok_bind]; congr 1; funext d μ1; rw [ok_of]
theorem ok_slt [ExW] {C : Str} {i : Nat} {e : DE} : Ok (dSlt C i e Γ μ) Q = Ok (e Γ μ) fun d μ1 => OkO (fSlt C i d) fun z => Q z μ1 := by
  unfold dSlt; rw [ok_bind]; congr 1; funext d μ1; rw [ok_of]
theorem o_slt0 {C : Str} {d : D} {P : D → Prop} : OkO (fSlt C 0 (.slt C [d])) P = P d := by
  show OkO (if C = C then some d else none) P = _
  rw [if_pos rfl]; rfl
theorem ok_make [ExW] {C : Str} {fs : List Str} {a : DA} : Ok (dMake C fs a Γ μ) Q = Ok (a Γ μ) fun ds μ1 => ds.length = fs.length ∧ Q (.ins C (fs.zip ds)) μ1 := by
  unfold dMake
  rw [ok_bind]
  congr 1
  funext ds μ1
  by_cases h : ds.length = fs.length
  · rw [if_pos h]; exact propext ⟨fun z => ⟨h, z⟩, fun z => z.2⟩
  · rw [if_neg h]; exact propext ⟨fun z => False.elim z, fun z => h z.1⟩
theorem ok_makeS [ExW] {C : Str} {m : Fn} {e : DE} : Ok (dMakeS C m (daCons e daNil) Γ μ) Q = Ok (e Γ μ) fun d μ1 => @Ok xp0 D (m [d] μ1) fun r μ2 => r = .non ∧ Q (.slt C [d]) μ2 := by
  unfold dMakeS
  rw [ok_bind, ok_cons]
  congr 1
  funext d μ1
  rw [ok_nil]
  show Ok (((m [d] μ1).nox).bind _) Q = _
  rw [ok_bind, ok_nox]
  congr 1
  funext r μ2
  cases r <;> first | exact propext ⟨fun z => ⟨rfl, z⟩, fun z => z.2⟩ | exact propext ⟨fun z => False.elim z, fun z => nomatch z.1⟩
theorem o_isaC {μ : Mu} {C : Str} {ds : List D} {P : D → Prop} : OkO (fIsaC C μ [.slt C ds, .glo C]) P = P (.bl true) := by
  simp only [fIsaC, and_self, if_true]; rfl
theorem o_isn_ins {μ : Mu} {C : Str} {ds} {P : D → Prop} : OkO (fIs true μ (.ins C ds) .non) P = P (.bl true) := id rfl
theorem o_is_ins {μ : Mu} {C : Str} {ds} {P : D → Prop} : OkO (fIs false μ (.ins C ds) .non) P = P (.bl false) := id rfl
end
end Ar

set_option Elab.async false
set_option linter.all false
set_option maxRecDepth 100000
set_option maxHeartbeats 2000000
/-! Ar21: zip of a tuple and a list -/
namespace Ar
open PySem PySem.Spec PyProof.Rows L2

def ItzM (K : PySem.W.Frag) (a b : Addr) : It :=
  ⟨fun i H => ∃ (xs ys : List V) (x y : V), SqT K H a xs ∧ SqL K H b ys ∧ xs[i]? = some x ∧ ys[i]? = some y,
    fun i H v H' => ∃ T x y, v = .ref T ∧ H T = none ∧ H' = upd H T (.tup [x, y]) ∧ (∀ xs, SqT K H a xs → xs[i]? = some x) ∧ ∀ ys, SqL K H b ys → ys[i]? = some y,
    fun i H => ∃ xs ys : List V, SqT K H a xs ∧ SqL K H b ys ∧ i ≤ xs.length ∧ i ≤ ys.length ∧ (i = xs.length ∨ i = ys.length)⟩
def StM (z TI TO i1 i2 a b : Addr) (i : Nat) (h : Heap) : Prop := IsZip h z TI TO .none ∧ IsTupOf2 h TI (.ref i1) (.ref i2) ∧ (∃ x y, IsTupOf2 h TO x y) ∧ h.IsTupleIter i1 a i ∧ h.IsListIter i2 b i
theorem turnM {P : Program} {w : World} {K : PySem.W.Frag} {elts : List Expr} {kk : Nat} {tpos : Pos} {a b z TI TO i1 i2 : Addr} (S : ZipSep2 z TI TO i1 i2 [i1, a] [i2, b]) (na : a ≠ i1) (nb : b ≠ i2) : Turn P w K (.Tuple elts kk tpos) (ItzM K a b) [z, TI, TO, i1, i2] z (StM z TI TO i1 i2 a b) := by
  have five : ∀ {c : Addr}, c ∈ [z, TI, TO, i1, i2] → c = z ∨ c = TI ∨ c = TO ∨ c = i1 ∨ c = i2 := fun h => by simpa using h
  refine ⟨by simp, ?_, ?_, ?_, ?_, fun A i s Q E t h => wpAny_pyIter_zip t.1 h⟩
  · rintro i h ⟨g1, g2, ⟨x, y, g3⟩, ⟨p, p1, _, p2⟩, ⟨q, q1, _, q2⟩⟩ c hc
    rcases five hc with rfl | rfl | rfl | rfl | rfl
    · exact ⟨_, g1, fun v u => nomatch u⟩
    · exact ⟨_, g2, fun v u => nomatch u⟩
    · exact ⟨_, g3, fun v u => nomatch u⟩
    · exact ⟨p, p1, fun v u => by rw [p2] at u; cases u⟩
    · exact ⟨q, q1, fun v u => by rw [q2] at u; cases u⟩
  · rintro i h h' ⟨g1, g2, ⟨x, y, g3⟩, g4, g5⟩ k
    have kk : ∀ c o, c ∈ [z, TI, TO, i1, i2] → h.get? c = some o → h'.get? c = some o := fun c o m e => k c m o e
    exact ⟨kk z _ (by simp) g1, kk TI _ (by simp) g2, ⟨x, y, kk TO _ (by simp) g3⟩, g4.at fun o e => kk i1 o (by simp) e, g5.at fun o e => kk i2 o (by simp) e⟩
  · intro X eP ew eK hc i pins s σ H E I ap t g
    subst eP ew eK
    obtain ⟨g1, g2, ⟨u0, v0, g3⟩, g4, g5⟩ := t
    obtain ⟨xs, ys, x, y, tx, ly, ex, ey⟩ := g
    obtain ⟨ts, rt, pt, _⟩ := I.tuple tx
    obtain ⟨ls, rl, pl, _⟩ := I.list ly
    obtain ⟨u, eu, ru⟩ := rt.get ex
    obtain ⟨v, ev, rv⟩ := rl.get ey
    have hd : X.A.in1.handled = none := I.ok.hd hc
    have lz : z < s.heap.objs.size := Heap.lt_size g1
    have i1n : i < ts.toArray.size := by simpa using (List.getElem?_eq_some_iff.mp eu).1
    have i2n : i < ls.toArray.size := by simpa using (List.getElem?_eq_some_iff.mp ev).1
    refine wpAny_pyNext_zipD2_item S (Draws.tuple hd i1 a na ts.toArray) (Draws.list hd i2 b nb ls.toArray) g1 g2 g3 ⟨g4, pt⟩ ⟨g5, pl.isList⟩ i1n i2n fun w1 w2 h' tk q1 q2 b1 b2 d1 d2 b5 b6 b7 => ?_
    have e1 : w1 = u := by
      have q1 : ts.toArray[i]? = some w1 := q1
      rw [List.getElem?_toArray, eu] at q1
      exact (Option.some.inj q1).symm
    have e2 : w2 = v := by
      have q2 : ls.toArray[i]? = some w2 := q2
      rw [List.getElem?_toArray, ev] at q2
      exact (Option.some.inj q2).symm
    subst e1 e2
    refine ⟨_, rfl, wpAny_letOwnedTupleGo_zip (s := { s with heap := h', toks := tk }) b1 fun h2 z2 sb => ?_⟩
    have tup : h2.get? s.heap.objs.size = some { cls := .type "tuple", data := .seq #[w1, w2] } := (sb.2 _ (Nat.ne_of_gt lz)).trans b5
    have nw : ObjOk X.prog X.w (upd H s.heap.objs.size (.tup [x, y])) h2 s.heap.objs.size (.tup [x, y]) := ⟨by show 2 ≤ sizeLine; decide, [w1, w2], .cons ru (.cons rv .nil), ⟨_, tup, rfl, _, rfl⟩⟩
    have old : ∀ c o, c ∉ [z, TI, TO, i1, i2] → s.heap.get? c = some o → h2.get? c = some o := fun c o n e =>
      (sb.2 c fun q => n (by simp [q])).trans (b7 c o (fun q => n (by simp [q])) (fun q => n (by simp [q])) (fun q => n (by simp [q])) (fun q => n (by simp [q])) e)
    have J := I.turnedNew (t' := tk) (ch := [z, TI, TO, i1, i2]) old ap (Nat.le_refl _) nw
    refine ⟨.ref s.heap.objs.size, _, J, rfl, ⟨_, x, y, rfl, I.hok.fresh (Nat.le_refl _), rfl, fun l m => ?_, fun l m => ?_⟩, ⟨z2, ?_, ⟨w1, w2, ?_⟩, ?_, ?_⟩, fun c m => ?_⟩
    · rw [I.tuple_inj m tx]; exact ex
    · rw [I.list_inj m ly]; exact ey
    · exact (sb.2 TI S.TIz).trans (b7 TI _ S.TIz S.TITO S.TIi1 S.TIi2 g2)
    · exact (sb.2 TO S.TOz).trans b2
    · exact d1.1.at fun o q => (sb.2 i1 (Ne.symm S.zi1)).trans q
    · exact d2.1.at fun o q => (sb.2 i2 (Ne.symm S.zi2)).trans q
    · have lt : c < s.heap.objs.size := by
        rcases five m with rfl | rfl | rfl | rfl | rfl
        · exact lz
        · exact Heap.lt_size g2
        · exact Heap.lt_size g3
        · obtain ⟨_, q, _⟩ := g4; exact Heap.lt_size q
        · obtain ⟨_, q, _⟩ := g5; exact Heap.lt_size q
      rw [upd_ne (Nat.ne_of_lt lt)]
      exact (ap c m).1
  · intro X eP ew eK hc i pins s σ H E I ap t g
    subst eP ew eK
    obtain ⟨g1, g2, ⟨u0, v0, g3⟩, g4, g5⟩ := t
    obtain ⟨xs, ys, tx, ly, l1, l2, en⟩ := g
    obtain ⟨ts, rt, pt, _⟩ := I.tuple tx
    obtain ⟨ls, rl, pl, _⟩ := I.list ly
    have z1 := rt.length
    have z2 := rl.length
    have hd : X.A.in1.handled = none := I.ok.hd hc
    refine wpAny_pyNext_zipD2_end S (Draws.tuple hd i1 a na ts.toArray) (Draws.list hd i2 b nb ls.toArray) g1 g2 g3 ⟨g4, pt⟩ ⟨g5, pl.isList⟩ (by simp; omega) (by simp; omega) (by simp; omega) fun h' tk b7 => ?_
    exact ⟨rfl, I.turnedL (t' := tk) (ch := [z, TI, TO, i1, i2]) (fun c o n e => b7 c o (fun q => n (by simp [q])) (fun q => n (by simp [q])) (fun q => n (by simp [q])) (fun q => n (by simp [q])) e) ap⟩
def iZipM (K : PySem.W.Frag) (ta : TA) : TI := fun σ H R => ta σ H fun vs H1 => ∃ a b xs ys, vs = [.ref a, .ref b] ∧ SqT K H1 a xs ∧ SqL K H1 b ys ∧ R (ItzM K a b) H1
theorem pi_zipM {X : Cx} {e e2 : Expr} {ta : TA} {p pos tpos : Pos} {elts : List Expr} {kk : Nat} (hg : Gl X "zip") (hm : X.mg "zip" = none) (ha : PA X [e, e2] ta)
    (st : starEach [e, e2] X.env = (false, eval e X.env) :: starEach [e2] X.env := by rfl) (pl : (backTo pos (starEach [e2] X.env)).any (·.1) = false := by rfl) :
    PI X (.Tuple elts kk tpos) (.Call (.Name "zip" p) [e, e2] [] pos) (iZipM X.K ta) := by
  refine ⟨fun pins s0 σ H0 R I0 h => Call_ (ld_blt I0 hg hm PyProof.Rows.boot_zip (PyProof.Rows.callWith_type1 (thn (ha.run pos pins s0 σ H0 _ I0 h) fun us s ⟨vs, H, I, r, q⟩ => ?_) st pl))⟩
  obtain ⟨a, b, xs, ys, rfl, tx, ly, q⟩ := q
  obtain ⟨u1, u2, rfl, r1, r2⟩ := r.two
  cases (show u1 = Value.ref a from r1)
  cases (show u2 = Value.ref b from r2)
  obtain ⟨ts, rt, pt, _⟩ := I.tuple tx
  obtain ⟨ls, rl, plx, _⟩ := I.list ly
  obtain ⟨oa, ha, _⟩ := id pt
  have la : a < s.heap.objs.size := Heap.lt_size ha
  have lb : b < s.heap.objs.size := plx.lt
  refine zip_begins2 (begins_tuple a ts.toArray) (begins_list b ls.toArray) pt plx.isList fun h' b1 b2 b3 b4 b5 b6 b7 => wpAny_pyIter_zip b1 ?_
  have J : Inv X pins σ H { s with heap := h' } := I.kept (t' := s.toks) b7
  refine ⟨s.heap.objs.size + 4, [s.heap.objs.size + 4, s.heap.objs.size + 2, s.heap.objs.size + 3, s.heap.objs.size, s.heap.objs.size + 1], _, _, H, rfl, J,
    turnM (zip_sep2 (fp1 := [a]) (fp2 := [b]) (fun c m => by rw [List.mem_singleton.mp m]; exact la) fun c m => by rw [List.mem_singleton.mp m]; exact lb) (Nat.ne_of_lt la) (Nat.ne_of_lt (Nat.lt_succ_of_lt lb)),
    ⟨b1, b2, ⟨_, _, b3⟩, ⟨_, b4, rfl, rfl⟩, ⟨_, b5, rfl, rfl⟩⟩, fun c m => ?_, q⟩
  have le : s.heap.objs.size ≤ c := by
    simp only [List.mem_cons, List.not_mem_nil, or_false] at m
    rcases m with rfl | rfl | rfl | rfl | rfl <;> first | exact Nat.le_add_right _ _ | exact Nat.le_refl _
  exact I.fpOk le (I.hok.fresh le)
/-! ### in data -/
def diZipM (a : DA) : DA := fun Γ μ => (a Γ μ).bind fun xs μ1 => match xs with
  | [.tup ds, y] => (seqIL y μ1).bind fun es μ3 => .ok (zipD ds es) μ3
  | _ => .stk
theorem itok_zipM {K : PySem.W.Frag} {ρ : List Addr} {F : Hp} {a b : Addr} {vs ws : List V} {ds es : List D} (h : SqT K F a vs) (r : DnAll K ρ F vs ds) (h' : SqL K F b ws) (r' : DnAll K ρ F ws es) : ItOk K ρ F (ItzM K a b) (zipD ds es) := by
  have n1 := r.length
  have n2 := r'.length
  refine ⟨fun i H s hi => ?_, fun i H s hi => ?_, fun i ρ2 F2 H2 μ2 x H3 s p k y hi => ?_⟩
  · rw [zipD_len] at hi
    exact ⟨vs, ws, vs[i]'(by omega), ws[i]'(by omega), s.sqT h, s.sqL h', List.getElem?_eq_getElem _, List.getElem?_eq_getElem _⟩
  · rw [zipD_len] at hi
    exact ⟨vs, ws, s.sqT h, s.sqL h', by omega, by omega, by omega⟩
  · obtain ⟨T, z, z', rfl, hT, rfl, y, y'⟩ := y
    obtain ⟨d, hd, rd⟩ := r.getV (y vs (k.ex.sqT (s.sqT h)))
    obtain ⟨d', hd', rd'⟩ := r'.getV (y' ws (k.ex.sqL (s.sqL h')))
    obtain ⟨m2, k2, r2⟩ := new_tup (vs := [z, z']) (ds := [d, d']) k (.cons (rd.mono p s) (.cons (rd'.mono p s) .nil)) hT
    exact ⟨_, _, zipD_get ds es i d d' hd hd', m2, k2, r2⟩
theorem qi_zipM {X : Cx} {E : XK} {e e2 : Expr} {da : DA} {elts : List Expr} {kk : Nat} {tpos p pos : Pos} (hm : X.mg "zip" = none) (ha : QA X E [e, e2] da) (hg : Gl X "zip" := by rfl)
    (st : starEach [e, e2] X.env = (false, eval e X.env) :: starEach [e2] X.env := by rfl) (pl : (backTo pos (starEach [e2] X.env)).any (·.1) = false := by rfl) :
    QI X E (.Tuple elts kk tpos) (.Call (.Name "zip" p) [e, e2] [] pos) (diZipM da) := by
  obtain ⟨ta, a1, a2⟩ := ha.ex
  refine ⟨_, pi_zipM hg hm a1 st pl, ?_⟩
  intro ρ F H Γ μ σ k s Rr h
  refine a2 ρ F H Γ μ σ k s _ ((WpR.bind h).mono (fun xs μ1 q => ?_) fun _ _ q => q)
  intro ρ1 F1 H1 vs n1 k1 r1
  split at q
  · rename_i ds y
    cases r1 with
    | cons r1 r2 =>
      cases r2 with
      | cons r2 r3 =>
        cases r3
        cases r1 with
        | @tup a xs _ h1 h2 =>
          cases hs : seqIL y μ1 with
          | stk => rw [hs] at q; exact q.elim
          | exc _ _ => unfold seqIL at hs; split at hs <;> first | (cases hs; done) | (split at hs <;> cases hs)
          | ok es μ2 =>
            rw [hs] at q
            obtain ⟨b, ws, F2, rfl, k2, n2, g1, g2⟩ := seqIL_ok k1 r2 hs
            exact ⟨a, b, xs, ws, rfl, k2.ex.sqT (n2.ex.sqT h1), k2.ex.sqL g1, q ρ1 F2 H1 _ (n1.trans n2) k2 (itok_zipM (n2.ex.sqT h1) (h2.nx n2) g1 g2)⟩
  · exact q.elim
/-- zip of two lists, of two tuples, of a tuple and a list -/
def mixed : List D → Bool
  | [.tup _, .tup _] => false
  | [.tup _, _] => true
  | _ => false
def diZipX (a : DA) : DA := fun Γ μ => match a Γ μ with
  | .ok xs _ => if mixed xs = true then diZipM a Γ μ else diZip a Γ μ
  | _ => diZip a Γ μ
theorem qi_zipX {X : Cx} {E : XK} {e e2 : Expr} {da : DA} {elts : List Expr} {kk : Nat} {tpos p pos : Pos} (hm : X.mg "zip" = none) (ha : QA X E [e, e2] da) (hg : Gl X "zip" := by rfl)
    (st : starEach [e, e2] X.env = (false, eval e X.env) :: starEach [e2] X.env := by rfl) (pl : (backTo pos (starEach [e2] X.env)).any (·.1) = false := by rfl) :
    QI X E (.Tuple elts kk tpos) (.Call (.Name "zip" p) [e, e2] [] pos) (diZipX da) := by
  obtain ⟨w1, a1, a2⟩ := (qi_zip (elts := elts) (kk := kk) (tpos := tpos) (p := p) (pos := pos) hm ha hg st pl).ex
  obtain ⟨w2, b1, b2⟩ := (qi_zipM (elts := elts) (kk := kk) (tpos := tpos) (p := p) (pos := pos) hm ha hg st pl).ex
  refine ⟨_, PI.or a1 b1, ?_⟩
  intro ρ F H Γ μ σ k s Rr h
  unfold diZipX at h
  split at h
  · split at h
    · exact .inr (b2 ρ F H Γ μ σ k s Rr h)
    · exact .inl (a2 ρ F H Γ μ σ k s Rr h)
  · exact .inl (a2 ρ F H Γ μ σ k s Rr h)
section
variable {Γ : Gam} {μ : Mu} {QL : List D → Mu → Prop}
end
end Ar

set_option Elab.async false
set_option linter.all false
set_option maxRecDepth 100000
set_option maxHeartbeats 2000000
/-! Ar22: Ok rules of zip, of fields -/
namespace Ar
open PySem PySem.Spec PyProof.Rows L2

def zipR (x y : D) (μ : Mu) : R (List D) := match x, y with
  | .tup ds, .tup es => .ok (zipD ds es) μ
  | .tup ds, y => (seqIL y μ).bind fun es μ3 => .ok (zipD ds es) μ3
  | x, y => (seqIL x μ).bind fun ds μ2 => (seqIL y μ2).bind fun es μ3 => .ok (zipD ds es) μ3
section
variable {Γ : Gam} {μ : Mu} {QL : List D → Mu → Prop}
theorem ok_izip [ExW] {e1 e2 : DE} : Ok (diZipX (daCons e1 (daCons e2 daNil)) Γ μ) QL = Ok (e1 Γ μ) fun x μ1 => Ok (e2 Γ μ1) fun y μ2 => Ok (zipR x y μ2) QL := by
  unfold diZipX
  cases h1 : e1 Γ μ with
  | stk => simp only [daCons, h1, R.bind]; unfold diZip; simp only [daCons, h1, R.bind]; rfl
  | exc _ _ => simp only [daCons, h1, R.bind]; unfold diZip; simp only [daCons, h1, R.bind]; rfl
  | ok x μ1 =>
    cases h2 : e2 Γ μ1 with
    | stk => simp only [daCons, h1, h2, R.bind]; unfold diZip; simp only [daCons, h1, h2, R.bind]; show _ = Ok (e2 Γ μ1) _; rw [h2]; rfl
    | exc _ _ => simp only [daCons, h1, h2, R.bind]; unfold diZip; simp only [daCons, h1, h2, R.bind]; show _ = Ok (e2 Γ μ1) _; rw [h2]; rfl
    | ok y μ2 =>
      have e : (daCons e1 (daCons e2 daNil)) Γ μ = .ok [x, y] μ2 := by simp only [daCons, daNil, h1, h2, R.bind]
      rw [e]
      show Ok (if mixed [x, y] = true then diZipM (daCons e1 (daCons e2 daNil)) Γ μ else diZip (daCons e1 (daCons e2 daNil)) Γ μ) QL = (Ok (e2 Γ μ1) fun y μ2 => Ok (zipR x y μ2) QL)
      rw [h2]
      show _ = Ok (zipR x y μ2) QL
      unfold diZipM diZip
      rw [e]
      cases x <;> cases y <;> rfl
theorem zipR_ll [ExW] {xs ys : List D} : Ok (zipR (.lst xs) (.lst ys) μ) QL = QL (zipD xs ys) μ := rfl
theorem zipR_tl [ExW] {xs ys : List D} : Ok (zipR (.tup xs) (.lst ys) μ) QL = QL (zipD xs ys) μ := rfl
theorem zipR_tt [ExW] {xs ys : List D} : Ok (zipR (.tup xs) (.tup ys) μ) QL = QL (zipD xs ys) μ := rfl
end
section
variable {a b c : D} {P : D → Prop}
theorem o_parts : OkO (fFld "Row" "parts" (.ins "Row" [("parts", a), ("shares", b)])) P = P a := rfl
theorem o_shares : OkO (fFld "Row" "shares" (.ins "Row" [("parts", a), ("shares", b)])) P = P b := rfl
theorem o_east : OkO (fFld "Shape" "east" (.ins "Shape" [("east", a), ("north", b), ("rests", c)])) P = P a := rfl
theorem o_north : OkO (fFld "Shape" "north" (.ins "Shape" [("east", a), ("north", b), ("rests", c)])) P = P b := rfl
theorem o_rests : OkO (fFld "Shape" "rests" (.ins "Shape" [("east", a), ("north", b), ("rests", c)])) P = P c := rfl
end
theorem zip3 {a b c : D} : List.zip ([("east" : Str), ("north" : Str), ("rests" : Str)]) [a, b, c] = [(("east" : Str), a), ("north", b), ("rests", c)] := rfl
theorem zip2 {a b : D} : List.zip ([("parts" : Str), ("shares" : Str)]) [a, b] = [(("parts" : Str), a), ("shares", b)] := rfl
theorem ok_extend [ExW] {Γ : Gam} {μ : Mu} {Q : D → Mu → Prop} {o e : DE} : Ok (dExtend o e Γ μ) Q = Ok (o Γ μ) fun x μ1 => OkO (placeL μ1 x) fun _ => Ok (e Γ μ1) fun d μ2 => OkO (placeL μ2 x) fun p => OkO (seqL μ2 d) fun es => p.2.length + es.length ≤ 1000000 ∧ Q .non (μ2.set p.1 (.lst (p.2 ++ es))) := by
  unfold dExtend; rw [ok_bind]; congr 1; funext x μ1
  cases placeL μ1 x with
  | none => rfl
  | some p =>
    simp only [ok_bind, oko_some]
    congr 1; funext d μ2
    cases placeL μ2 x with
    | none => rfl
    | some p =>
      cases seqL μ2 d with
      | none => rfl
      | some es =>
        simp only [oko_some]
        by_cases h : p.2.length + es.length ≤ 1000000
        · rw [if_pos h]; exact propext ⟨fun z => ⟨h, z⟩, fun z => z.2⟩
        · rw [if_neg h]; exact propext ⟨fun z => False.elim z, fun z => h z.1⟩
theorem seqL_lst {μ : Mu} {ds : List D} {P : List D → Prop} : OkO (seqL μ (.lst ds)) P = P ds := rfl
end Ar

set_option Elab.async false
set_option linter.all false
set_option maxRecDepth 100000
set_option maxHeartbeats 2000000
/-! Ar24: starred items; xs[::-1] of lists; chains of two comparisons -/
namespace Ar
open PySem PySem.Spec PyProof.Rows L2

def daStar (e : DE) (r : DA) : DA := fun Γ μ => (e Γ μ).bind fun x μ1 => match seqA μ1 x with
  | some xs => (r Γ μ1).bind fun ys μ2 => .ok (xs ++ ys) μ2
  | none => .stk
section
variable {X : Cx} {E : XK} {e : Expr} {es : List Expr} {de : DE} {da : DA} {p : Pos}
end
theorem PE.or {X : Cx} {e : Expr} {t1 t2 : TE} (h1 : PE X e t1) (h2 : PE X e t2) : PE X e (fun σ H Q => t1 σ H Q ∨ t2 σ H Q) := ⟨fun pins s σ H Q I h => h.elim (h1.run pins s σ H Q I) (h2.run pins s σ H Q I)⟩
/-- xs[::-1]: of a text, of a list that does not change -/
def dRevL (e : DE) : DE := fun Γ μ => (e Γ μ).bind fun x μ1 => match x with
  | .lst ds => .ok (.lst ds.reverse) μ1
  | _ => .stk
section
variable {Γ : Gam} {μ : Mu} {Q : D → Mu → Prop} {QL : List D → Mu → Prop}
theorem ok_star [ExW] {e : DE} {r : DA} : Ok (daStar e r Γ μ) QL = Ok (e Γ μ) fun x μ1 => OkO (seqA μ1 x) fun xs => Ok (r Γ μ1) fun ys μ2 => QL (xs ++ ys) μ2 := by
  unfold daStar
  rw [ok_bind]
  congr 1
  funext x μ1
  cases seqA μ1 x with
  | none => rfl
  | some xs => simp only [ok_bind, oko_some, ok_ok]
theorem seqA_tup {ds : List D} {P : List D → Prop} : OkO (seqA μ (.tup ds)) P = P ds := rfl
theorem seqA_lst {ds : List D} {P : List D → Prop} : OkO (seqA μ (.lst ds)) P = P ds := rfl
theorem ok_revL [ExW] {e : DE} : Ok (dRevL e Γ μ) Q = Ok (e Γ μ) fun x μ1 => Ok (match x with
    | .lst ds => R.ok (D.lst ds.reverse) μ1
    | _ => .stk) Q := by
  unfold dRevL; rw [ok_bind]
end
end Ar

set_option Elab.async false
set_option linter.all false
set_option maxRecDepth 100000
set_option maxHeartbeats 2000000
/-! Ar25: str of a tuple or a list -/
namespace Ar
open PySem PySem.Spec PyProof.Rows L2
def isTL : PyData → Bool
  | .tuple _ => true
  | .list _ => true
  | _ => false
def rStrP (K : PySem.W.Frag) : List V → Hp → VK → Prop := fun xs H Q => ∃ v d, xs = [v] ∧ Dp K H v d ∧ isTL d = true ∧ d.showable = true ∧ d.hasDict = false ∧ d.depth ≤ 60 ∧ d.shown.length ≤ sizeLine ∧ Q (.str d.shown) H
theorem call_strP {X : Cx} (hg : X.A.guards = some []) (hu : X.A.units + 64 < cLine) : CallR X (.type "str") (rStrP X.K) := by
  intro pins s σ H xs us Q I r h
  obtain ⟨v, d, rfl, hd, ht, hs, hn, hz, hl, q⟩ := h
  obtain ⟨u, rfl, rv⟩ := vals1 r
  cases hd with
  | non => cases ht
  | bl b => cases ht
  | int i => cases ht
  | str x => cases ht
  | @lst a _ ds h1 h2 =>
    obtain ⟨as, r1⟩ := Dp.reads I _ _ u (.lst h1 h2) rv
    cases rv
    exact str_of_reads r1 hs (fun z => by rw [hn] at z; cases z) hg (by omega) (fun _ _ e => e) (fun h' u tk k => ⟨.str _, H, I.kept k, ⟨_, rfl⟩, q⟩) hl
  | @tup a _ ds h1 h2 =>
    obtain ⟨as, r1⟩ := Dp.reads I _ _ u (.tup h1 h2) rv
    cases rv
    exact str_of_reads r1 hs (fun z => by rw [hn] at z; cases z) hg (by omega) (fun _ _ e => e) (fun h' u tk k => ⟨.str _, H, I.kept k, ⟨_, rfl⟩, q⟩) hl
def fStrC : Mu → List D → Option D := fun μ ds => match ds with
  | [x] => if isTL (toP (unloc μ x)) = true ∧ showD (unloc μ x) = true then some (.str (shw (unloc μ x))) else none
  | _ => none
theorem cd_strC {X : Cx} (hg : X.A.guards = some []) (hu : X.A.units + 64 < cLine) : CallD X (.type "str") fStrC := by
  refine ⟨_, call_strP hg hu, fun ρ F H μ vs ds z k rv ez Q q => ?_⟩
  unfold fStrC at ez
  split at ez
  · rename_i x
    split at ez
    · rename_i hs
      obtain ⟨h0, hs⟩ := hs
      cases ez
      unfold showD at hs
      rw [Bool.and_eq_true, Bool.and_eq_true, decide_eq_true_eq] at hs
      obtain ⟨⟨h1, h2⟩, h3⟩ := hs
      cases rv with
      | cons r1 r2 =>
        cases r2
        exact ⟨_, _, rfl, dp_un k h1 r1, h0, h2, plain_noDict _ _ h1, Nat.le_trans (plain_toP _ _ h1).2 (by decide), h3, q ρ F H _ Nx.refl k (.str _)⟩
    · cases ez
  · cases ez
def fStr2 : Mu → List D → Option D := orC fStr fStrC
theorem cd_str2 {X : Cx} (hg : X.A.guards = some []) (hu : X.A.units + 64 < cLine) : CallD X (.type "str") fStr2 := cd_str.or (cd_strC hg hu)
end Ar

set_option Elab.async false
set_option linter.all false
set_option maxRecDepth 100000
set_option maxHeartbeats 2000000
/-! Ar26: a list unpacked into names -/
namespace Ar
open PySem PySem.Spec PyProof.Rows L2
section
variable {X : Cx} {E : XK} {e : Expr} {pos : Pos}
def dgUnl (n : Nat) (gs : DGs) : DG := fun d Γ μ => match d with
  | .lst ds => if ds.length = n then gs ds Γ μ else .stk
  | _ => .stk
end
theorem ok_gUnl [ExW] {n : Nat} {gs : DGs} {ds : List D} {Γ : Gam} {μ : Mu} {N : Gam → Mu → Prop} : Ok (dgUnl n gs (.lst ds) Γ μ) N = LenIs ds n (Ok (gs ds Γ μ) N) := by unfold dgUnl LenIs; simp only [ok_ite]
end Ar

set_option Elab.async false
set_option linter.all false
set_option maxRecDepth 100000
set_option maxHeartbeats 2000000
/-! Ar27: a try whose body raises nothing -/
namespace Ar
open PySem PySem.Spec PyProof.Rows L2
section
variable {X : Cx} {E : XK} {pos : Pos}
def noxS (r : RS) : RS := match r with
  | .exc _ _ => .stk
  | r => r
def dTry (ds : DS) : DS := fun Γ μ => noxS (ds Γ μ)
end
theorem oks_try [ExW] {ds : DS} {Γ : Gam} {μ : Mu} {N B C : Gam → Mu → Prop} {T : D → Mu → Prop} : OkS (dTry ds Γ μ) N B C T = @OkS xp0 (ds Γ μ) N B C T := by
  unfold dTry
  generalize ds Γ μ = r
  cases r <;> rfl
/-- xs[::-1] as a list that changes later -/
def dRevLM (e : DE) : DE := fun Γ μ => (e Γ μ).bind fun x μ1 => match x with
  | .lst ds => .ok (.loc μ1.length) (μ1 ++ [.lst ds.reverse])
  | _ => .stk
theorem ok_revLM [ExW] {Γ : Gam} {μ : Mu} {Q : D → Mu → Prop} {e : DE} : Ok (dRevLM e Γ μ) Q = Ok (e Γ μ) fun x μ1 => Ok (match x with
    | .lst ds => R.ok (D.loc μ1.length) (μ1 ++ [.lst ds.reverse])
    | _ => .stk) Q := by
  unfold dRevLM; rw [ok_bind]
/-! ### the greatest and the least of a tuple of ints -/
def fInt1 (g : Int → List Int → Int) : Mu → List D → Option D := fun _ ds => match ds with
  | [.tup (.int a :: xs)] => (intsOf xs).map fun ns => .int (g a ns)
  | _ => none
def fMaxT : Mu → List D → Option D := fInt1 fun n ns => ns.foldl max n
def fMinT : Mu → List D → Option D := fInt1 fun n ns => ns.foldl min n
def fMax1 : Mu → List D → Option D := orC fMaxT fMax
def fMin1 : Mu → List D → Option D := orC fMinT fMin
theorem o_max1_3 {μ : Mu} {a b c : Int} {P : D → Prop} : OkO (fMax1 μ [.tup [.int a, .int b, .int c]]) P = P (.int (max (max a b) c)) := rfl
theorem o_min1_3 {μ : Mu} {a b c : Int} {P : D → Prop} : OkO (fMin1 μ [.tup [.int a, .int b, .int c]]) P = P (.int (min (min a b) c)) := rfl
end Ar

set_option Elab.async false
set_option linter.all false
set_option maxRecDepth 100000
set_option maxHeartbeats 2000000
/-! Ar28: chains of two comparisons -/
namespace Ar
open PySem PySem.Spec PyProof.Rows L2
def linkD (c : DE) (g : Mu → D → D → Option D) (y : D) (Γ : Gam) (z : D) (μ : Mu) : R D := match z with
  | .bl true => (c Γ μ).bind fun w μ4 => R.of μ4 (g μ4 y w)
  | .bl false => .ok (.bl false) μ
  | _ => .stk
def dCmp2 (f g : Mu → D → D → Option D) (a b c : DE) : DE := fun Γ μ => (a Γ μ).bind fun x μ1 => (b Γ μ1).bind fun y μ2 => (R.of μ2 (f μ2 x y)).bind (linkD c g y Γ)
section
variable {X : Cx} {E : XK} {K : PySem.W.Frag} {a b c : Expr} {da db dc : DE} {pos : Pos} {f g : Mu → D → D → Option D}
theorem sim_cmp2 {r r' : R2} {ta tb tc : TE} (hr : OpS K r f) (hr' : OpS K r' g) (ha : SimE K E ta da) (hb : SimE K E tb db) (hc : SimE K E tc dc) : SimE K E (tChain r r' ta tb tc) (dCmp2 f g da db dc) := by
  intro ρ F H Γ μ σ k s Q h
  refine ha ρ F H Γ μ σ k s _ (h.bind.mono (fun x μ1 h1 => ?_) fun _ _ q => q)
  intro ρ1 F1 H1 v n1 k1 r1
  refine hb ρ1 F1 H1 Γ μ1 σ k1 (s.nx n1) _ (h1.bind.mono (fun y μ2 h2 => ?_) fun _ _ q => XP.nx n1 q)
  intro ρ2 F2 H2 w n2 k2 r2
  obtain ⟨z, ez, q⟩ := (WpR.bind h2).of
  refine hr ρ2 F2 H2 μ2 v w x y z k2 (r1.nx n2) r2 ez _ ?_
  intro ρ3 F3 H3 u n3 k3 r3
  cases z with
  | bl b =>
    cases r3
    cases b with
    | true =>
      refine ⟨true, rfl, ?_⟩
      rw [if_pos rfl]
      have q : WpR ((dc Γ μ2).bind fun w μ4 => R.of μ4 (g μ4 y w)) _ _ := q
      refine hc ρ3 F3 H3 Γ μ2 σ k3 (((s.nx n1).nx n2).nx n3) _ ((WpR.bind q).mono (fun w' μ4 q4 => ?_) fun _ _ q => XP.nx (n1.trans (n2.trans n3)) q)
      intro ρ4 F4 H4 w4 n4 k4 r4
      obtain ⟨z', ez', q'⟩ := q4.of
      exact hr' ρ4 F4 H4 μ4 w w4 y w' z' k4 (r2.nx (n3.trans n4)) r4 ez' Q (QV.nx (n1.trans (n2.trans (n3.trans n4))) q')
    | false =>
      refine ⟨false, rfl, ?_⟩
      rw [if_neg (by decide)]
      have q : QV K ρ F H Q (.bl false) μ2 := q
      exact q ρ3 F3 H3 _ (n1.trans (n2.trans n3)) k3 (.bl false)
  | _ => exact False.elim q
theorem q_chain {op op' : CmpOp} (ho : OpD X (compareOp op) f) (ho' : OpD X (compareOp op') g) (ha : QE X E a da) (hb : QE X E b db) (hc : QE X E c dc) (hm : lastMarks [op, op'] [b, c] = false := by with_unfolding_all rfl) : QE X E (.Compare a [op, op'] [b, c] pos) (dCmp2 f g da db dc) := by
  obtain ⟨r, h1, h2⟩ := ho.ex
  obtain ⟨r', h1', h2'⟩ := ho'.ex
  obtain ⟨ta, a1, a2⟩ := ha.ex
  obtain ⟨tb, b1, b2⟩ := hb.ex
  obtain ⟨tc, c1, c2⟩ := hc.ex
  exact ⟨_, pe_chain h1 h1' a1 b1 c1 hm, sim_cmp2 h2 h2' a2 b2 c2⟩
theorem qt_chain {op op' : CmpOp} (ho : OpD X (compareOp op) f) (ho' : OpD X (compareOp op') g) (ha : QE X E a da) (hb : QE X E b db) (hc : QE X E c dc) (hm : lastMarks [op, op'] [b, c] = false := by with_unfolding_all rfl) : QT X E (.Compare a [op, op'] [b, c] pos) (dTest (dCmp2 f g da db dc)) := by
  obtain ⟨r, h1, h2⟩ := ho.ex
  obtain ⟨r', h1', h2'⟩ := ho'.ex
  obtain ⟨ta, a1, a2⟩ := ha.ex
  obtain ⟨tb, b1, b2⟩ := hb.ex
  obtain ⟨tc, c1, c2⟩ := hc.ex
  exact ⟨_, pt_chain h1 h1' a1 b1 c1 hm, sim_test (sim_cmp2 h2 h2' a2 b2 c2)⟩
end
theorem ok_cmp2 [ExW] {f g : Mu → D → D → Option D} {a b c : DE} {Γ : Gam} {μ : Mu} {Q : D → Mu → Prop} : Ok (dCmp2 f g a b c Γ μ) Q = Ok (a Γ μ) fun x μ1 => Ok (b Γ μ1) fun y μ2 => OkO (f μ2 x y) fun z => OkB z fun b => if b = true then Ok (c Γ μ2) fun w μ4 => OkO (g μ4 y w) fun z => Q z μ4 else Q (.bl false) μ2 := by
  unfold dCmp2
  simp only [ok_bind, ok_of]
  congr 1; funext x μ1; congr 1; funext y μ2; congr 1; funext z
  cases z with
  | bl b =>
    cases b with
    | true =>
      show Ok ((c Γ μ2).bind fun w μ4 => R.of μ4 (g μ4 y w)) Q = _
      simp only [ok_bind, ok_of]
      rfl
    | false => rfl
  | _ => rfl
end Ar

set_option Elab.async false
set_option linter.all false
set_option maxRecDepth 100000
set_option maxHeartbeats 2000000
/-! Ar29: a comprehension over a list that changes at other times -/
namespace Ar
open PySem PySem.Spec PyProof.Rows L2
open Classical in
noncomputable def stands {α : Type} (n : Nat) (ds : List D) (μ : Mu) (r : R α) : R α := if μ[n]? = some (.lst ds) then r else .stk
section
variable {X : Cx} {E : XK} {K : PySem.W.Frag}
end
section
variable {Γ : Gam} {μ : Mu}
end
end Ar

set_option Elab.async false
set_option linter.all false
set_option maxRecDepth 100000
set_option maxHeartbeats 2000000
/-! Ar30: own methods of a class with one slot: len -/
namespace Ar
open PySem PySem.Spec PyProof.Rows L2
theorem RoomG.in1 {k : Nat} {A : Around} (h : RoomG (k + 1) A) : RoomG k A.in1 := ⟨h.r.in1, h.g⟩
section
variable {X : Cx} {Z : CXT} {pins : List (Addr × Obj)} {σ : L2.St} {H : Hp} {s : Shared} {n : Nat} {f : Addr} {fd : FuncData} {ps : List Str} {sp : Sp} {E : XK}
/-- a callee below the running body -/
theorem ranAt {A : Around} {D : VK} {us : List Value} {xs : List V} (G : Pm X.prog X.w X.K X.mg X.base Z n f fd ps sp) (hr : RoomG n A) (e0 : Env0 X.prog X.w X.K X.mg X.base A X.stack s H) (hx : Passes Z X E) (I : Inv X pins σ H s)
    (b : BindsTo s fd ⟨us, []⟩ (ps.zip us)) (r : Vals xs us) (h : sp xs H D E) : codeAny (model X.prog X.w) A (.call (.ref f) ⟨us, []⟩) (fun r s' => match r with | .ok (.ret v) => EP X pins σ D v s' | .ok _ => False | .error e => X.xe e s') s := by
  refine codeAny_mono (G.go A X.stack s H ⟨us, []⟩ us xs D E hr e0 b r h) fun z s' q => ?_
  match z, q with
  | .error err, q => exact hx pins σ H s err s' I q
  | .ok (.ret u), q => exact I.after q
end
section
variable {prog : Program} {w : World} {A : Around} {E : Value → Shared → Prop} {s : Shared} {K : PySem.W.Frag} {x C D f : Addr} {ox od : Obj} {odd : Option Obj}
theorem len_ownR {Q : Value → Shared → Prop} (X : K.In s.heap) (I : PySem.W.InstAt s.heap x ox C odd) (hs : PySem.W.findIn K (.ref C) "__len__" = some (some (.ref f))) (hf : PySem.W.isFn K (.ref f) = true)
    (h : wpAny (model prog w) A.in1 (call (.ref f) [.ref x]) (fun r s₁ => ∃ (n : Int) (u : Nat), r = Value.int n u ∧ 0 ≤ n ∧ n < 2 ^ 62 ∧ Q (.int n s₁.toks) { s₁ with toks := s₁.toks + 1 }) E s) : wpAny (model prog w) A (call (.builtin "len") [.ref x]) Q E s := by
  refine Calls.call_function_entry kind_len plain_len entry_len (args_len1 _) ?_
  unfold Builtin.«len»
  refine wpAny_bind (m := oneArg "len" _) (wpAny_pure ?_)
  refine wpAny_bind (m := callSpecial? (.ref x) (PySem.Str.ofString "__len__")) (PySem.W.special_fn X I hs (beq_iff_eq.mp hf) (wpAny_mono h (fun r s' hr => ?_) fun _ _ y => y))
  obtain ⟨n, u, rfl, h0, h1, hq⟩ := hr
  refine wpAny_bind (wpAny_holding (wpAny_pure ?_))
  refine wpAny_bind (wpAny_letGo ?_)
  show wpAny _ _ (if n < 0 then _ else _) _ _ _
  rw [if_neg (by omega)]
  show wpAny _ _ (if n ≥ 2 ^ 63 then _ else _) _ _ _
  rw [if_neg (by omega)]
  exact wpAny_bind (wpAny_mkInt (wpAny_pure ⟨_, rfl, hq⟩))
end
/-- the own method nm of the class C does what m says -/
structure MethG (P : Program) (w : World) (K : PySem.W.Frag) (mg : Str → Option Value) (base : Heap) (C nm : Str) (k : Nat) (m : Fn) : Prop where
  ex : ∃ f fd ps, PySem.W.findIn K (.ref (He.ga K C)) nm = some (some (.ref f)) ∧ PySem.W.isFn K (.ref f) = true ∧ PySem.W.keepIn K (.ref f) = true ∧ Binds K fd ps [] ∧ Pm P w K mg base (L2.CX P w) k f fd ps (spM K m)
theorem MethG.mono {P : Program} {w : World} {K : PySem.W.Frag} {mg : Str → Option Value} {base : Heap} {C nm : Str} {j k : Nat} {m : Fn} (G : MethG P w K mg base C nm j m) (h : j ≤ k) : MethG P w K mg base C nm k m := by
  obtain ⟨f, fd, ps, h1, h2, h3, h4, h5⟩ := G.ex
  exact ⟨f, fd, ps, h1, h2, h3, h4, h5.mono h⟩
/-- len(x) of a value with an own __len__, of the built-in ones otherwise -/
def rLenOwn (K : PySem.W.Frag) (C : Str) (m : Fn) (E : XK) : List V → Hp → VK → Prop := fun xs H Q => ∃ a dx vs, xs = [V.ref a] ∧ SlX.Slt H a (He.ga K C) dx vs ∧ spM K m [.ref a] H (fun z H' => ∃ i : Int, z = .int i ∧ 0 ≤ i ∧ i < 2 ^ 62 ∧ Q (.int i) H') E
theorem call_lenOwn {X : Cx} {C : Str} {m : Fn} {k : Nat} {E : XK} (G : MethG X.prog X.w X.K X.mg X.base C "__len__" k m) (hr : RoomG (k + 1) X.A) (hx : Passes (L2.CX X.prog X.w) X E) : CallR X (.builtin "len") (rLenOwn X.K C m E) := by
  intro pins s σ H xs us Q I r h
  obtain ⟨a, dx, vs, rfl, hsl, q⟩ := h
  obtain ⟨u, rfl, ru⟩ := r.one
  cases (show u = Value.ref a from ru)
  obtain ⟨sl, od, _, J, _⟩ := SlX.slt_inst I hsl
  obtain ⟨f, fd, ps, h1, h2, h3, h4, h5⟩ := G.ex
  refine len_ownR I.kIn J h1 h2 (wpAny_mono (wpAny_call (ranAt (us := [.ref a]) (xs := [.ref a]) h5 hr.in1 I.env0.in1 hx I ?_ (.cons rfl .nil) q)) (fun w s' z => ?_) fun _ _ x => x)
  · have := h4 s [.ref a] I.kIn (by have := h5.ln _ _ _ _ q; simpa using this)
    exact this
  · obtain ⟨z', H', I', rz, i, ei, i0, i1, qz⟩ := z
    subst ei
    obtain ⟨t, e⟩ := (show ∃ t, w = Value.int i t from rz)
    cases e
    exact ⟨i, t, rfl, i0, i1, .int i, H', I'.tok _, ⟨_, rfl⟩, qz⟩
end Ar

set_option Elab.async false
set_option linter.all false
set_option maxRecDepth 100000
set_option maxHeartbeats 2000000
/-! Ar31: len of a value with an own __len__; tuple(range(n)), list(range(n)) -/
namespace Ar
open PySem PySem.Spec PyProof.Rows L2
/-- len(x), x a value of the class C, whose own __len__ does m -/
def dLenO (C : Str) (m : Fn) (e : DE) : DE := fun Γ μ => (e Γ μ).bind fun d μ1 => match d with
  | .slt C' ds => if C' = C then (m [.slt C' ds] μ1).bind fun r μ2 => (match r with
      | .int i => if 0 ≤ i ∧ i < 2 ^ 62 then .ok (.int i) μ2 else .stk
      | _ => .stk) else .stk
  | _ => .stk
theorem q_lenO {X : Cx} {E : XK} {C : Str} {m : Fn} {k : Nat} {e : Expr} {de : DE} {p pos : Pos} (G : MethG X.prog X.w X.K X.mg X.base C "__len__" k m) (hr : RoomG (k + 1) X.A) (hx : Passes (L2.CX X.prog X.w) X E) (hm : X.mg "len" = none) (he : QE X E e de) (hg : Gl X "len" := by rfl)
    (h1 : starEach [e] X.env = (false, eval e X.env) :: starEach [] X.env := by rfl) (hpl : (backTo pos (starEach [] X.env)).any (·.1) = false := by rfl) : QE X E (.Call (.Name "len" p) [e] [] pos) (dLenO C m de) := by
  obtain ⟨te, a1, a2⟩ := he.ex
  refine ⟨_, pe_callB (call_lenOwn G hr hx) hg hm PySem.boot_len (pa_cons a1 pa_nil h1) (by decide) (by decide) h1 hpl, ?_⟩
  intro ρ F H Γ μ σ kk s Q h
  unfold dLenO at h
  refine a2 ρ F H Γ μ σ kk s _ ((WpR.bind h).mono (fun d μ1 q => ?_) fun _ _ q => q)
  intro ρ1 F1 H1 v n1 k1 r1
  split at q
  · rename_i C' ds
    split at q
    · rename_i hC
      subst hC
      cases r1 with
      | @slt a dx _ vs _ g1 g2 g3 =>
        refine ⟨a, dx, vs.map some, rfl, .inr ⟨k1.ex _ _ g1, k1.ex _ _ g2⟩, ρ1, F1, μ1, [.slt C' ds], k1, .cons (.slt g1 g2 g3) .nil, (WpR.bind q).mono (fun r μ2 q2 => ?_) fun _ _ q => XP.nx n1 q⟩
        intro ρ2 F2 H2 v2 n2 k2 r2
        split at q2
        · split at q2
          · rename_i hi
            cases r2
            exact ⟨_, rfl, hi.1, hi.2, q2 ρ2 F2 H2 _ (n1.trans n2) k2 (.int _)⟩
          · exact q2.elim
        · exact q2.elim
    · exact q.elim
  · exact q.elim
def dTupRg (e : DE) : DE := fun Γ μ => (e Γ μ).bind fun d μ1 => match d with
  | .int n => if n ≤ 1000000 ∧ 0 ≤ n then .ok (.tup (rngD 0 n.toNat)) μ1 else .stk
  | _ => .stk
def dLstRg (e : DE) : DE := fun Γ μ => (e Γ μ).bind fun d μ1 => match d with
  | .int n => if n ≤ 1000000 ∧ 0 ≤ n then .ok (.lst (rngD 0 n.toNat)) μ1 else .stk
  | _ => .stk
section
variable {Γ : Gam} {μ : Mu} {Q : D → Mu → Prop}
theorem ok_lenO [ExW] {C : Str} {m : Fn} {e : DE} : Ok (dLenO C m e Γ μ) Q = Ok (e Γ μ) fun d μ1 => ∃ ds, d = .slt C ds ∧ Ok (m [.slt C ds] μ1) fun r μ2 => ∃ i : Int, r = .int i ∧ 0 ≤ i ∧ i < 2 ^ 62 ∧ Q (.int i) μ2 := by
  unfold dLenO
  rw [ok_bind]
  congr 1; funext d μ1
  refine propext ⟨fun h => ?_, fun h => ?_⟩
  · split at h
    · rename_i C' ds
      split at h
      · rename_i hC
        subst hC
        refine ⟨ds, rfl, ?_⟩
        rw [ok_bind] at h
        refine h.mono fun r μ2 h => ?_
        split at h
        · split at h
          · rename_i hi
            exact ⟨_, rfl, hi.1, hi.2, h⟩
          · exact h.elim
        · exact h.elim
      · exact h.elim
    · exact h.elim
  · obtain ⟨ds, rfl, h⟩ := h
    show Ok (if C = C then _ else _) Q
    rw [if_pos rfl, ok_bind]
    refine h.mono fun r μ2 h => ?_
    obtain ⟨i, rfl, h0, h1, h⟩ := h
    show Ok (if 0 ≤ i ∧ i < 2 ^ 62 then _ else _) Q
    rw [if_pos ⟨h0, h1⟩]
    exact h
theorem ok_tupRg [ExW] {e : DE} : Ok (dTupRg e Γ μ) Q = Ok (e Γ μ) fun d μ1 => ∃ n : Int, d = .int n ∧ n ≤ 1000000 ∧ 0 ≤ n ∧ Q (.tup (rngD 0 n.toNat)) μ1 := by
  unfold dTupRg
  rw [ok_bind]
  congr 1; funext d μ1
  refine propext ⟨fun h => ?_, fun h => ?_⟩
  · split at h
    · split at h
      · rename_i hn; exact ⟨_, rfl, hn.1, hn.2, h⟩
      · exact h.elim
    · exact h.elim
  · obtain ⟨n, rfl, h0, h1, h⟩ := h
    show Ok (if n ≤ 1000000 ∧ 0 ≤ n then _ else _) Q
    rw [if_pos ⟨h0, h1⟩]
    exact h
theorem ok_lstRg [ExW] {e : DE} : Ok (dLstRg e Γ μ) Q = Ok (e Γ μ) fun d μ1 => ∃ n : Int, d = .int n ∧ n ≤ 1000000 ∧ 0 ≤ n ∧ Q (.lst (rngD 0 n.toNat)) μ1 := by
  unfold dLstRg
  rw [ok_bind]
  congr 1; funext d μ1
  refine propext ⟨fun h => ?_, fun h => ?_⟩
  · split at h
    · split at h
      · rename_i hn; exact ⟨_, rfl, hn.1, hn.2, h⟩
      · exact h.elim
    · exact h.elim
  · obtain ⟨n, rfl, h0, h1, h⟩ := h
    show Ok (if n ≤ 1000000 ∧ 0 ≤ n then _ else _) Q
    rw [if_pos ⟨h0, h1⟩]
    exact h
end
/-- a method at the head -/
theorem methg {P : Program} {w : World} {K : PySem.W.Frag} {mg : Str → Option Value} {base : Heap} {C nm qual : Str} {params : Arguments} {body : List Stmt} {scope : Scope} {f : Addr} {fd : FuncData} {ps : List Str} {k : Nat} {m : Fn} (F : FunD K nm qual params body scope [] [] f fd)
    (h1 : PySem.W.findIn K (.ref (He.ga K C)) nm = some (some (.ref f))) (h2 : PySem.W.isFn K (.ref f) = true) (h3 : PySem.W.keepIn K (.ref f) = true)
    (hb : ∀ (kV doc pm : Value) (an : Option Addr) (cdv ct : Value) (us : List Value), us.length = ps.length → bindArgs (PySem.W.fnOf nm qual params body scope Value.none kV doc pm an cdv ct) { pos := us } = pure (ps.zip us))
    (ok : Pm P w K mg base (L2.CX P w) k f fd ps (spM K m)) : MethG P w K mg base C nm k m := ⟨f, fd, ps, h1, h2, h3, F.bindsN hb, ok⟩
end Ar

set_option Elab.async false
set_option linter.all false
set_option maxRecDepth 100000
set_option maxHeartbeats 4000000
/-! Ar32: a tuple times an int -/
namespace Ar
open PySem PySem.Spec PyProof.Rows L2
theorem tuple_mul1W (l : Addr) (items : Array Value) (n : Nat) (dd : Option Addr) (sl : Array (Option Value)) (u : Tok) (c1 : (items.isEmpty || (1 : Int) == 1) = true) :
    Meets (Builtin.«tuple.__mul__» ⟨[.ref l, .int 1 u], []⟩) (fun _ R s => s.heap.get? l = some { cls := .type "tuple", dict := dd, data := .seq items n, slots := sl } ∧
      R (.ok (.ret (Value.ref l))) s) :=
  .of_wp fun prog w A R s h => by
    obtain ⟨hp, g, d, tk, os⟩ := s
    obtain ⟨hl, h⟩ := h
    have f1 := AutoSeq1.idx_int
    wp_walk using wpAny_loadPart' hl
    repeat (first
      | (refine wpAny_ite_false (decide_eq_false (by decide)) ?_; wp_walk using wpAny_loadPart' hl)
      | (refine wpAny_ite_true (decide_eq_true c1) ?_; wp_walk using wpAny_loadPart' hl)
      | (refine wpAny_ite_true c1 ?_; wp_walk using wpAny_loadPart' hl))
    exact ⟨_, rfl, h⟩
def rRep1 (K : PySem.W.Frag) : R2 := fun x y H Q => ∃ l xs, x = .ref l ∧ y = .int 1 ∧ SqT K H l xs ∧ Q (.ref l) H
theorem op_rep1 {X : Cx} : OpR X (binaryOp .Mult) (rRep1 X.K) := by
  intro pins s σ H x y v u Q I rx ry h
  obtain ⟨l, xs, rfl, rfl, hT, q⟩ := h
  cases rx
  obtain ⟨t, rfl⟩ := ry
  obtain ⟨its, r, ⟨⟨cls, dd, data, sl⟩, ho, hc, n, hd⟩, hs⟩ := I.tuple hT
  simp only at hc hd
  subst hc hd
  have c1 : (its.toArray.isEmpty || (1 : Int) == 1) = true := by rw [show ((1 : Int) == 1) = true from rfl, Bool.or_true]
  refine wpAny_binaryOp_repeat_ref (T := "tuple") (U := "int") (by decide) ⟨_, ho, rfl⟩ (fun s' => typeIs_int s' 1 t) noFill_tuple_mul F.fills_int_mul F.slot_int_rmul repeat_tuple F.slot_int_index.lookup
    (call_meets F.slot_int_rmul (typeIs_int s 1 t) F.entry_int_rmul (F.args_int_rmul_2 _ _) (int_rmul_tuple 1 t l its.toArray n dd sl)
      ⟨ho, rfl, ⟨_, ho, rfl⟩, call_meets F.slot_tuple_mul ⟨_, ho, rfl⟩ F.entry_tuple_mul (F.args_tuple_mul_2 _ _) (tuple_mul1W l its.toArray n dd sl t c1) ⟨ho, ?_⟩⟩)
  exact ⟨.ref l, H, I, rfl, q⟩
def fRepT : Mu → D → D → Option D := fun _ x y => match x, y with
  | .tup ds, .int k => if k = 1 then some (.tup ds) else if ds ≠ [] ∧ (2 ≤ k ∧ k ≤ 1000) ∧ ds.length ≤ 1000 then some (.tup (List.replicate k.toNat ds).flatten) else none
  | _, _ => none
theorem od_repT {X : Cx} : OpD X (binaryOp .Mult) fRepT := by
  have h1 : OpD X (binaryOp .Mult) (fun _ x y => match x, y with
      | .tup ds, .int k => if k = 1 then some (.tup ds) else none
      | _, _ => none) := by
    refine ⟨_, op_rep1, fun ρ F H μ v w d e z kk rv rw' ez Q q => ?_⟩
    dsimp only at ez
    split at ez
    · split at ez
      · rename_i hk
        cases ez
        cases rw'
        cases rv with
        | tup g1 g2 => exact ⟨_, _, rfl, by rw [hk], kk.ex.sqT g1, q ρ F H _ Nx.refl kk (.tup g1 g2)⟩
      · cases ez
    · cases ez
  have h2 : OpD X (binaryOp .Mult) (fun _ x y => match x, y with
      | .tup ds, .int k => if ds ≠ [] ∧ (2 ≤ k ∧ k ≤ 1000) ∧ ds.length ≤ 1000 then some (.tup (List.replicate k.toNat ds).flatten) else none
      | _, _ => none) := by
    refine ⟨_, op_repT, fun ρ F H μ v w d e z kk rv rw' ez Q q => ?_⟩
    dsimp only at ez
    split at ez
    · split at ez
      · rename_i hk
        cases ez
        cases rw'
        cases rv with
        | tup g1 g2 =>
          refine ⟨_, _, _, rfl, rfl, kk.ex.sqT g1, ?_, hk.2.1.1, hk.2.1.2, by rw [g2.length]; exact hk.2.2, fun p hp => ?_⟩
          · intro z
            subst z
            cases g2
            exact hk.1 rfl
          · obtain ⟨n2, k2, r2⟩ := new_tup kk (g2.rep _) hp
            exact q _ _ _ _ n2 k2 r2
      · cases ez
    · cases ez
  have e : fRepT = orF (fun _ x y => match x, y with
      | .tup ds, .int k => if k = 1 then some (.tup ds) else none
      | _, _ => none) (fun _ x y => match x, y with
      | .tup ds, .int k => if ds ≠ [] ∧ (2 ≤ k ∧ k ≤ 1000) ∧ ds.length ≤ 1000 then some (.tup (List.replicate k.toNat ds).flatten) else none
      | _, _ => none) := by
    funext μ x y
    unfold fRepT orF
    cases x <;> cases y <;> try rfl
    rename_i ds k
    dsimp only
    split <;> rfl
  rw [e]
  exact h1.or h2
end Ar

set_option Elab.async false
set_option linter.all false
set_option maxRecDepth 100000
set_option maxHeartbeats 2000000
/-! Ar33: a def as a value, held by a local name and called -/
namespace Ar
open PySem PySem.Spec PyProof.Rows L2

def dCallV (i : Nat) (x1 : Str) (m1 : Fn) (x2 : Str) (m2 : Fn) (da : DA) : DE := fun Γ μ => match Γ[i]? with
  | some (some (.glo x)) => if x = x1 then dCall m1 da Γ μ else if x = x2 then dCall m2 da Γ μ else .stk
  | _ => .stk
section
variable {X : Cx} {E : XK}
def tCallV (i : Nat) (f1 f2 : Addr) (t1 t2 : TE) : TE := fun σ H D => (σ[i]? = some (some (.ref f1)) ∧ t1 σ H D) ∨ (σ[i]? = some (some (.ref f2)) ∧ t2 σ H D)
theorem pe_callV {i : Nat} {y : Str} {e : Expr} {es : List Expr} {p pos : Pos} {ta : TA} {f1 f2 : Addr} {fd1 fd2 : FuncData} {ps1 ps2 : List Str} {j1 j2 : Nat} {sp1 sp2 : Sp} (hN : X.N[i]? = some y) (hv : Vis X.env.scope y)
    (G1 : Pm X.prog X.w X.K X.mg X.base (L2.CX X.prog X.w) j1 f1 fd1 ps1 sp1) (r1 : RoomG j1 X.A) (k1 : PySem.W.keepIn X.K (.ref f1) = true) (b1 : Binds X.K fd1 ps1 [])
    (G2 : Pm X.prog X.w X.K X.mg X.base (L2.CX X.prog X.w) j2 f2 fd2 ps2 sp2) (r2 : RoomG j2 X.A) (k2 : PySem.W.keepIn X.K (.ref f2) = true) (b2 : Binds X.K fd2 ps2 [])
    (hx : Passes (L2.CX X.prog X.w) X E) (ar : PA X (e :: es) ta) (hd : (y == ("__debug__" : Str)) = false := by decide) (hcd : (y == ("__classdict__" : Str)) = false := by decide)
    (st : starEach (e :: es) X.env = (false, eval e X.env) :: starEach es X.env := by rfl) (pl : (backTo pos (starEach es X.env)).any (·.1) = false := by rfl) :
    PE X (.Call (.Name y p) (e :: es) [] pos) (tCallV i f1 f2 (tCall sp1 [] E ta) (tCall sp2 [] E ta)) := by
  refine ⟨fun pins s σ H D I h => wpAny_Call_Name_kw ?_⟩
  have go : ∀ {f : Addr} {fd : FuncData} {ps : List Str} {j : Nat} {sp : Sp}, Pm X.prog X.w X.K X.mg X.base (L2.CX X.prog X.w) j f fd ps sp → RoomG j X.A → PySem.W.keepIn X.K (.ref f) = true → Binds X.K fd ps [] → σ[i]? = some (some (.ref f)) → tCall sp [] E ta σ H D →
      wpAny (model X.prog X.w) X.A (eval (.Name y p) X.env) (fun f s₁ => wpAny (model X.prog X.w) X.A (callWith pos f [] (backTo pos (starEach (e :: es) X.env)) (backToKw pos (keywordEach [] X.env))) (EP X pins σ D) X.xe s₁) X.xe s := by
    intro f fd ps j sp G hr kp b es_ h
    refine thn ((pe_var (X := X) hN hv hd hcd).run pins s σ H (fun v H1 => v = .ref f ∧ tCall sp [] E ta σ H1 D) I ⟨_, es_, rfl, h⟩) fun u s1 ⟨x, H1, I1, rx, ex, h1⟩ => ?_
    subst ex
    obtain rfl : u = Value.ref f := rx
    refine PySem.W.callWith_K (h₀ := X.base) I1.ok.mod.kin kp (thn (ar.run pos pins s1 σ H1 _ I1 h1) fun us s2 ⟨xs, H2, I2, r, q⟩ => ⟨I2.kIn, ?_⟩) st pl
    have r2 := r.append .nil
    exact ran (ar := ⟨us, []⟩) G hr hx I2 (b s2 us I2.kIn (by rw [← r2.length]; exact G.ln _ _ _ _ q)) r2 q
  rcases h with ⟨e1, h⟩ | ⟨e1, h⟩
  · exact go G1 r1 k1 b1 e1 h
  · exact go G2 r2 k2 b2 e1 h
theorem sim_callV {i : Nat} {x1 x2 : Str} {m1 m2 : Fn} {ta : TA} {da : DA} (ha : SimA X.K E ta da) : SimE X.K E (tCallV i (He.ga X.K x1) (He.ga X.K x2) (tCall (spM X.K m1) [] E ta) (tCall (spM X.K m2) [] E ta)) (dCallV i x1 m1 x2 m2 da) := by
  intro ρ F H Γ μ σ k s Q h
  unfold dCallV at h
  split at h
  · rename_i x e
    obtain ⟨v, e1, r⟩ := s.at_ i _ e
    cases r
    split at h
    · rename_i hx
      subst hx
      exact .inl ⟨e1, sim_call ha ρ F H Γ μ σ k s Q h⟩
    · split at h
      · rename_i _ hx
        subst hx
        exact .inr ⟨e1, sim_call ha ρ F H Γ μ σ k s Q h⟩
      · exact False.elim h
  · exact False.elim h
theorem q_callV (i : Nat) {y x1 x2 : Str} {e : Expr} {es : List Expr} {p pos : Pos} {j1 j2 : Nat} {m1 m2 : Fn} {da : DA} (g1 : X.mg x1 = some (.ref (He.ga X.K x1))) (G1 : FnG X.prog X.w X.K X.mg X.base x1 j1 m1) (r1 : RoomG j1 X.A) (g2 : X.mg x2 = some (.ref (He.ga X.K x2))) (G2 : FnG X.prog X.w X.K X.mg X.base x2 j2 m2) (r2 : RoomG j2 X.A)
    (hp : Passes (L2.CX X.prog X.w) X E) (ha : QA X E (e :: es) da) (hN : X.N[i]? = some y := by rfl) (hv : Vis X.env.scope y := by first | exact Or.inl rfl | exact Or.inr (Or.inl rfl) | exact Or.inr (Or.inr rfl)) (hd : (y == ("__debug__" : Str)) = false := by decide) (hcd : (y == ("__classdict__" : Str)) = false := by decide)
    (st : starEach (e :: es) X.env = (false, eval e X.env) :: starEach es X.env := by rfl) (pl : (backTo pos (starEach es X.env)).any (·.1) = false := by rfl) : QE X E (.Call (.Name y p) (e :: es) [] pos) (dCallV i x1 m1 x2 m2 da) := by
  obtain ⟨f1, fd1, ps1, a1, a2, a3, a4⟩ := G1.ex
  obtain ⟨f2, fd2, ps2, b1, b2, b3, b4⟩ := G2.ex
  have e1 : f1 = He.ga X.K x1 := by rw [g1] at a1; cases a1; rfl
  have e2 : f2 = He.ga X.K x2 := by rw [g2] at b1; cases b1; rfl
  subst e1 e2
  obtain ⟨ta, t1, t2⟩ := ha.ex
  exact ⟨_, pe_callV hN hv a4 r1 a2 a3 b4 r2 b2 b3 hp t1 hd hcd st pl, sim_callV t2⟩
theorem q_gloV {x : Str} {pos : Pos} (h : X.mg x = some (.ref (He.ga X.K x))) (hg : Gl X x := by rfl) (hd : (x == ("__debug__" : Str)) = false := by decide) : QE X E (.Name x pos) (dC (.glo x)) := ⟨_, pe_glob (v := .ref (He.ga X.K x)) hg h rfl hd, sim_c fun _ _ => .glo x⟩
end
theorem ok_callV1 [ExW] {Γ : Gam} {μ : Mu} {Q : D → Mu → Prop} {i : Nat} {x1 x2 : Str} {m1 m2 : Fn} {da : DA} (h : Γ[i]? = some (some (.glo x1))) : Ok (dCallV i x1 m1 x2 m2 da Γ μ) Q = Ok (dCall m1 da Γ μ) Q := by
  unfold dCallV
  rw [h]
  simp
theorem ok_callV2 [ExW] {Γ : Gam} {μ : Mu} {Q : D → Mu → Prop} {i : Nat} {x1 x2 : Str} {m1 m2 : Fn} {da : DA} (h : Γ[i]? = some (some (.glo x2))) (hx : x2 ≠ x1) : Ok (dCallV i x1 m1 x2 m2 da Γ μ) Q = Ok (dCall m2 da Γ μ) Q := by
  unfold dCallV
  rw [h]
  simp [hx]
end Ar

set_option Elab.async false
set_option linter.all false
set_option maxRecDepth 100000
set_option maxHeartbeats 2000000
/-! Ar34: own properties, str(x) and repr(x) of a class with slots -/
namespace Ar
open PySem PySem.Spec PyProof.Rows L2
section
variable {X : Cx} {pins : List (Addr × Obj)} {σ : L2.St} {H : Hp} {s : Shared} {C nm : Str} {m : Fn} {k : Nat} {E : XK} {a dx : Addr} {vs : List (Option V)}
end
/-- e.nm, a property of the class C -/
def dPropO (C : Str) (m : Fn) (e : DE) : DE := fun Γ μ => (e Γ μ).bind fun d μ1 => match d with
  | .slt C' ds => if C' = C then (m [.slt C' ds] μ1).nox else .stk
  | _ => .stk
/-! ### str(x) -/
/-- a text that an own method tells -/
def txtR (r : R D) : R D := r.bind fun z μ => match z with
  | .str i => .ok (.str i) μ
  | _ => .stk
/-- str(x), repr(x) by an own method of the class C -/
def dTxtO (C : Str) (m : Fn) (e : DE) : DE := fun Γ μ => (e Γ μ).bind fun d μ1 => match d with
  | .slt C' ds => if C' = C then txtR (m [.slt C' ds] μ1) else .stk
  | _ => .stk
section
variable {X : Cx} {E : XK} {C : Str} {m : Fn} {k : Nat} {e : Expr} {de : DE} {p pos : Pos}
end
/-! ### repr(x) -/
section
variable {prog : Program} {w : World} {A : Around} {E : Value → Shared → Prop} {s : Shared} {K : PySem.W.Frag} {x C f : Addr} {ox : Obj} {odd : Option Obj}
end
/-! ### what they do -/
theorem ok_propO [ExW] {C : Str} {m : Fn} {e : DE} {Γ : Gam} {μ : Mu} {Q : D → Mu → Prop} : Ok (dPropO C m e Γ μ) Q = Ok (e Γ μ) fun d μ1 => ∃ ds, d = .slt C ds ∧ @Ok xp0 D (m [.slt C ds] μ1) Q := by
  unfold dPropO
  rw [ok_bind]
  congr 1; funext d μ1
  refine propext ⟨fun h => ?_, fun ⟨ds, e, h⟩ => ?_⟩
  · split at h
    · split at h
      · rename_i hC
        subst hC
        exact ⟨_, rfl, by rw [ok_nox] at h; exact h⟩
      · exact h.elim
    · exact h.elim
  · subst e
    simp only [if_true]
    rw [ok_nox]
    exact h
theorem ok_txtR [ExW] {r : R D} {Q : D → Mu → Prop} : Ok (txtR r) Q = Ok r fun z μ => ∃ i, z = .str i ∧ Q (.str i) μ := by
  unfold txtR
  rw [ok_bind]
  congr 1; funext z μ
  cases z <;> simp [Ok]
theorem ok_txtO [ExW] {C : Str} {m : Fn} {e : DE} {Γ : Gam} {μ : Mu} {Q : D → Mu → Prop} : Ok (dTxtO C m e Γ μ) Q = Ok (e Γ μ) fun d μ1 => ∃ ds, d = .slt C ds ∧ Ok (m [.slt C ds] μ1) fun z μ => ∃ i, z = .str i ∧ Q (.str i) μ := by
  unfold dTxtO
  rw [ok_bind]
  congr 1; funext d μ1
  refine propext ⟨fun h => ?_, fun ⟨ds, e, h⟩ => ?_⟩
  · split at h
    · split at h
      · rename_i hC
        subst hC
        rw [ok_txtR] at h
        exact ⟨_, rfl, h⟩
      · exact h.elim
    · exact h.elim
  · subst e
    simp only [if_true]
    rw [ok_txtR]
    exact h
end Ar

set_option Elab.async false
set_option linter.all false
set_option maxRecDepth 100000
set_option maxHeartbeats 2000000
/-! Ar35: the head with defs that stand in properties and class methods; class methods called -/
namespace Ar
open PySem PySem.Spec PyProof.Rows L2
/-- where the def of the property (class method) p.2.1 of the class p.1 stands -/
def wAd (K : PySem.W.Frag) (p : Str × Str × String) : Addr := match PySem.W.recIn K (He.ma K (He.ga K p.1) p.2.1) p.2.2 with
  | some (.ref g :: _) => g
  | _ => 0
def atW (K : PySem.W.Frag) (a : Addr) : He.FnW := match K.lookup a with
  | some ⟨_, _, .func d, _⟩ => some (d.name, d.qualname, d.params, d.body, d.scope, d.globals, d.closure, d.builtins)
  | _ => none
structure WrD where
  w : Str × Str × String
  nm : Str
  ql : Str
  pa : Arguments
  bo : List Stmt
  sc : Scope
def WrD.val (d : WrD) : He.FnW := some (d.nm, d.ql, d.pa, .stmts d.bo, d.sc, mainGlobals, [], builtinsNs)
def wrHd (K : PySem.W.Frag) (p : Str × Str × String) : Bool := match PySem.W.recIn K (He.ma K (He.ga K p.1) p.2.1) p.2.2 with
  | some (.ref _ :: _) => true
  | _ => false
def wrFn (K : PySem.W.Frag) (a : Addr) (ql : Str) : Bool := match K.lookup a with
  | some ⟨_, _, .func d, _⟩ => PySem.W.codeIn K d.code ql && (He.dflB K d.defaults [] && He.kwdB K d.kwdefaults [])
  | _ => false
def wrAt (K : PySem.W.Frag) (p : Str × Str × String) : Bool := He.eqO (PySem.W.findIn K (.ref (He.ga K p.1)) p.2.1) (some (some (.ref (He.ma K (He.ga K p.1) p.2.1))))
def cmAt (K : PySem.W.Frag) (p : Str × Str × String) : Bool := match PySem.W.findCls K (.ref (He.ga K p.1)) (.type "type") p.2.1 with
  | some (.get (.builtin b) (.ref a) .none (.ref c)) => decide (b = "classmethod.__get__") && (decide (a = He.ma K (He.ga K p.1) p.2.1) && decide (c = He.ga K p.1))
  | _ => false
/-- how it is read: a property through an instance, a class method through its class -/
def wrRd (K : PySem.W.Frag) (p : Str × Str × String) : Bool := if p.2.2 = "property" then
    He.eqO (PySem.W.specialIn K (.ref (He.ma K (He.ga K p.1) p.2.1)) "__get__") (some (some (.builtin "property.__get__"))) && decide (PySem.W.takesIn K (.ref (He.ma K (He.ga K p.1) p.2.1)) = some true)
  else PySem.W.readsIn K (He.ga K p.1) (.type "type") && (He.eqO (PySem.W.specialIn K (.ref (He.ga K p.1)) "__getattribute__") (some (some (.builtin "type.__getattribute__"))) &&
    (cmAt K p && PySem.W.fnIn K (wAd K p)))
def WrD.ok (K : PySem.W.Frag) (d : WrD) : Bool := wrAt K d.w && (wrHd K d.w && (wrRd K d.w && (PySem.W.keepIn K (.ref (wAd K d.w)) && wrFn K (wAd K d.w) d.ql)))
/-! ### the head -/
abbrev AlZ : Type := He.AlT × (Bool × List He.FnW)
def obsZ (fa : List He.Fa) (fn : List He.DefD) (ts : List He.Tab) (wr : List WrD) (ex : PySem.W.Frag → Bool) (K : PySem.W.Frag) : AlZ := (obsY fa fn ts ex K, (wr.all fun d => d.ok K, wr.map fun d => atW K (wAd K d.w)))
def valZ (fn : List He.DefD) (ts : List He.Tab) (wr : List WrD) (w : World) : AlZ := (He.valT fn ts w, (true, wr.map WrD.val))
def SaysZ (fa : List He.Fa) (fn : List He.DefD) (ts : List He.Tab) (wr : List WrD) (ex : PySem.W.Frag → Bool) (w : World) (K : PySem.W.Frag) : Prop := obsZ fa fn ts wr ex K = valZ fn ts wr w
section
variable {fa : List He.Fa} {fn : List He.DefD} {ts : List He.Tab} {wr : List WrD} {ex : PySem.W.Frag → Bool} {w : World} {K : PySem.W.Frag}
theorem SaysZ.y (c : SaysZ fa fn ts wr ex w K) : SaysY fa fn ts ex w K := congrArg (fun z : AlZ => z.1) c
end
/-- .. over the objects at given places alone -/
def obsLG (as : List Addr) (fa : List He.Fa) (fn : List He.DefD) (ts : List He.Tab) (wr : List WrD) (ex : PySem.W.Frag → Bool) (g : Addr → Option Obj) : AlZ := obsZ fa fn ts wr ex (He.frG g as)
def hookL (as : List Addr) (fa : List He.Fa) (fn : List He.DefD) (ts : List He.Tab) (wr : List WrD) (ex : PySem.W.Frag → Bool) : PySem.W.Hook where
  α := AlZ
  obs := fun s => obsLG as fa fn ts wr ex s.heap.get?
  val := fun w => valZ fn ts wr w
  says := fun w h => ∃ K : PySem.W.Frag, K.In h ∧ SaysZ fa fn ts wr ex w K
  of := fun _ _ e => ⟨_, He.frG_in, e⟩
  keeps := fun _ _ _ ⟨K, hK, c⟩ k => ⟨K, PySem.W.Frag.In.keeps hK k, c⟩
/-! ### class methods -/
/-- C.nm(..) -/
def dClsM (C : Str) (m : Fn) (a : DA) : DE := fun Γ μ => (a Γ μ).bind fun ds μ1 => m (.glo C :: ds) μ1
theorem ok_clsM [ExW] {C : Str} {m : Fn} {a : DA} {Γ : Gam} {μ : Mu} {Q : D → Mu → Prop} : Ok (dClsM C m a Γ μ) Q = Ok (a Γ μ) fun ds μ1 => Ok (m (.glo C :: ds) μ1) Q := by
  unfold dClsM
  rw [ok_bind]
end Ar

set_option Elab.async false
set_option linter.all false
set_option maxRecDepth 100000
set_option maxHeartbeats 4000000
/-! Ar36: try: body / except (C1, C2, C3) as n: suite, with own classes -/
namespace Ar
open PySem PySem.Spec PyProof.Rows L2
section
variable {X : Cx} {x1 x2 x3 n : Str} {C1 C2 C3 : Addr} {i : Nat} {body suite : List Stmt} {b₀ : Stmt} {p1 p2 p3 pt pos pos' : Pos} {kt} {tb : WX → TS} {ts : Addr → Value → Option Addr → TS}
end
end Ar

set_option Elab.async false
set_option linter.all false
set_option maxRecDepth 100000
set_option maxHeartbeats 4000000
/-! Ar37: raise C(e) of an own class whose __init__ keeps one field -/
namespace Ar
open PySem PySem.Spec PyProof.Rows L2
end Ar

set_option Elab.async false
set_option linter.all false
set_option maxRecDepth 100000
set_option maxHeartbeats 4000000
/-! Ar38: a lambda is made; its table of codes is a place of ours -/
namespace Ar
open PySem PySem.Spec PyProof.Rows L2
section
variable {K : PySem.W.Frag} {ρ : List Addr} {F H : Hp} {μ : Mu} {P c' : Addr} {q : Str} {t : Nat}
theorem upd_upd {a b : Addr} {x y : HO} (h : a ≠ b) : upd (upd H a x) b y = upd (upd H b y) a x := by
  funext z
  by_cases h1 : z = a
  · subst h1; rw [upd_ne h, upd_same, upd_same]
  · by_cases h2 : z = b
    · subst h2; rw [upd_same, upd_ne h1, upd_same]
    · rw [upd_ne h2, upd_ne h1, upd_ne h1, upd_ne h2]
end
end Ar

set_option Elab.async false
set_option linter.all false
set_option maxRecDepth 100000
set_option maxHeartbeats 4000000
/-! Ar39: the lambda's making, with its table told exactly -/
namespace Ar
open PySem PySem.Spec PyProof.Rows L2
section
variable {X : Cx} {pins : List (Addr × Obj)} {σ : L2.St} {H : Hp} {s : Shared}
end
end Ar

set_option Elab.async false
set_option linter.all false
set_option maxRecDepth 100000
set_option maxHeartbeats 4000000
/-! Ar40: the lambda called within the def that got it -/
namespace Ar
open PySem PySem.Spec PyProof.Rows L2
/-- the reading in terms of data -/
def tD (K : PySem.W.Frag) (de : DE) (E : XK) : TE := fun σ H Q => ∃ ρ F μ Γ, HpOk K ρ μ F H ∧ Slots K ρ F Γ σ ∧ WpR (de Γ μ) (QV K ρ F H Q) (XP K E ρ F H)
theorem pe_imp {X : Cx} {e : Expr} {t t' : TE} (h : PE X e t) (q : ∀ σ H Q, t' σ H Q → t σ H Q) : PE X e t' := ⟨fun pins s σ H Q I z => h.run pins s σ H Q I (q _ _ _ z)⟩
theorem QE.d {X : Cx} {E : XK} {e : Expr} {de : DE} (h : QE X E e de) : PE X e (tD X.K de E) := by
  obtain ⟨te, h1, h2⟩ := h.ex
  exact pe_imp h1 fun σ H Q ⟨ρ, F, μ, Γ, k, sl, w⟩ => h2 ρ F H Γ μ σ k sl Q w
section
variable {K : PySem.W.Frag} {ρ : List Addr} {F : Hp}
theorem DnO.slots {σ : L2.St} {Γ : Gam} (h : DnO K ρ F σ Γ) : Slots K ρ F Γ σ := by
  induction Γ generalizing σ with
  | nil => cases h; exact ⟨rfl, fun i d e => by simp at e⟩
  | cons o Γ ih =>
    cases h with
    | skip t =>
      obtain ⟨l, g⟩ := ih t
      refine ⟨by simp [l], fun i d e => ?_⟩
      cases i with
      | zero => simp at e
      | succ i => simpa using g i d (by simpa using e)
    | cons r t =>
      obtain ⟨l, g⟩ := ih t
      refine ⟨by simp [l], fun i d e => ?_⟩
      cases i with
      | zero =>
        rename_i v0 d0 σ0
        have e2 : d0 = d := by simpa using e
        subst e2
        exact ⟨v0, by simp, r⟩
      | succ i => simpa using g i d (by simpa using e)
end
section
variable {X : Cx} {pins : List (Addr × Obj)} {σ : L2.St} {H : Hp} {s : Shared}
end
end Ar

set_option Elab.async false
set_option linter.all false
set_option maxRecDepth 100000
set_option maxHeartbeats 4000000
/-! Ar41: defs called in an except suite, with the caught error as an argument -/
namespace Ar
open PySem PySem.Spec PyProof.Rows L2
/-- the error at a, of the class x, its dict at dd, is held by the context -/
structure HotX (X : Cx) (x : Str) (a dd : Addr) : Prop where
  ex : ∃ oe : Obj, (a, oe) ∈ X.pn ∧ Zc (.ref (He.ga X.K x)) (some dd) oe ∧ ∃ vs, oe.data = .fields vs
theorem HotX.at {X : Cx} {x : Str} {a dd : Addr} (h : HotX X x a dd) {pins : List (Addr × Obj)} {σ : L2.St} {H : Hp} {s : Shared} (I : Inv X pins σ H s) {od : Obj} (hd : s.heap.get? dd = some od) : ∃ oe, PySem.W.InstAt s.heap a oe (He.ga X.K x) (some od) := by
  obtain ⟨oe, hp, hz, vs, hv⟩ := h.ex
  have ha := (I.pin (a, oe) (List.mem_append_left _ hp)).1
  exact ⟨oe, ha, hz.1, by unfold PySem.W.notCls; rw [hv] <;> rfl, by rw [hz.2]; exact hd⟩
end Ar

set_option Elab.async false
set_option linter.all false
set_option maxRecDepth 100000
set_option maxHeartbeats 4000000
/-! Ar42: count and index in lists of truths -/
namespace Ar
open PySem PySem.Spec PyProof.Rows L2
section
variable {X : Cx} {E : XK} {o e : Expr} {do_ de : DE} {apos cpos : Pos}
end
end Ar

set_option Elab.async false
set_option linter.all false
set_option maxRecDepth 100000
set_option maxHeartbeats 4000000
/-! Ar43: isinstance of a caught error that has a dict; its fields -/
namespace Ar
open PySem PySem.Spec PyProof.Rows L2
section
variable {pr : Program} {ww : World} {AA : Around} {EE : Value → Shared → Prop} {z : Shared} {K : PySem.W.Frag} {e T : Addr} {oe : Obj} {od : Option Obj}
theorem err_found (C : ExcC K T) : PySem.W.findObj K T od "__class__" = some (.bind (.builtin "getset_descriptor.__get__") (.builtin "object.__class__")) := by
  obtain ⟨cd, hc, _⟩ := PySem.W.any_some C.hd
  unfold PySem.W.findObj
  rw [hc, Option.bind_some, C.ha, Option.bind_some]
  simp [C.hn, C.ht]
theorem err_class {D : Option Value → Shared → Prop} (C : ExcC K T) (X : K.In z.heap) (I : PySem.W.InstAt z.heap e oe T od) (q : D (some (.ref T)) { z with toks := z.toks + 1 }) : wpAny (model pr ww) AA (getAttr? (.ref e) "__class__") D EE z := by
  obtain ⟨hh, gg, rr, tt, oo⟩ := z
  have A0 := I.type (M := model pr ww)
  have A1 := PySem.W.looks_findIn (M := model pr ww) X C.hg
  have A2 := PySem.W.looks_findIn (M := model pr ww) X C.hk
  have A3 := PySem.W.looks_find (M := model pr ww) X I (err_found C)
  have un : PySem.W.Looks (model pr ww) hh (isInstance (.ref e) (.type "BaseException")) true := A0.andThen (PySem.W.looks_subIn X C.hs)
  have no2 : (Value.builtin "BaseException.__getattribute__" == Value.builtin "object.__getattribute__") = false := by decide +kernel
  have no1 : (onTheHeap (Value.ref T) && Value.builtin "BaseException.__getattribute__" == Value.builtin "object.__getattribute__") = false := by
    rw [no2]
    rfl
  have no0 : (false && onTheHeap (Value.builtin "BaseException.__getattribute__")) = false := rfl
  unfold getAttr? getAttrBy? getAttrBy
  refine wpAny_bind (wpAny_mkText (wpAny_bind (wpAny_attempt (wpAny_holding (wpAny_bind (A0.at (wpAny_bind (A1.at ?_))))))))
  show wpAny _ _ (if (onTheHeap (Value.ref T) && Value.builtin "BaseException.__getattribute__" == Value.builtin "object.__getattribute__") = true then _ else _) _ _ _
  rw [no1, if_neg Bool.false_ne_true]
  unfold getAttrByItsOwn hookBefore
  refine wpAny_bind ?_
  rw [if_pos (show onTheHeap (Value.ref T) = true from rfl)]
  refine A2.at (wpAny_bind (wpAny_attempt (wpAny_holding ?_)))
  unfold callGetattribute
  rw [no0, if_neg Bool.false_ne_true]
  unfold boundAndCalled
  rw [PySem.F.excAttr_ValueError.ga.bind (.ref e)]
  refine wpAny_bind (wpAny_pure ?_)
  show wpAny _ _ (call (.builtin "BaseException.__getattribute__") [.ref e, .str "__class__" tt]) _ _ _
  refine wpAny_call (codeAny_call_builtin PySem.F.excAttr_ValueError.ga.plain PySem.F.entry_bexc_ga ?_)
  refine @PySem.W.check_slot (model pr ww) _ _ ⟨hh, gg, rr, tt + 1, oo⟩ "BaseException.__getattribute__" "BaseException" "__getattribute__" (.ref e) [.str "__class__" tt] [] _ (by decide +kernel) (by decide +kernel) un (PySem.F.args_bexc_ga (.ref e) (.str "__class__" tt)) ?_
  unfold Builtin.«object.__getattribute__»
  refine wpAny_bind (wpAny_of_eq (a := ((Value.ref e : Value), [Value.str "__class__" tt])) (by first | rfl | (simp only [slotArgs]; rfl)) ?_)
  refine wpAny_bind (wpAny_pure (wpAny_bind (A0.at (wpAny_bind (A3.at ?_)))))
  show wpAny _ _ (holding [Value.builtin "object.__class__"] (call (.builtin "getset_descriptor.__get__") [.builtin "object.__class__", .ref e, .ref T]) >>= ret) _ _ _
  refine wpAny_bind (wpAny_holding (wpAny_call (PySem.W.class_get (s := ⟨hh, gg, rr, tt + 1, oo⟩) (ox := oe) (od := od) X I C.hm ?_)))
  refine wpAny_pure ?_
  show wpAny _ _ (handedOut (.ref T)) _ _ _
  rw [PySem.W.handedOut_of (v := .ref T) rfl]
  first
    | exact wpAny_pure (wpAny_pure q)
    | exact wpAny_pure q
    | exact wpAny_pure (wpAny_bind (wpAny_pure (wpAny_pure q)))
theorem err_kit (C : ExcC K T) : PySem.W.KitX K (.ref e) (.ref T) (fun h => PySem.W.InstAt h e oe T od) where
  ty := fun _ _ _ I => I.type
  it := fun M h => (PySem.W.handS_kitx_exc (x := e) (ox := oe) C.hg C.hk C.hs C.hd C.ha C.hn C.ht C.hm).it M h |> fun f X _ => by
    obtain ⟨cd, hc, _⟩ := PySem.W.any_some C.hd
    unfold PySem.W.clsIn at hc
    split at hc
    · rename_i ho
      intro A' Q' E' s' k q
      unfold isType loadHead
      exact wpAny_bind (wpAny_loadPart (k _ _ (X _ _ ho)) (wpAny_pure q))
    · cases hc
  ne := (PySem.W.handS_kitx_exc (x := e) (ox := oe) C.hg C.hk C.hs C.hd C.ha C.hn C.ht C.hm).ne
  ca := fun X I k => err_class C X I k
end
/-- the classes that the laws ask for -/
def exBase (x : Str) : Str := if x = "UnknownName" ∨ x = "InUse" then "WrongName" else if x = "NoWalk" ∨ x = "NothingToUndo" ∨ x = "Broken" then "NotPossible" else "WrongValue"
def exOwn (x : Str) : String := if x = "UnknownName" ∨ x = "InUse" then "LookupError" else if x = "NoWalk" ∨ x = "NothingToUndo" ∨ x = "Broken" then "ArithmeticError" else "ValueError"
/-- what is asked of the class x of errors: cs own classes, ts the language's -/
structure IsX (K : PySem.W.Frag) (x : Str) (cs : List Str) (ts : List String) : Prop where
  c : ExcC K (He.ga K x)
  own : ∀ y ∈ cs, PySem.W.kitOne K (.ref (He.ga K x)) (.ref (He.ga K y)) = some (decide (y = x ∨ y = exBase x))
  typ : ∀ t ∈ ts, PySem.W.kitOne K (.ref (He.ga K x)) (.type t) = some (decide (t = exOwn x))
def fIsE (x : Str) (cs : List Str) (ts : List String) (a dd : Addr) : Mu → List D → Option D := fun _ ds => match ds with
  | [.exn a' dd' _ _, .glo y] => if a' = a ∧ dd' = dd ∧ y ∈ cs then some (.bl (decide (y = x ∨ y = exBase x))) else none
  | [.exn a' dd' _ _, .ty t] => if a' = a ∧ dd' = dd ∧ t ∈ ts then some (.bl (decide (t = exOwn x))) else none
  | _ => none
theorem cd_isE {X : Cx} {x : Str} {cs : List Str} {ts : List String} {a dd : Addr} (k : IsX X.K x cs ts) (hx : HotX X x a dd) : CallD X (.builtin "isinstance") (fIsE x cs ts a dd) := by
  have one : ∀ (cv : Value) (b : Bool), PySem.W.kitOne X.K (.ref (He.ga X.K x)) cv = some b → ∀ (pins : List (Addr × Obj)) (s : Shared) (σ : L2.St) (H : Hp) (Q : VK) (fs : List (Str × V)), L2.Inv X pins σ H s → H dd = some (.xd fs) → Q (.bl b) H →
      wpAny (model X.prog X.w) X.A (call (.builtin "isinstance") [.ref a, cv]) (EP X pins σ Q) X.xe s := by
    intro cv b e pins s σ H Q fs I hd q
    have hO : ObjOk X.prog X.w H s.heap dd (.xd fs) := I.hok dd _ hd
    obtain ⟨mA, hns, _⟩ := hO
    obtain ⟨od, ho, _⟩ := lookIn_ns hns
    obtain ⟨oe, J⟩ := hx.at I ho
    exact PySem.W.kia_one (err_kit k.c) I.kIn J e (fun z => nomatch z) fun tk => ⟨.bl b, H, I.kept (t' := tk) fun _ _ z => z, rfl, q⟩
  refine ⟨fun xs H Q => ∃ (y : V) (cv : Value) (b : Bool) (fs : List (Str × V)), xs = [.ref a, y] ∧ (∀ u, L2.RelV y u → u = cv) ∧ PySem.W.kitOne X.K (.ref (He.ga X.K x)) cv = some b ∧ H dd = some (.xd fs) ∧ Q (.bl b) H, ?_, ?_⟩
  · intro pins s σ H xs us Q I r ⟨y, cv, b, fs, e1, hcv, e, hd, q⟩
    subst e1
    rcases r with _ | ⟨r1, r2⟩
    rcases r2 with _ | ⟨r2, r3⟩
    cases r3
    cases r1
    have ec := hcv _ r2
    subst ec
    exact one _ b e pins s σ H Q fs I hd q
  · intro ρ F H μ vs ds z k' rv ez Q q
    unfold fIsE at ez
    split at ez
    · rename_i a' dd' f d y
      split at ez
      · rename_i hh
        obtain ⟨rfl, rfl, hy⟩ := hh
        cases ez
        rcases rv with _ | ⟨r1, r2⟩
        rcases r2 with _ | ⟨r2, r3⟩
        cases r3
        cases r2
        cases r1 with
        | exn h1 h2 => exact ⟨_, _, _, _, rfl, fun u hu => hu, k.own y hy, k'.ex _ _ h1, q ρ F H _ Nx.refl k' (.bl _)⟩
      · cases ez
    · rename_i a' dd' f d t
      split at ez
      · rename_i hh
        obtain ⟨rfl, rfl, ht⟩ := hh
        cases ez
        rcases rv with _ | ⟨r1, r2⟩
        rcases r2 with _ | ⟨r2, r3⟩
        cases r3
        cases r2
        cases r1 with
        | exn h1 h2 => exact ⟨_, _, _, _, rfl, fun u hu => hu, k.typ t ht, k'.ex _ _ h1, q ρ F H _ Nx.refl k' (.bl _)⟩
      · cases ez
    · cases ez
/-! ### e.f -/
end Ar

set_option Elab.async false
set_option linter.all false
set_option maxRecDepth 100000
set_option maxHeartbeats 4000000
/-! Ar44: try: n = a() / except (..) as e: suite, in a def that got a lambda; that def called -/
namespace Ar
open PySem PySem.Spec PyProof.Rows L2
section
variable {P : Program} {w : World} {K : PySem.W.Frag} {mg : Str → Option Value} {base : Heap} {N : List Str} {qg : Str} {sg : Scope} {g : Addr} {cd : Value} {A : Around} {o : List Env} {s0 : Shared} {H0 : Hp}
end
end Ar

set_option Elab.async false
set_option linter.all false
set_option maxRecDepth 100000
set_option maxHeartbeats 4000000
/-! Ar45: x(lambda: e), x a def that calls what it gets, once, in a try -/
namespace Ar
open PySem PySem.Spec PyProof.Rows L2
end Ar

set_option Elab.async false
set_option linter.all false
set_option maxRecDepth 100000
set_option maxHeartbeats 4000000
/-! Ar46: the law's end where defs make lambdas: tables of codes -/
namespace Ar
open PySem PySem.Spec PyProof.Rows L2
end Ar

set_option Elab.async false
set_option linter.all false
set_option maxRecDepth 100000
set_option maxHeartbeats 4000000
/-! Ar47: the law's end with tables, joined; the head's hook that leaves empty tables out -/
namespace Ar
open PySem PySem.Spec PyProof.Rows L2
/-! ### the head -/
end Ar

set_option Elab.async false
set_option linter.all false
set_option maxRecDepth 100000
set_option maxHeartbeats 4000000
/-! Ar48: facts of errors' classes; a def whose code object is told -/
namespace Ar
open PySem PySem.Spec PyProof.Rows L2
end Ar

set_option Elab.async false
set_option linter.all false
set_option maxRecDepth 100000
set_option maxHeartbeats 4000000
/-! Ar49: room in an except suite -/
namespace Ar
open PySem PySem.Spec PyProof.Rows L2
end Ar

set_option Elab.async false
set_option linter.all false
set_option maxRecDepth 100000
set_option maxHeartbeats 4000000
/-! Ar50: {} -/
namespace Ar
open PySem PySem.Spec PyProof.Rows L2
def dEmp : DE := fun _ μ => .ok (.dK []) μ
theorem q_emp {X : Cx} {E : XK} {pos : Pos} : QE X E (.Dict [] [] pos) dEmp := by
  refine ⟨_, pe_dnewK, fun ρ F H Γ μ σ k s Q h p hp => ?_⟩
  exact h ρ _ _ _ (Nx.newF_ (o := .dK []) k hp) (k.newF (o := .dK []) hp) (.dK upd_same .nil)
end Ar

set_option Elab.async false
set_option linter.all false
set_option maxRecDepth 100000
set_option maxHeartbeats 4000000
/-! Ar51: repr({}); texts compared -/
namespace Ar
open PySem PySem.Spec PyProof.Rows L2
end Ar

set_option Elab.async false
set_option linter.all false
set_option maxRecDepth 100000
set_option maxHeartbeats 4000000
set_option exponentiation.threshold 10000
/-! Ar52: data that repr takes, piece by piece; calls compared by class and repr -/
namespace Ar
open PySem PySem.Spec PyProof.Rows L2
/-- nested at most n deep, of weight at most w -/
structure SmD (n w : Nat) (d : D) : Prop where
  pl : plainD n d = true
  sh : (toP d).showable = true
  sl : (toP d).leavesShort 410 = true
  wt : (toP d).weight ≤ w
theorem SmD.mono {n v w : Nat} {d : D} (h : SmD n v d) (hv : v ≤ w) : SmD n w d := ⟨h.pl, h.sh, h.sl, Nat.le_trans h.wt hv⟩
theorem SmD.show {w : Nat} {d : D} (h : SmD 20 w d) (hw : w ≤ 40000) : showD d = true := by
  unfold showD
  rw [Bool.and_eq_true, Bool.and_eq_true, decide_eq_true_eq]
  refine ⟨⟨h.pl, h.sh⟩, show_le 410 (by decide) _ h.sl ?_⟩
  have := h.wt
  rw [sizeLine_eq]
  omega
end Ar

set_option Elab.async false
set_option linter.all false
set_option maxRecDepth 100000
set_option maxHeartbeats 4000000
/-! Ar53: a class with one slot whose __init__ may raise: x(e), x(k = e) -/
namespace Ar
open PySem PySem.Spec PyProof.Rows L2
section
variable {X : Cx} {CX : CXT} {k n : Nat} {f C : Addr} {fd : FuncData} {ps ks : List Str} {sp : Sp} {E : XK} {x : Str} {p pos : Pos} {kws : List Keyword} {tk : TA} {g : List Value → List Value → List Value} {gV : List V → List V → List V}
end
/-! plain rules -/
section
variable [ExW] {Γ : Gam} {μ : Mu} {Q : D → Mu → Prop}
end
end Ar

set_option Elab.async false
set_option linter.all false
set_option maxRecDepth 100000
set_option maxHeartbeats 4000000
/-! Ar54: {"k": i} -/
namespace Ar
open PySem PySem.Spec PyProof.Rows L2
def dDct1 (x : Str) (i : Int) : DE := fun _ μ => .ok (.dK [(.inr x, .int i)]) μ
theorem q_dct1 {X : Cx} {E : XK} {x : Str} {i : Int} {j1 j2 : Nat} {p1 p2 pos : Pos} : QE X E (.Dict [some (.Constant (.str x) j1 p1)] [.Constant (.int i) j2 p2] pos) (dDct1 x i) := by
  refine ⟨_, pe_disp (pps_cons pe_str pe_int pps_nil) rfl rfl (by simp) (by simp), fun ρ F H Γ μ σ k s Q h p hp => ?_⟩
  refine ⟨upd_same, [(.inr x, .int i)], rfl, by simp, ?_⟩
  rw [L2.upd_upd]
  have hm : mergeK [] [((.inr x : Key), V.int i)] = [(.inr x, .int i)] := mergeK_nd _ _ (by simp)
  rw [hm]
  exact h ρ _ _ _ (Nx.newF_ (o := .dK [(.inr x, .int i)]) k hp) (k.newF (o := .dK [(.inr x, .int i)]) hp) (.dK upd_same (.cons (.int i) .nil))
end Ar

set_option Elab.async false
set_option linter.all false
set_option maxRecDepth 100000
set_option maxHeartbeats 4000000
/-! Ar55: == () whatever the items are -/
namespace Ar
open PySem PySem.Spec PyProof.Rows L2
def fEqN : Mu → D → D → Option D := fun _ x y => match x, y with
  | .tup ds, .tup [] => some (.bl ds.isEmpty)
  | _, _ => none
theorem od_eqN {X : Cx} (hu : X.A.units + 64 < cLine) : OpD X (compareOp .Eq) fEqN := by
  refine ⟨fun x y H Q => ∃ a b xs, x = .ref a ∧ y = .ref b ∧ SqT X.K H a xs ∧ SqT X.K H b [] ∧ Q (.bl xs.isEmpty) H, fun pins s σ H x y v u Q I rx ry h => ?_, fun ρ F H μ v w d e z k rv rw' ez Q q => ?_⟩
  · obtain ⟨a, b, xs, rfl, rfl, ha, hb, q⟩ := h
    cases (show v = Value.ref a from rx)
    cases (show u = Value.ref b from ry)
    obtain ⟨us, r1, ⟨o1, p1, c1, n1, d1⟩, _⟩ := I.tuple ha
    obtain ⟨ws, r2, ⟨o2, p2, c2, n2, d2⟩, _⟩ := I.tuple hb
    cases r2
    refine SeqAt.eq_tupleAt (e := fun _ => true) ⟨o1, p1, c1, n1, d1⟩ ⟨o2, p2, c2, n2, d2⟩ (by omega) (fun j h1 h2 => absurd h2 (by simp)) ?_
    refine ⟨.bl xs.isEmpty, H, I, ?_, q⟩
    show _ = Value.bool xs.isEmpty
    cases r1 <;> simp
  · unfold fEqN at ez
    split at ez
    · cases ez
      cases rv with
      | tup h1 h2 =>
        cases rw' with
        | tup h3 h4 =>
          cases h4
          have e : ∀ {vs : List V} {ds : List D}, DnAll X.K ρ F vs ds → vs.isEmpty = ds.isEmpty := fun r => by cases r <;> rfl
          refine ⟨_, _, _, rfl, rfl, k.ex.sqT h1, k.ex.sqT h3, ?_⟩
          rw [e h2]
          exact q ρ F H _ Nx.refl k (.bl _)
    · cases ez
end Ar

set_option Elab.async false
set_option linter.all false
set_option maxRecDepth 100000
set_option maxHeartbeats 4000000
/-! Ar56: repr({"k": i}); two tables are apart -/
namespace Ar
open PySem PySem.Spec PyProof.Rows L2
end Ar

set_option Elab.async false
set_option linter.all false
set_option maxRecDepth 100000
set_option maxHeartbeats 4000000
/-! Ar57: == [] and != [] whatever the items are -/
namespace Ar
open PySem PySem.Spec PyProof.Rows L2
end Ar

set_option Elab.async false
set_option linter.all false
set_option maxRecDepth 100000
set_option maxHeartbeats 4000000
/-! Ar58: C.nm(k = e), x.nm(e), x.nm(k = e) of a class with slots; what they raise flies on -/
namespace Ar
open PySem PySem.Spec PyProof.Rows L2
section
variable {X : Cx} {Z : CXT} {n : Nat} {f : Addr} {fd : FuncData} {ps : List Str} {sp : Sp} {pins : List (Addr × Obj)} {σ : L2.St} {H : Hp} {E : XK} {s : Shared}
end
end Ar

set_option Elab.async false
set_option linter.all false
set_option maxRecDepth 100000
set_option maxHeartbeats 4000000
/-! Ar59: isinstance(x, T), x of a class with slots, T a built-in class: False -/
namespace Ar
open PySem PySem.Spec PyProof.Rows L2
structure IsiT (K : PySem.W.Frag) (C : Str) (T : String) : Prop where
  s : SlX.SCls K (He.ga K C)
  i : SlX.SIsi K (He.ga K C)
  one : PySem.W.kitOne K (.ref (He.ga K C)) (.type T) = some false
def fIsaT (C : Str) (T : String) : Mu → List D → Option D := fun _ ds => match ds with
  | [.slt C' _, .ty T2] => if C' = C ∧ T2 = T then some (.bl false) else none
  | _ => none
theorem cd_isaT {X : Cx} {C : Str} {T : String} (k : IsiT X.K C T) : CallD X (.builtin "isinstance") (fIsaT C T) := by
  refine ⟨_, SlX.call_isiSl (.type T), fun ρ F H μ vs ds z kk rv ez Q q => ?_⟩
  unfold fIsaT at ez
  split at ez
  · rename_i C' ds T2
    split at ez
    · rename_i hC
      obtain ⟨rfl, rfl⟩ := hC
      cases ez
      cases rv with
      | cons r1 r2 =>
        cases r2 with
        | cons r2 r3 =>
          cases r3
          cases r2
          cases r1 with
          | @slt a dx _ vs _ h1 h2 h3 =>
            exact ⟨a, _, dx, vs.map some, _, false, rfl, rfl, fun w hw => hw, .inr ⟨kk.ex _ _ h1, kk.ex _ _ h2⟩, k.s, k.i, k.one, q ρ F H _ Nx.refl kk (.bl false)⟩
    · cases ez
  · cases ez
end Ar

set_option Elab.async false
set_option linter.all false
set_option maxRecDepth 100000
set_option maxHeartbeats 4000000
/-! Ar60: list + list, the sum a list that changes -/
namespace Ar
open PySem PySem.Spec PyProof.Rows L2
end Ar

set_option Elab.async false
set_option linter.all false
set_option maxRecDepth 100000
set_option maxHeartbeats 4000000
/-! Ar61: x.replace(y, z), y and z written texts, at the end of a list whose first item is e + text -/
namespace Ar
open PySem PySem.Spec PyProof.Rows L2
section
variable {X : Cx} {E : XK}
end
end Ar

set_option Elab.async false
set_option linter.all false
set_option maxRecDepth 100000
set_option maxHeartbeats 4000000
/-! Ar62: s.split(sep) as a changing list; == and != of two instances of a class with an own __eq__ alone -/
namespace Ar
open PySem PySem.Spec PyProof.Rows L2
section
variable {X : Cx} {E : XK} {o e : Expr} {do_ de : DE} {apos cpos : Pos}
end
/-! ### own == and != -/
section
variable {M : Model} {prog : Program} {w : World} {A : Around} {E : Value → Shared → Prop} {s : Shared} {K : PySem.W.Frag} {x C f L : Addr} {ox : Obj} {od : Option Obj} {h₀ : Heap} {m : Str → Option Value} {b tb : Value}
end
end Ar

set_option Elab.async false
set_option linter.all false
set_option maxRecDepth 100000
set_option maxHeartbeats 4000000
/-! Ar63: x == y and x != y, x an instance of a class with an own __eq__ alone -/
namespace Ar
open PySem PySem.Spec PyProof.Rows L2
section
variable {X : Cx} {C : Str} {m : Fn} {k : Nat} {E : XK} {pins : List (Addr × Obj)} {σ : L2.St} {H : Hp} {s : Shared}
end
section
variable {X : Cx} {E : XK} {K : PySem.W.Frag} {C : Str} {m : Fn} {a b : Expr} {da db : DE} {pos : Pos} {neg : Bool}
end
/-! the rule of Ok -/
end Ar

set_option Elab.async false
set_option linter.all false
set_option maxRecDepth 100000
set_option maxHeartbeats 4000000
/-! Ar64: t[::-1] of a tuple -/
namespace HT
open PySem PySem.Spec PyProof.Rows
section
variable {prog : Program} {w : World} {A : Around} {E : Value → Shared → Prop} {s : Shared}
end
end HT
namespace Ar
open PySem PySem.Spec PyProof.Rows L2
section
variable {X : Cx}
end
end Ar

set_option Elab.async false
set_option linter.all false
set_option maxRecDepth 100000
set_option maxHeartbeats 4000000
/-! Ar65: C(k=e) of a class with one slot whose __init__ raises nothing -/
namespace Ar
open PySem PySem.Spec PyProof.Rows L2
end Ar

set_option Elab.async false
set_option linter.all false
set_option maxRecDepth 100000
set_option maxHeartbeats 4000000
/-! Ar66: f"a{x}b" of three parts; bool(x) of an instance with an own __len__ -/
namespace Ar
open PySem PySem.Spec PyProof.Rows L2
section
variable {prog : Program} {w : World} {A : Around} {E : Value → Shared → Prop} {s : Shared} {K : PySem.W.Frag} {x C f : Addr} {ox : Obj} {odd : Option Obj}
end
/-! ### f-strings -/
section
variable {X : Cx} {E : XK} {a b c : Expr} {da db dc : DE} {pos : Pos}
end
end Ar

set_option Elab.async false
set_option linter.all false
set_option maxRecDepth 100000
set_option maxHeartbeats 4000000
/-! Ar67: u == x, x an instance with an own __eq__ and u of a built-in type; isinstance(u, C) of such -/
namespace Ar
open PySem PySem.Spec PyProof.Rows L2
section
variable {M : Model} {prog : Program} {w : World} {A : Around} {E : Value → Shared → Prop} {s : Shared} {K : PySem.W.Frag} {x C dx : Addr} {sl : Array (Option Value)} {od : Option Obj} {u : Value}
variable {T : String}
structure OthS (K : PySem.W.Frag) (C : Addr) : Prop where
  sub : ∀ t ∈ tyOk, PySem.W.subIn K (.ref C) (.type t) = some false
  kit : ∀ t ∈ tyOk, PySem.W.kitOne K (.type t) (.ref C) = some false
end
section
variable {X : Cx} {pins : List (Addr × Obj)} {σ : L2.St} {H : Hp} {s : Shared}
end
section
variable {X : Cx} {E : XK} {K : PySem.W.Frag} {C : Str} {m : Fn} {a b : Expr} {da db : DE} {pos : Pos}
end
/-- isinstance(u, C), u of a built-in type -/
def fIsaCN (C : Str) : Mu → List D → Option D := fun μ ds => match ds with
  | [x, .glo C2] => if C2 = C ∧ (tyN μ x).isSome = true then some (.bl false) else none
  | _ => none
theorem cd_isaCN {X : Cx} {C : Str} (O : OthS X.K (He.ga X.K C)) : CallD X (.builtin "isinstance") (fIsaCN C) := by
  refine ⟨_, call_isi, fun ρ F H μ vs ds z k rv ez Q q => ?_⟩
  unfold fIsaCN at ez
  split at ez
  · rename_i x C2
    split at ez
    · rename_i hc
      obtain ⟨rfl, hy⟩ := hc
      cases ez
      obtain ⟨t, ht⟩ := Option.isSome_iff_exists.mp hy
      cases rv with
      | cons r1 r2 =>
        cases r2 with
        | cons r2 r3 =>
          cases r3
          cases r2
          exact ⟨_, _, _, _, _, rfl, .own _, tyN_ok k r1 ht, O.kit t (tyN_mem ht), q ρ F H _ Nx.refl k (.bl _)⟩
    · cases ez
  · cases ez
end Ar

set_option Elab.async false
set_option linter.all false
set_option maxRecDepth 100000
set_option maxHeartbeats 4000000
/-! Ar68: list * int, the product a list that changes -/
namespace Ar
open PySem PySem.Spec PyProof.Rows L2
end Ar

set_option Elab.async false
set_option linter.all false
set_option maxRecDepth 100000
set_option maxHeartbeats 4000000
/-! Ar69: try: one statement / any clauses, each of one class, with a name or none -/
namespace Ar
open PySem PySem.Spec PyProof.Rows L2
/-- a clause: its class, the slot of its name, what its suite does -/
abbrev HdT := Value × Option Nat × (Addr → Value → Option Addr → TS)
section
variable {X : Cx} {body : List Stmt} {h₀ : ExceptHandler} {hds : List ExceptHandler} {l : List HdT} {pos : Pos} {tb : WX → TS} {Wout : WX}
end
/-! ### in terms of data -/
structure HdD where
  c : Str
  o : Option Nat
  ds : Str → Addr → Addr → DS
  sr : Str → Option (Str × D) → Mu → R D
section
variable {X : Cx} {E : XK} {e : Expr} {st : Stmt} {h₀ : ExceptHandler} {hds : List ExceptHandler} {pos : Pos} {cat : Str → Str → Bool} {tab : List (Str × Option Str)} {ls : List HdD} {de : DE}
end
end Ar

set_option Elab.async false
set_option linter.all false
set_option maxRecDepth 100000
set_option maxHeartbeats 4000000
/-! Ar70: x(lambda: e), x any def that calls what it gets; what comes of it is told by a function of the answer -/
namespace Ar
open PySem PySem.Spec PyProof.Rows L2
/-! ### facts of errors -/
end Ar

set_option Elab.async false
set_option linter.all false
set_option maxRecDepth 100000
set_option maxHeartbeats 4000000
/-! Ar71: plain instances whose attributes change: made, read, written; methods and properties of them -/
namespace Ar
open PySem PySem.Spec PyProof.Rows L2
section
variable {K : PySem.W.Frag} {ρ ρ' : List Addr} {F F' H H' : Hp} {μ μ' : Mu}
end
/-! ### making -/
section
variable {X : Cx} {Z : CXT} {k : Nat} {f C : Addr} {fd : FuncData} {ps : List Str} {sp : Sp} {E : XK} {x : Str} {p pos : Pos}
end
/-! ### attributes -/
/-! ### methods -/
end Ar

set_option Elab.async false
set_option linter.all false
set_option maxRecDepth 100000
set_option maxHeartbeats 4000000
/-! Ar72: plain instances whose attributes change: methods by keywords, properties, len and bool by own methods; Ok rules; head -/
namespace Ar
open PySem PySem.Spec PyProof.Rows L2
/-! ### properties -/
section
variable {X : Cx} {pins : List (Addr × Obj)} {σ : L2.St} {H : Hp} {s : Shared} {C nm : Str} {m : Fn} {k : Nat} {E : XK} {a dx : Addr} {vs : List (Str × V)}
end
/-! ### len and bool -/
section
variable {prog : Program} {w : World} {A : Around} {E : Value → Shared → Prop} {s : Shared} {K : PySem.W.Frag} {x C f : Addr} {ox : Obj} {odd : Option Obj}
end
section
variable {X : Cx} {E : XK} {C : Str} {m : Fn} {k : Nat} {e : Expr} {de : DE} {p pos : Pos}
end
/-! ### what they do -/
section
variable [ExW] {Γ : Gam} {μ : Mu} {Q : D → Mu → Prop} {C f nm : Str} {m : Fn} {e o : DE} {a : DA}
end
/-! ### the head -/
section
variable {P : Program} {w : World} {K : PySem.W.Frag} {mg : Str → Option Value} {base : Heap} {C nm y qual : Str} {params : Arguments} {body : List Stmt} {scope : Scope} {f : Addr} {fd : FuncData} {ps ks : List Str} {k : Nat} {m : Fn} {pm : List Nat}
end
end Ar

set_option Elab.async false
set_option linter.all false
set_option maxRecDepth 100000
set_option maxHeartbeats 4000000
/-! Ar73: x == y and x != y of two instances of one class without an __eq__ of its own -/
namespace Ar
open PySem PySem.Spec PyProof.Rows L2
section
variable {prog : Program} {w : World} {A : Around} {E : Value → Shared → Prop} {s : Shared} {K : PySem.W.Frag} {x y C : Addr} {ox oy : Obj} {od ody : Option Obj}
end
section
variable {X : Cx} {C : Str}
end
end Ar

set_option Elab.async false
set_option linter.all false
set_option maxRecDepth 100000
set_option maxHeartbeats 4000000
/-! Ar74: raise C, C an own class of errors without an __init__ -/
namespace Ar
open PySem PySem.Spec PyProof.Rows L2 PySem.Calls
section
variable {prog : Program} {w : World} {A : Around} {E : Value → Shared → Prop} {s : Shared} {K : PySem.W.Frag} {C : Addr} {env : Env}
end
section
variable {X : Cx} {W : WX} {C : Addr} {x : Str} {p pos : Pos}
end
end Ar

set_option Elab.async false
set_option linter.all false
set_option maxRecDepth 100000
set_option maxHeartbeats 4000000
/-! Ar76: comprehensions with two fors -/
namespace Ar
open PySem PySem.Spec PyProof.Rows L2
section
variable {X : Cx} {E : XK} {K : PySem.W.Frag}
end
section
variable {X : Cx} {E : XK}
end
end Ar

set_option Elab.async false
set_option linter.all false
set_option maxRecDepth 100000
set_option maxHeartbeats 4000000
/-! Ar77: len(set(xs)), xs a list of ints -/
namespace Ar
open PySem PySem.Spec PyProof.Rows L2
section
variable {X : Cx}
end
end Ar

set_option Elab.async false
set_option linter.all false
set_option maxRecDepth 100000
set_option maxHeartbeats 4000000
/-! Ar78: name = [.. for .. in a changing list that is left so] -/
namespace Ar
open PySem PySem.Spec PyProof.Rows L2
section
variable {X : Cx} {E : XK}
end
/-! what a comprehension with two fors gives -/
section
variable [ExW] {Γ : Gam} {μ : Mu} {fin : List D → Mu → R D} {vs vs1 : List Nat} {i i1 : DA} {g g1 : DG} {t t1 : DT} {e : DE}
end
end Ar

set_option Elab.async false
set_option linter.all false
set_option maxRecDepth 100000
set_option maxHeartbeats 4000000
/-! Ar79: a run does not depend on where in the store it begins: places moved up by so many -/
namespace Ar
open PySem PySem.Spec PyProof.Rows L2
mutual
def upD (b : Nat) : D → D
  | .non => .non
  | .bl x => .bl x
  | .int i => .int i
  | .str x => .str x
  | .tup ds => .tup (upL b ds)
  | .lst ds => .lst (upL b ds)
  | .scr ds => .scr (upL b ds)
  | .ins C fs => .ins C (upF b fs)
  | .slt C ds => .slt C (upL b ds)
  | .dK kvs => .dK (upK b kvs)
  | .loc n => .loc (n + b)
  | .glo x => .glo x
  | .ty n => .ty n
  | .exn a dd f d => .exn a dd f (upD b d)
  | .adr a => .adr a
  | .clo f c q σ Γ => .clo f c q σ Γ
def upL (b : Nat) : List D → List D
  | [] => []
  | d :: ds => upD b d :: upL b ds
def upF (b : Nat) : List (Str × D) → List (Str × D)
  | [] => []
  | (x, d) :: fs => (x, upD b d) :: upF b fs
def upK (b : Nat) : List (Key × D) → List (Key × D)
  | [] => []
  | (x, d) :: fs => (x, upD b d) :: upK b fs
end
theorem upL_map {b : Nat} : ∀ ds : List D, upL b ds = ds.map (upD b)
  | [] => rfl
  | d :: ds => by rw [upL, upL_map ds]; rfl
theorem upL_len {b : Nat} {ds : List D} : (upL b ds).length = ds.length := by rw [upL_map, List.length_map]
def upM (b : Nat) : MO → MO
  | .dead => .dead
  | .lst ds => .lst (upL b ds)
  | .frz ds => .frz (upL b ds)
  | .ins C fs => .ins C (upF b fs)
  | .dK kvs => .dK (upK b kvs)
  | .dT kvs => .dT (kvs.map fun p => (p.1, upD b p.2))
  | .tab P q => .tab P q
def upS (pre s : Mu) : Mu := pre ++ s.map (upM pre.length)
theorem upS_at {pre s : Mu} {n : Nat} : (upS pre s)[n + pre.length]? = (s[n]?).map (upM pre.length) := by
  unfold upS
  rw [List.getElem?_append_right (by omega), Nat.add_sub_cancel, List.getElem?_map]
theorem upS_set {pre s : Mu} {n : Nat} {o : MO} : (upS pre s).set (n + pre.length) (upM pre.length o) = upS pre (s.set n o) := by
  unfold upS
  rw [List.set_append, if_neg (by omega), Nat.add_sub_cancel, List.map_set]
theorem upS_nil {pre : Mu} : upS pre [] = pre := by unfold upS; rw [List.map_nil, List.append_nil]
def upG (b : Nat) (Γ : Gam) : Gam := Γ.map (Option.map (upD b))
theorem upG_at {b : Nat} {Γ : Gam} {i : Nat} : (upG b Γ)[i]? = (Γ[i]?).map (Option.map (upD b)) := List.getElem?_map
theorem upG_set {b : Nat} {Γ : Gam} {i : Nat} {d : D} : (upG b Γ).set i (some (upD b d)) = upG b (Γ.set i (some d)) := by
  unfold upG
  rw [List.map_set]; rfl
theorem upG_setN {b : Nat} {Γ : Gam} {i : Nat} : (upG b Γ).set i none = upG b (Γ.set i none) := by
  unfold upG
  rw [List.map_set]; rfl
def upE (b : Nat) : ExK → ExK := fun e => (e.1, e.2.map fun p => (p.1, upD b p.2))
def upR {α : Type} (u : α → α) (pre : Mu) : R α → R α
  | .ok a μ => .ok (u a) (upS pre μ)
  | .exc e μ => .exc (upE pre.length e) (upS pre μ)
  | .stk => .stk
def upRS (pre : Mu) : RS → RS
  | .nx Γ μ => .nx (upG pre.length Γ) (upS pre μ)
  | .rt d μ => .rt (upD pre.length d) (upS pre μ)
  | .bk Γ μ => .bk (upG pre.length Γ) (upS pre μ)
  | .ct Γ μ => .ct (upG pre.length Γ) (upS pre μ)
  | .exc e μ => .exc (upE pre.length e) (upS pre μ)
  | .stk => .stk
theorem up_bind {α β : Type} {u : α → α} {v : β → β} {pre : Mu} {r r' : R α} {k k' : α → Mu → R β} (hr : r' = upR u pre r) (h : ∀ x s, k' (u x) (upS pre s) = upR v pre (k x s)) : r'.bind k' = upR v pre (r.bind k) := by
  subst hr
  cases r with
  | ok a μ => exact h a μ
  | exc e μ => rfl
  | stk => rfl
theorem up_thenS {α : Type} {u : α → α} {pre : Mu} {r r' : R α} {k k' : α → Mu → RS} (hr : r' = upR u pre r) (h : ∀ x s, k' (u x) (upS pre s) = upRS pre (k x s)) : r'.thenS k' = upRS pre (r.thenS k) := by
  subst hr
  cases r with
  | ok a μ => exact h a μ
  | exc e μ => rfl
  | stk => rfl
theorem up_of {α : Type} {u : α → α} {pre s : Mu} {o o' : Option α} (h : o' = o.map u) : R.of (upS pre s) o' = upR u pre (R.of s o) := by
  subst h
  cases o <;> rfl
theorem up_nox {α : Type} {u : α → α} {pre : Mu} {r r' : R α} (h : r' = upR u pre r) : r'.nox = upR u pre r.nox := by
  subst h
  cases r <;> rfl
theorem up_fin {pre : Mu} {r r' : RS} (h : r' = upRS pre r) : r'.fin = upR (upD pre.length) pre r.fin := by
  subst h
  cases r <;> rfl
theorem up_if {α : Type} {u : α → α} {pre : Mu} {c c' : Prop} [Decidable c] [Decidable c'] {r r' : R α} (hc : c' ↔ c) (h : c → r' = upR u pre r) : (if c' then r' else .stk) = upR u pre (if c then r else .stk) := by
  by_cases z : c
  · rw [if_pos z, if_pos (hc.mpr z)]; exact h z
  · rw [if_neg z, if_neg fun y => z (hc.mp y)]; rfl
abbrev PaE (a : DE) : Prop := ∀ pre Γ s, a (upG pre.length Γ) (upS pre s) = upR (upD pre.length) pre (a Γ s)
abbrev PaA (a : DA) : Prop := ∀ pre Γ s, a (upG pre.length Γ) (upS pre s) = upR (upL pre.length) pre (a Γ s)
abbrev PaT (a : DT) : Prop := ∀ pre Γ s, a (upG pre.length Γ) (upS pre s) = upR id pre (a Γ s)
abbrev PaO (a : DO) : Prop := ∀ pre Γ s, a (upG pre.length Γ) (upS pre s) = upR id pre (a Γ s)
abbrev PaS (a : DS) : Prop := ∀ pre Γ s, a (upG pre.length Γ) (upS pre s) = upRS pre (a Γ s)
abbrev PaG (g : DG) : Prop := ∀ pre d Γ s, g (upD pre.length d) (upG pre.length Γ) (upS pre s) = upR (upG pre.length) pre (g d Γ s)
abbrev PaGs (g : DGs) : Prop := ∀ pre ds Γ s, g (upL pre.length ds) (upG pre.length Γ) (upS pre s) = upR (upG pre.length) pre (g ds Γ s)
abbrev PaF (m : Fn) : Prop := ∀ pre ds s, m (upL pre.length ds) (upS pre s) = upR (upD pre.length) pre (m ds s)
abbrev Pa1 (f : Mu → D → Option D) : Prop := ∀ pre s x, f (upS pre s) (upD pre.length x) = (f s x).map (upD pre.length)
abbrev Pa2 (f : Mu → D → D → Option D) : Prop := ∀ pre s x y, f (upS pre s) (upD pre.length x) (upD pre.length y) = (f s x y).map (upD pre.length)
abbrev PaN (f : Mu → List D → Option D) : Prop := ∀ pre s ds, f (upS pre s) (upL pre.length ds) = (f s ds).map (upD pre.length)
abbrev PaL (f : List D → Mu → R D) : Prop := ∀ pre ds s, f (upL pre.length ds) (upS pre s) = upR (upD pre.length) pre (f ds s)
/-! expressions -/
theorem pa_dVar {i : Nat} : PaE (dVar i) := fun pre Γ s => by
  unfold dVar
  rw [upG_at]
  cases Γ[i]? with
  | none => rfl
  | some o => cases o <;> rfl
theorem pa_dC {d : D} (h : ∀ b, upD b d = d) : PaE (dC d) := fun pre Γ s => by
  unfold dC
  show _ = R.ok (upD pre.length d) _
  rw [h]
theorem pa_dBin {f : Mu → D → D → Option D} {a b : DE} (hf : Pa2 f) (ha : PaE a) (hb : PaE b) : PaE (dBin f a b) := fun pre Γ s => up_bind (ha pre Γ s) fun x s1 => up_bind (hb pre Γ s1) fun y s2 => up_of (hf pre s2 x y)
theorem pa_dUn {f : Mu → D → Option D} {a : DE} (hf : Pa1 f) (ha : PaE a) : PaE (dUn f a) := fun pre Γ s => up_bind (ha pre Γ s) fun x s1 => up_of (hf pre s1 x)
theorem pa_dFn {f : Mu → List D → Option D} {a : DA} (hf : PaN f) (ha : PaA a) : PaE (dFn f a) := fun pre Γ s => up_bind (ha pre Γ s) fun x s1 => up_of (hf pre s1 x)
theorem pa_dCall {m : Fn} {a : DA} (hm : PaF m) (ha : PaA a) : PaE (dCall m a) := fun pre Γ s => up_bind (ha pre Γ s) fun x s1 => hm pre x s1
theorem pa_daNil : PaA daNil := fun pre Γ s => rfl
theorem pa_daCons {a : DE} {r : DA} (ha : PaE a) (hr : PaA r) : PaA (daCons a r) := fun pre Γ s => up_bind (ha pre Γ s) fun x s1 => up_bind (u := upL pre.length) (hr pre Γ s1) fun xs s2 => rfl
theorem pa_dLst {a : DA} (ha : PaA a) : PaE (dLst a) := fun pre Γ s => up_bind (ha pre Γ s) fun xs s1 => up_if (by rw [upL_len]) fun _ => rfl
theorem pa_dTest {a : DE} (ha : PaE a) : PaT (dTest a) := fun pre Γ s => up_bind (ha pre Γ s) fun x s1 => by cases x <;> rfl
theorem pa_dNot {t : DT} (ht : PaT t) : PaT (dNot t) := fun pre Γ s => up_bind (ht pre Γ s) fun x s1 => rfl
theorem pa_dAnd {t u : DT} (ht : PaT t) (hu : PaT u) : PaT (dAnd t u) := fun pre Γ s => up_bind (ht pre Γ s) fun x s1 => by cases x <;> first | rfl | exact hu pre Γ s1
theorem pa_dOr {t u : DT} (ht : PaT t) (hu : PaT u) : PaT (dOr t u) := fun pre Γ s => up_bind (ht pre Γ s) fun x s1 => by cases x <;> first | rfl | exact hu pre Γ s1
theorem pa_dIf {t : DT} {x y : DE} (ht : PaT t) (hx : PaE x) (hy : PaE y) : PaE (dIf t x y) := fun pre Γ s => up_bind (ht pre Γ s) fun c s1 => by
  cases c
  · exact hy pre Γ s1
  · exact hx pre Γ s1
theorem pa_dYes : PaT dYes := fun pre Γ s => rfl
theorem pa_dNotV {x : DE} (hx : PaE x) : PaE (dNotV x) := fun pre Γ s => up_bind (hx pre Γ s) fun c s1 => by cases c <;> rfl
theorem pa_dAndV {x y : DE} (hx : PaE x) (hy : PaE y) : PaE (dAndV x y) := fun pre Γ s => up_bind (hx pre Γ s) fun c s1 => by
  cases c with
  | bl b =>
    cases b
    · rfl
    · exact hy pre Γ s1
  | _ => rfl
theorem tru_up {pre s : Mu} (x : D) : truD (upS pre s) (upD pre.length x) = truD s x := by
  cases x with
  | loc n =>
    show (match (upS pre s)[n + pre.length]? with | some (.lst ds) => some (!ds.isEmpty) | some (.frz ds) => some (!ds.isEmpty) | _ => none) = (match s[n]? with | some (.lst ds) => some (!ds.isEmpty) | some (.frz ds) => some (!ds.isEmpty) | _ => none)
    rw [upS_at]
    cases s[n]? with
    | none => rfl
    | some o =>
      cases o with
      | lst ds => cases ds <;> rfl
      | frz ds => cases ds <;> rfl
      | _ => rfl
  | lst ds => cases ds <;> rfl
  | tup ds => cases ds <;> rfl
  | _ => rfl
theorem pa_dTru {a : DE} (ha : PaE a) : PaT (dTru a) := fun pre Γ s => up_bind (ha pre Γ s) fun x s1 => up_of (by rw [tru_up]; cases truD s1 x <;> rfl)
theorem pa_dNoPart : PaO dNoPart := fun pre Γ s => rfl
theorem pa_dPart {a : DE} (ha : PaE a) : PaO (dPart a) := fun pre Γ s => up_bind (ha pre Γ s) fun x s1 => by cases x <;> rfl
theorem seqL_up {pre s : Mu} (x : D) : seqL (upS pre s) (upD pre.length x) = (seqL s x).map (upL pre.length) := by
  cases x with
  | loc n =>
    show (match (upS pre s)[n + pre.length]? with | some (.lst ds) => some ds | some (.frz ds) => some ds | _ => none) = Option.map _ (match s[n]? with | some (.lst ds) => some ds | some (.frz ds) => some ds | _ => none)
    rw [upS_at]
    cases s[n]? with
    | none => rfl
    | some o => cases o <;> rfl
  | _ => rfl
theorem seqA_up {pre s : Mu} (x : D) : seqA (upS pre s) (upD pre.length x) = (seqA s x).map (upL pre.length) := by
  cases x with
  | tup ds => rfl
  | scr ds => rfl
  | lst ds => exact seqL_up (s := s) (.lst ds)
  | loc n => exact seqL_up (s := s) (.loc n)
  | _ => rfl
theorem pa_fSl {pre s : Mu} (x : D) (lo hi : Option Int) : fSl (upS pre s) (upD pre.length x) lo hi = (fSl s x lo hi).map (upD pre.length) := by
  have cm : ∀ ds : List D, cutL (upL pre.length ds) lo hi = upL pre.length (cutL ds lo hi) := fun ds => by rw [upL_map, upL_map, cut_map]
  have g : ∀ x, ((seqL (upS pre s) (upD pre.length x)).map fun ds => D.lst (cutL ds lo hi)) = (((seqL s x).map fun ds => D.lst (cutL ds lo hi))).map (upD pre.length) := fun x => by
    rw [seqL_up]
    cases seqL s x with
    | none => rfl
    | some ds => show some (D.lst (cutL (upL pre.length ds) lo hi)) = _; rw [cm]; rfl
  cases x with
  | str z => show (if z.length ≤ 1000000 then some (D.str (cutS z lo hi)) else none) = Option.map _ (if z.length ≤ 1000000 then some (D.str (cutS z lo hi)) else none); split <;> rfl
  | tup ds => show some (D.tup (cutL (upL pre.length ds) lo hi)) = _; rw [cm]; rfl
  | scr ds => show some (D.lst (cutL (upL pre.length ds) lo hi)) = _; rw [cm]; rfl
  | lst ds => exact g (.lst ds)
  | loc n => exact g (.loc n)
  | _ => rfl
theorem pa_dSl {a : DE} {l h : DO} (ha : PaE a) (hl : PaO l) (hh : PaO h) : PaE (dSl a l h) := fun pre Γ s => up_bind (ha pre Γ s) fun x s1 => up_bind (hl pre Γ s1) fun lo s2 => up_bind (hh pre Γ s2) fun hi s3 => up_of (pa_fSl x lo hi)
theorem pa_dMakeS {C : Str} {m : Fn} {a : DA} (hm : PaF m) (ha : PaA a) : PaE (dMakeS C m a) := fun pre Γ s => up_bind (ha pre Γ s) fun ds s1 => by
  match ds with
  | [] => rfl
  | [d] => exact up_bind (up_nox (hm pre [d] s1)) fun r s2 => by cases r <;> rfl
  | d :: e :: r => rfl
theorem pa_dStrM {f : Mu → D → D → Option D} {o e : DE} (hf : Pa2 f) (ho : PaE o) (he : PaE e) : PaE (dStrM f o e) := fun pre Γ s => up_bind (ho pre Γ s) fun x s1 => by
  have hx : isStr (upD pre.length x) = isStr x := by cases x <;> rfl
  rw [hx]
  cases isStr x with
  | true => exact up_bind (he pre Γ s1) fun y s2 => up_of (hf pre s2 x y)
  | false => rfl
end Ar

set_option Elab.async false
set_option linter.all false
set_option maxRecDepth 100000
set_option maxHeartbeats 4000000
/-! Ar80: the same for what reads data, walks, loops, defs -/
namespace Ar
open PySem PySem.Spec PyProof.Rows L2
/-! data without places -/
theorem plain_up {b : Nat} : ∀ (n : Nat) (d : D), plainD n (upD b d) = plainD n d
  | 0, d => by cases d <;> rfl
  | n + 1, d => by
    have h : ∀ ds : List D, (upL b ds).all (plainD n) = ds.all (plainD n) := fun ds => by
      rw [upL_map, List.all_map]
      congr 1
      funext d
      exact plain_up n d
    cases d with
    | tup ds => exact h ds
    | lst ds => exact h ds
    | _ => rfl
theorem plain_fix {b : Nat} : ∀ (n : Nat) (d : D), plainD n d = true → upD b d = d
  | 0, d, h => by cases d <;> first | rfl | exact absurd h (by simp [plainD])
  | n + 1, d, h => by
    have g : ∀ ds : List D, ds.all (plainD n) = true → upL b ds = ds := fun ds hd => by
      rw [upL_map]
      rw [List.all_eq_true] at hd
      exact (List.map_congr_left fun d hm => plain_fix n d (hd d hm)).trans (List.map_id _)
    cases d with
    | tup ds => show D.tup (upL b ds) = _; rw [g ds h]
    | lst ds => show D.lst (upL b ds) = _; rw [g ds h]
    | _ => first | rfl | exact absurd h (by simp [plainD])
theorem unloc_up {pre s : Mu} (x : D) : unloc (upS pre s) (upD pre.length x) = upD pre.length (unloc s x) := by
  cases x with
  | loc n =>
    show (match (upS pre s)[n + pre.length]? with | some (.lst ds) => D.lst ds | some (.frz ds) => D.lst ds | _ => D.loc (n + pre.length)) = upD _ (match s[n]? with | some (.lst ds) => D.lst ds | some (.frz ds) => D.lst ds | _ => D.loc n)
    rw [upS_at]
    cases s[n]? with
    | none => rfl
    | some o => cases o <;> rfl
  | _ => rfl
theorem pa_orC {f g : Mu → List D → Option D} (hf : PaN f) (hg : PaN g) : PaN (orC f g) := fun pre s x => by
  show (match f (upS pre s) (upL pre.length x) with | some z => some z | none => g (upS pre s) (upL pre.length x)) = Option.map _ (match f s x with | some z => some z | none => g s x)
  rw [hf pre s x, hg pre s x]
  cases f s x <;> rfl
theorem pa_fII {g : Int → Int → Option D} (h : ∀ b i j, (g i j).map (upD b) = g i j) : Pa2 (fII g) := fun pre s x y => by
  cases x with
  | int i =>
    cases y with
    | int j => exact (h _ i j).symm
    | _ => rfl
  | _ => cases y <;> rfl
theorem pa_fLe : Pa2 fLe := pa_fII fun b i j => rfl
theorem pa_fGt : Pa2 fGt := pa_fII fun b i j => rfl
theorem pa_fEq : Pa2 fEq := fun pre s x y => by
  show (if plainD 20 (unloc (upS pre s) (upD pre.length x)) = true ∧ plainD 20 (unloc (upS pre s) (upD pre.length y)) = true then some (D.bl (eqD 20 (unloc (upS pre s) (upD pre.length x)) (unloc (upS pre s) (upD pre.length y)))) else none) = Option.map _ (if plainD 20 (unloc s x) = true ∧ plainD 20 (unloc s y) = true then some (D.bl (eqD 20 (unloc s x) (unloc s y))) else none)
  rw [unloc_up, unloc_up, plain_up, plain_up]
  split
  · rename_i h
    rw [plain_fix 20 _ h.1, plain_fix 20 _ h.2]; rfl
  · rfl
theorem pa_fIs {neg : Bool} : Pa2 (fIs neg) := fun pre s x y => by
  cases y with
  | non => cases x <;> rfl
  | bl b => cases x <;> rfl
  | _ => rfl
theorem all_fix {b n : Nat} {ds : List D} (h : ds.all (plainD n) = true) : upL b ds = ds := by
  rw [upL_map]
  rw [List.all_eq_true] at h
  exact (List.map_congr_left fun d hm => plain_fix n d (h d hm)).trans (List.map_id _)
theorem all_up {b n : Nat} {ds : List D} : (upL b ds).all (plainD n) = ds.all (plainD n) := by
  rw [upL_map, List.all_map]
  congr 1
  funext d
  exact plain_up n d
theorem pa_fIn {neg : Bool} : Pa2 (fIn neg) := fun pre s x c => by
  have g : ∀ c, (match seqA (upS pre s) (upD pre.length c) with | some ds => if plainD 19 (unloc (upS pre s) (upD pre.length x)) = true ∧ ds.all (plainD 19) = true then some (D.bl (if neg then !inD (unloc (upS pre s) (upD pre.length x)) ds else inD (unloc (upS pre s) (upD pre.length x)) ds)) else none | none => none) = Option.map (upD pre.length) (match seqA s c with | some ds => if plainD 19 (unloc s x) = true ∧ ds.all (plainD 19) = true then some (D.bl (if neg then !inD (unloc s x) ds else inD (unloc s x) ds)) else none | none => none) := fun c => by
    rw [seqA_up, unloc_up]
    cases seqA s c with
    | none => rfl
    | some ds =>
      show (if plainD 19 (upD pre.length (unloc s x)) = true ∧ (upL pre.length ds).all (plainD 19) = true then some (D.bl (if neg then !inD (upD pre.length (unloc s x)) (upL pre.length ds) else inD (upD pre.length (unloc s x)) (upL pre.length ds))) else none) = Option.map _ (if plainD 19 (unloc s x) = true ∧ ds.all (plainD 19) = true then some (D.bl (if neg then !inD (unloc s x) ds else inD (unloc s x) ds)) else none)
      rw [plain_up, all_up]
      split
      · rename_i h
        rw [plain_fix 19 _ h.1, all_fix h.2]; rfl
      · rfl
  cases c with
  | str z =>
    cases x with
    | str y =>
      show (match y.cps.toList with | [k] => some (D.bl (if neg then !decide (k ∈ z.cps.toList) else decide (k ∈ z.cps.toList))) | _ => none) = Option.map _ (match y.cps.toList with | [k] => some (D.bl (if neg then !decide (k ∈ z.cps.toList) else decide (k ∈ z.cps.toList))) | _ => none)
      rcases y.cps.toList with _ | ⟨k, _ | ⟨l, r⟩⟩ <;> rfl
    | _ => rfl
  | non => exact g .non
  | bl v => exact g (.bl v)
  | int v => exact g (.int v)
  | tup v => exact g (.tup v)
  | lst v => exact g (.lst v)
  | scr v => exact g (.scr v)
  | ins v w => exact g (.ins v w)
  | slt v w => exact g (.slt v w)
  | dK v => exact g (.dK v)
  | loc v => exact g (.loc v)
  | glo v => exact g (.glo v)
  | ty v => exact g (.ty v)
  | exn a c f e => exact g (.exn a c f e)
  | adr v => exact g (.adr v)
  | clo a c f e h => exact g (.clo a c f e h)
theorem blsOf_up {b : Nat} : ∀ ds : List D, blsOf (upL b ds) = blsOf ds
  | [] => rfl
  | d :: ds => by
    cases d with
    | bl i => show (blsOf (upL b ds)).map _ = (blsOf ds).map _; rw [blsOf_up ds]
    | _ => rfl
theorem strs_fix {b : Nat} (zs : List Str) : upL b (zs.map D.str) = zs.map D.str := by
  rw [upL_map, List.map_map]; rfl
theorem pa_fSplit : Pa2 fSplit := fun pre s x y => by
  cases x with
  | str a =>
    cases y with
    | str c =>
      show (if c.length ≠ 0 ∧ a.length ≤ 1000000 then some (D.lst ((Txt.split a c).map .str)) else none) = Option.map _ (if c.length ≠ 0 ∧ a.length ≤ 1000000 then some (D.lst ((Txt.split a c).map .str)) else none)
      split
      · show _ = some (D.lst (upL pre.length ((Txt.split a c).map .str))); rw [strs_fix]
      · rfl
    | _ => rfl
  | _ => cases y <;> rfl
theorem pa_fNeg : Pa1 fNeg := fun pre s x => by cases x <;> rfl
theorem pa_one {f : Mu → List D → Option D} {g : Mu → D → Option D} (h : ∀ μ ds, f μ ds = match ds with | [x] => g μ x | _ => none) (hg : Pa1 g) : PaN f := fun pre s ds => by
  rw [h, h]
  match ds with
  | [] => rfl
  | [x] => exact hg pre s x
  | x :: y :: r => rfl
theorem seqA_len {pre s : Mu} (x : D) : ((seqA (upS pre s) (upD pre.length x)).map fun xs => D.int (xs.length : Nat)) = ((seqA s x).map fun xs => D.int (xs.length : Nat)).map (upD pre.length) := by
  rw [seqA_up]
  cases seqA s x with
  | none => rfl
  | some ds => show some (D.int ((upL pre.length ds).length : Nat)) = _; rw [upL_len]; rfl
theorem pa_fLen : PaN fLen := fun pre s ds => by
  match ds with
  | [] => rfl
  | [x] =>
    cases x with
    | str z => show (if z.length ≤ 1000000 then some (D.int z.length) else none) = Option.map _ (if z.length ≤ 1000000 then some (D.int z.length) else none); split <;> rfl
    | non => exact seqA_len (s := s) .non
    | bl v => exact seqA_len (s := s) (.bl v)
    | int v => exact seqA_len (s := s) (.int v)
    | tup v => exact seqA_len (s := s) (.tup v)
    | lst v => exact seqA_len (s := s) (.lst v)
    | scr v => exact seqA_len (s := s) (.scr v)
    | ins v w => exact seqA_len (s := s) (.ins v w)
    | slt v w => exact seqA_len (s := s) (.slt v w)
    | dK v => exact seqA_len (s := s) (.dK v)
    | loc v => exact seqA_len (s := s) (.loc v)
    | glo v => exact seqA_len (s := s) (.glo v)
    | ty v => exact seqA_len (s := s) (.ty v)
    | exn a c f e => exact seqA_len (s := s) (.exn a c f e)
    | adr v => exact seqA_len (s := s) (.adr v)
    | clo a c f e h => exact seqA_len (s := s) (.clo a c f e h)
  | x :: y :: r => cases x <;> rfl
theorem pa_fTuple : PaN fTuple := pa_one (g := fun μ x => (seqA μ x).map .tup) (fun μ ds => by rcases ds with _ | ⟨x, _ | ⟨y, r⟩⟩ <;> rfl) fun pre s x => by
  dsimp only
  rw [seqA_up]
  cases seqA s x <;> rfl
theorem pa_fBls {g : List Bool → D} (hg : ∀ b bs, upD b (g bs) = g bs) : PaN (fBls g) := pa_one (g := fun μ x => match seqL μ x with | some xs => (blsOf xs).map g | none => none) (fun μ ds => by rcases ds with _ | ⟨x, _ | ⟨y, r⟩⟩ <;> rfl) fun pre s x => by
  dsimp only
  rw [seqL_up]
  cases seqL s x with
  | none => rfl
  | some xs =>
    show (blsOf (upL pre.length xs)).map g = Option.map _ ((blsOf xs).map g)
    rw [blsOf_up]
    cases blsOf xs with
    | none => rfl
    | some bs => show some (g bs) = some (upD _ (g bs)); rw [hg]
theorem pa_fAll : PaN fAll := pa_fBls fun b bs => rfl
theorem pa_fAbs : PaN fAbs := pa_one (g := fun _ x => match x with | .int i => some (.int (if i < 0 then -i else i)) | _ => none) (fun μ ds => by rcases ds with _ | ⟨x, _ | ⟨y, r⟩⟩ <;> first | rfl | (cases x <;> rfl)) fun pre s x => by cases x <;> rfl
theorem pa_fInt : PaN fInt := pa_one (g := fun _ x => match x with | .int i => some (.int i) | .bl b => some (.int (if b then 1 else 0)) | .str a => if a.length ≤ 640 then (PySem.intText? a).map .int else none | _ => none) (fun μ ds => by rcases ds with _ | ⟨x, _ | ⟨y, r⟩⟩ <;> first | rfl | (cases x <;> rfl)) fun pre s x => by
  cases x with
  | str a =>
    show (if a.length ≤ 640 then (PySem.intText? a).map D.int else none) = Option.map _ (if a.length ≤ 640 then (PySem.intText? a).map D.int else none)
    split
    · cases PySem.intText? a <;> rfl
    · rfl
  | _ => rfl
theorem pa_fStr : PaN fStr := pa_one (g := fun _ x => match x with | .int i => if i.natAbs.log2 < 1920 then some (.str (toString i)) else none | _ => none) (fun μ ds => by rcases ds with _ | ⟨x, _ | ⟨y, r⟩⟩ <;> first | rfl | (cases x <;> rfl)) fun pre s x => by
  cases x with
  | int i => dsimp only [upD]; split <;> rfl
  | _ => rfl
theorem show_up {b : Nat} {x : D} : showD (upD b x) = showD x := by
  unfold showD
  rw [plain_up]
  cases h : plainD 20 x with
  | true => rw [plain_fix 20 _ h]
  | false => rfl
theorem show_fix {b : Nat} {x : D} (h : showD x = true) : upD b x = x := by
  unfold showD at h
  rw [Bool.and_eq_true, Bool.and_eq_true] at h
  exact plain_fix 20 _ h.1.1
theorem pa_fStrC : PaN fStrC := pa_one (g := fun μ x => if isTL (toP (unloc μ x)) = true ∧ showD (unloc μ x) = true then some (.str (shw (unloc μ x))) else none) (fun μ ds => by rcases ds with _ | ⟨x, _ | ⟨y, r⟩⟩ <;> rfl) fun pre s x => by
  dsimp only
  rw [unloc_up, show_up]
  by_cases h : showD (unloc s x) = true
  · rw [show_fix h]
    split <;> rfl
  · rw [if_neg fun z => h z.2, if_neg fun z => h z.2]; rfl
theorem pa_fStr2 : PaN fStr2 := pa_orC pa_fStr pa_fStrC
theorem ty_up {pre s : Mu} (x : D) : tyN (upS pre s) (upD pre.length x) = tyN s x := by
  cases x with
  | loc n =>
    show (match (upS pre s)[n + pre.length]? with | some (.lst _) => some "list" | some (.frz _) => some "list" | some (.dK _) => some "dict" | some (.dT _) => some "dict" | _ => none) = (match s[n]? with | some (.lst _) => some "list" | some (.frz _) => some "list" | some (.dK _) => some "dict" | some (.dT _) => some "dict" | _ => none)
    rw [upS_at]
    cases s[n]? with
    | none => rfl
    | some o => cases o <;> rfl
  | _ => rfl
theorem pa_fIsa : PaN fIsa := fun pre s ds => by
  rcases ds with _ | ⟨x, _ | ⟨y, _ | ⟨z, r⟩⟩⟩
  · rfl
  · rfl
  · cases y with
    | ty T =>
      show (match tyN (upS pre s) (upD pre.length x) with | some t => if ["bool", "int", "str", "tuple", "list", "dict"].contains T = true then some (D.bl (isaB t T)) else none | none => none) = Option.map _ (match tyN s x with | some t => if ["bool", "int", "str", "tuple", "list", "dict"].contains T = true then some (D.bl (isaB t T)) else none | none => none)
      rw [ty_up]
      cases tyN s x with
      | none => rfl
      | some t => dsimp only; split <;> rfl
    | _ => rfl
  · cases y <;> rfl
end Ar

set_option Elab.async false
set_option linter.all false
set_option maxRecDepth 100000
set_option maxHeartbeats 4000000
/-! Ar81: the same for walks, loops, defs; what a def answers is the same wherever the store begins -/
namespace Ar
open PySem PySem.Spec PyProof.Rows L2
/-! what is walked through -/
theorem chars_fix {b : Nat} (zs : List Nat) : upL b (zs.map fun c => D.str ⟨#[c]⟩) = zs.map fun c => D.str ⟨#[c]⟩ := by
  rw [upL_map, List.map_map]; rfl
theorem frz_up {pre s : Mu} {n : Nat} {ds : List D} : (upS pre s).set (n + pre.length) (.frz (upL pre.length ds)) = upS pre (s.set n (.frz ds)) := upS_set (o := .frz ds)
theorem seqI_up {pre s : Mu} (d : D) : seqI (upD pre.length d) (upS pre s) = upR (upL pre.length) pre (seqI d s) := by
  cases d with
  | str z => show R.ok (z.cps.toList.map fun c => D.str ⟨#[c]⟩) _ = R.ok (upL pre.length (z.cps.toList.map fun c => D.str ⟨#[c]⟩)) _; rw [chars_fix]
  | loc n =>
    show (match (upS pre s)[n + pre.length]? with | some (.lst ds) => R.ok ds ((upS pre s).set (n + pre.length) (.frz ds)) | some (.frz ds) => .ok ds (upS pre s) | _ => .stk) = upR _ pre (match s[n]? with | some (.lst ds) => R.ok ds (s.set n (.frz ds)) | some (.frz ds) => .ok ds s | _ => .stk)
    rw [upS_at]
    cases s[n]? with
    | none => rfl
    | some o =>
      cases o with
      | lst ds =>
        show R.ok (upL pre.length ds) ((upS pre s).set (n + pre.length) (.frz (upL pre.length ds))) = R.ok (upL pre.length ds) (upS pre (s.set n (.frz ds)))
        rw [frz_up]
      | _ => rfl
  | _ => rfl
theorem seqIE_up {pre s : Mu} (d : D) : seqIE (upD pre.length d) (upS pre s) = upR (upL pre.length) pre (seqIE d s) := by
  cases d with
  | str z => rfl
  | loc n => exact seqI_up (.loc n)
  | _ => rfl
theorem pa_diSeq {e : DE} (he : PaE e) : PaA (diSeq e) := fun pre Γ s => up_bind (he pre Γ s) fun d s1 => seqI_up d
theorem enum_up {b : Nat} : ∀ (k : Nat) (ds : List D), enumD k (upL b ds) = upL b (enumD k ds)
  | _, [] => rfl
  | k, d :: ds => by show D.tup [.int (k : Nat), upD b d] :: enumD (k + 1) (upL b ds) = _; rw [enum_up (k + 1) ds]; rfl
theorem pa_diEnum {a : DA} (ha : PaA a) : PaA (diEnum a) := fun pre Γ s => up_bind (ha pre Γ s) fun xs s1 => by
  rcases xs with _ | ⟨x, _ | ⟨y, r⟩⟩
  · rfl
  · exact up_bind (seqIE_up x) fun ds s2 => by show R.ok (enumD 0 (upL pre.length ds)) _ = R.ok (upL pre.length (enumD 0 ds)) _; rw [enum_up]
  · rfl
/-! targets -/
theorem pa_dgName {i : Nat} : PaG (dgName i) := fun pre d Γ s => by
  show R.ok ((upG pre.length Γ).set i (some (upD pre.length d))) _ = R.ok (upG pre.length (Γ.set i (some d))) _
  rw [upG_set]
theorem pa_dgNil : PaGs dgNil := fun pre ds Γ s => by cases ds <;> rfl
theorem pa_dgCons {g : DG} {gs : DGs} (hg : PaG g) (hs : PaGs gs) : PaGs (dgCons g gs) := fun pre ds Γ s => by
  cases ds with
  | nil => rfl
  | cons d r => exact up_bind (hg pre d Γ s) fun Γ1 s1 => hs pre r Γ1 s1
theorem pa_dgTup {n : Nat} {gs : DGs} (hs : PaGs gs) : PaG (dgTup n gs) := fun pre d Γ s => by
  cases d with
  | tup ds => exact up_if (by rw [upL_len]) fun _ => hs pre ds Γ s
  | _ => rfl
/-! comprehensions -/
theorem wipe_up {b : Nat} {Γ : Gam} : ∀ vs : List Nat, wipeG (upG b Γ) vs = upG b (wipeG Γ vs)
  | [] => rfl
  | v :: vs => by show (wipeG (upG b Γ) vs).set v none = upG b ((wipeG Γ vs).set v none); rw [wipe_up vs, upG_setN]
theorem lcL_up {g : DG} {t : DT} {e : DE} (hg : PaG g) (ht : PaT t) (he : PaE e) {pre : Mu} {Γ : Gam} : ∀ (ds : List D) (s : Mu), lcL g t e (upG pre.length Γ) (upL pre.length ds) (upS pre s) = upR (upL pre.length) pre (lcL g t e Γ ds s)
  | [], s => rfl
  | d :: ds, s => up_bind (up_nox (hg pre d Γ s)) fun Γ1 s1 => up_bind (up_nox (ht pre Γ1 s1)) fun b s2 => by
    cases b with
    | false => exact lcL_up hg ht he ds s2
    | true => exact up_bind (up_nox (he pre Γ1 s2)) fun y s3 => up_bind (lcL_up hg ht he ds s3) fun ys s4 => rfl
theorem pa_dLcF {fin : List D → Mu → R D} {vs : List Nat} {i : DA} {g : DG} {t : DT} {e : DE} (hf : PaL fin) (hi : PaA i) (hg : PaG g) (ht : PaT t) (he : PaE e) : PaE (dLcF fin vs i g t e) := fun pre Γ s => up_bind (hi pre Γ s) fun ds s1 => by
  refine up_if (by rw [upL_len]) fun _ => ?_
  rw [wipe_up]
  exact up_bind (lcL_up hg ht he ds s1) fun ys s2 => hf pre ys s2
theorem pa_finL : PaL finL := fun pre ds s => rfl
/-! statements -/
theorem pa_dsNext : PaS dsNext := fun pre Γ s => rfl
theorem pa_dSeq {a b : DS} (ha : PaS a) (hb : PaS b) : PaS (dSeq a b) := fun pre Γ s => by
  show (a (upG pre.length Γ) (upS pre s)).thenN b = upRS pre ((a Γ s).thenN b)
  rw [ha pre Γ s]
  cases a Γ s with
  | nx Γ1 s1 => exact hb pre Γ1 s1
  | _ => rfl
theorem pa_dSet {i : Nat} {e : DE} (he : PaE e) : PaS (dSet i e) := fun pre Γ s => up_thenS (he pre Γ s) fun d s1 => by
  show RS.nx ((upG pre.length Γ).set i (some (upD pre.length d))) _ = RS.nx (upG pre.length (Γ.set i (some d))) _
  rw [upG_set]
theorem pa_dRet {e : DE} (he : PaE e) : PaS (dRet e) := fun pre Γ s => up_thenS (he pre Γ s) fun d s1 => rfl
theorem pa_dIfS {c : DT} {a b : DS} (hc : PaT c) (ha : PaS a) (hb : PaS b) : PaS (dIfS c a b) := fun pre Γ s => up_thenS (hc pre Γ s) fun t s1 => by
  cases t
  · exact hb pre Γ s1
  · exact ha pre Γ s1
theorem forL_up {g : DG} {b : DS} (hg : PaG g) (hb : PaS b) {pre : Mu} : ∀ (ds : List D) (Γ : Gam) (s : Mu), forL g b (upL pre.length ds) (upG pre.length Γ) (upS pre s) = upRS pre (forL g b ds Γ s)
  | [], Γ, s => rfl
  | d :: ds, Γ, s => up_thenS (hg pre d Γ s) fun Γ1 s1 => by
    rw [hb pre Γ1 s1]
    cases b Γ1 s1 with
    | nx Γ2 s2 => exact forL_up hg hb ds Γ2 s2
    | ct Γ2 s2 => exact forL_up hg hb ds Γ2 s2
    | _ => rfl
theorem pa_dFor {i : DA} {g : DG} {b : DS} (hi : PaA i) (hg : PaG g) (hb : PaS b) : PaS (dFor i g b) := fun pre Γ s => up_thenS (hi pre Γ s) fun ds s1 => forL_up hg hb ds Γ s1
theorem pa_dDef {n N : Nat} {b : DS} (hb : PaS b) : PaF (dDef n N b) := fun pre ds s => by
  show (if (upL pre.length ds).length = n then (b ((upL pre.length ds).map some ++ List.replicate (N - (upL pre.length ds).length) none) (upS pre s)).fin else .stk) = upR _ pre (if ds.length = n then (b (ds.map some ++ List.replicate (N - ds.length) none) s).fin else .stk)
  refine up_if (by rw [upL_len]) fun _ => ?_
  have e : (upL pre.length ds).map some ++ List.replicate (N - (upL pre.length ds).length) none = upG pre.length (ds.map some ++ List.replicate (N - ds.length) none) := by
    rw [upL_len, upL_map]
    unfold upG
    rw [List.map_append, List.map_map, List.map_map, List.map_replicate]
    rfl
  rw [e]
  exact up_fin (hb pre _ s)
/-! moved back down -/
/-! the answer is the same wherever the store begins -/
end Ar

set_option linter.all false
/-! FM: moves as a group, rows of numbers, what presses come to: no program in sight -/
namespace FM
abbrev Vc := Nat → Int
def vz : Vc := fun _ => 0
def va (v w : Vc) (c : Int) : Vc := fun i => v i + c * w i
structure Md (P : Vc → Prop) : Prop where
  z : P vz
  a : ∀ v w c, P v → P w → P (va v w c)
def Sp (R : List Vc) (v : Vc) : Prop := ∀ P, Md P → (∀ r ∈ R, P r) → P v
theorem Sp.md (R : List Vc) : Md (Sp R) := ⟨fun P m _ => m.z, fun v w c a b P m h => m.a v w c (a P m h) (b P m h)⟩
theorem Sp.of {R : List Vc} {r : Vc} (h : r ∈ R) : Sp R r := fun P _ q => q r h
theorem Sp.le {R : List Vc} {P : Vc → Prop} {v : Vc} (m : Md P) (h : ∀ r ∈ R, P r) (s : Sp R v) : P v := s P m h
theorem Sp.nil {v : Vc} (h : Sp [] v) : v = vz := h (fun v => v = vz) ⟨rfl, fun v w c a b => by subst a; subst b; funext i; simp [va, vz]⟩ (fun r h => by cases h)
theorem Sp.cons {r : Vc} {R : List Vc} {v : Vc} (h : Sp (r :: R) v) : ∃ c w, Sp R w ∧ v = va w r c := by
  refine h (fun v => ∃ c w, Sp R w ∧ v = va w r c) ⟨⟨0, vz, (Sp.md R).z, by funext i; simp [va, vz]⟩, ?_⟩ ?_
  · rintro v w c ⟨a, p, hp, rfl⟩ ⟨b, q, hq, rfl⟩
    exact ⟨a + c * b, va p q c, (Sp.md R).a p q c hp hq, by funext i; simp only [va]; grind⟩
  · intro q hq
    rcases List.mem_cons.mp hq with rfl | hq
    · exact ⟨1, vz, (Sp.md R).z, by funext i; simp [va, vz]⟩
    · exact ⟨0, q, Sp.of hq, by funext i; simp [va]⟩
theorem Sp.mono {R R' : List Vc} {v : Vc} (h : ∀ r ∈ R, Sp R' r) (s : Sp R v) : Sp R' v := Sp.le (Sp.md R') h s
def SpEq (R R' : List Vc) : Prop := (∀ r ∈ R, Sp R' r) ∧ ∀ r ∈ R', Sp R r
theorem SpEq.refl (R : List Vc) : SpEq R R := ⟨fun _ h => Sp.of h, fun _ h => Sp.of h⟩
theorem SpEq.trans {A B C : List Vc} (h : SpEq A B) (k : SpEq B C) : SpEq A C := ⟨fun r hr => (h.1 r hr).mono k.1, fun r hr => (k.2 r hr).mono h.2⟩
theorem SpEq.symm {A B : List Vc} (h : SpEq A B) : SpEq B A := ⟨h.2, h.1⟩
theorem SpEq.sp {A B : List Vc} (h : SpEq A B) {v : Vc} : Sp A v ↔ Sp B v := ⟨Sp.mono h.1, Sp.mono h.2⟩
theorem SpEq.app {A B C D : List Vc} (h : SpEq A B) (k : SpEq C D) : SpEq (A ++ C) (B ++ D) := by
  constructor
  · intro r hr
    rcases List.mem_append.mp hr with q | q
    · exact (h.1 r q).mono fun x hx => Sp.of (List.mem_append_left _ hx)
    · exact (k.1 r q).mono fun x hx => Sp.of (List.mem_append_right _ hx)
  · intro r hr
    rcases List.mem_append.mp hr with q | q
    · exact (h.2 r q).mono fun x hx => Sp.of (List.mem_append_left _ hx)
    · exact (k.2 r q).mono fun x hx => Sp.of (List.mem_append_right _ hx)
theorem SpEq.perm {A B : List Vc} (h : ∀ r, r ∈ A ↔ r ∈ B) : SpEq A B := ⟨fun r q => Sp.of ((h r).mp q), fun r q => Sp.of ((h r).mpr q)⟩
/-- one Euclid step: (a, b) to (b, a + c b) -/
theorem SpEq.step (a b : Vc) (c : Int) : SpEq [a, b] [b, va a b c] := by
  constructor
  · intro r hr
    simp only [List.mem_cons, List.not_mem_nil, or_false] at hr
    rcases hr with rfl | rfl
    · have : r = va (va r b c) b (-c) := by funext i; simp only [va]; grind
      rw [this]
      exact (Sp.md _).a _ _ _ (Sp.of (by simp [← this])) (Sp.of (by simp))
    · exact Sp.of (by simp)
  · intro r hr
    simp only [List.mem_cons, List.not_mem_nil, or_false] at hr
    rcases hr with rfl | rfl
    · exact Sp.of (by simp)
    · exact (Sp.md _).a _ _ _ (Sp.of (by simp)) (Sp.of (by simp))
/-- a row turned round -/
theorem SpEq.neg (a : Vc) : SpEq [a] [va vz a (-1)] := by
  constructor
  · intro r hr
    simp only [List.mem_cons, List.not_mem_nil, or_false] at hr
    subst hr
    have : r = va vz (va vz r (-1)) (-1) := by funext i; simp [va, vz]
    have h := (Sp.md [va vz r (-1)]).a vz (va vz r (-1)) (-1) (Sp.md _).z (Sp.of (by simp))
    rw [← this] at h
    exact h
  · intro r hr
    simp only [List.mem_cons, List.not_mem_nil, or_false] at hr
    subst hr
    exact (Sp.md _).a _ _ _ (Sp.md _).z (Sp.of (by simp))
/-- a row with another one so many times more -/
theorem SpEq.more (a b : Vc) (c : Int) : SpEq [a, b] [va a b c, b] := by
  refine (SpEq.step a b c).trans (SpEq.perm fun r => ?_)
  simp only [List.mem_cons, List.not_mem_nil, or_false]
  exact Or.comm

/-! ### moves -/
structure Mv where
  x : Int
  y : Int
  s : Int
  deriving DecidableEq, Inhabited
@[ext] theorem Mv.ext' {a b : Mv} (h1 : a.x = b.x) (h2 : a.y = b.y) (h3 : a.s = b.s) : a = b := by
  cases a; cases b; simp_all
def mul (a b : Mv) : Mv := ⟨a.x + b.x, a.y + b.y, a.s + b.s + a.x * b.y⟩
def one : Mv := ⟨0, 0, 0⟩
def inv (a : Mv) : Mv := ⟨-a.x, -a.y, a.x * a.y - a.s⟩
def tri (n : Int) : Int := (n * (n - 1)).fdiv 2
theorem tri2 (n : Int) : 2 * tri n = n * (n - 1) := by
  unfold tri
  have h : n * (n - 1) % 2 = 0 := by
    rcases Int.emod_two_eq n with h | h
    · rw [Int.mul_emod, h]; simp
    · rw [Int.mul_emod, Int.sub_emod, h]; simp
  rw [Int.fdiv_eq_ediv_of_nonneg _ (by decide)]
  omega
def pow (b : Mv) (n : Int) : Mv := ⟨n * b.x, n * b.y, n * b.s + tri n * b.x * b.y⟩
theorem tri_add (m n : Int) : tri (m + n) = tri m + tri n + m * n := by
  have h1 := tri2 (m + n)
  have h2 := tri2 m
  have h3 := tri2 n
  grind
theorem pow_add (b : Mv) (m n : Int) : pow b (m + n) = mul (pow b m) (pow b n) := by
  have h := tri_add m n
  ext <;> simp only [pow, mul] <;> grind
theorem pow_zero (b : Mv) : pow b 0 = one := by ext <;> simp [pow, one, tri]
theorem pow_one (b : Mv) : pow b 1 = b := by ext <;> simp [pow, tri]
theorem mul_assoc (a b c : Mv) : mul (mul a b) c = mul a (mul b c) := by ext <;> simp only [mul] <;> grind
theorem one_mul (a : Mv) : mul one a = a := by ext <;> simp [mul, one]
theorem mul_one (a : Mv) : mul a one = a := by ext <;> simp [mul, one]
theorem inv_mul (a : Mv) : mul (inv a) a = one := by ext <;> simp only [mul, one, inv] <;> grind
def gap (a b : Mv) : Int := a.x * b.y - b.x * a.y
structure Grp (S : Mv → Prop) : Prop where
  o : S one
  m : ∀ a b, S a → S b → S (mul a b)
  i : ∀ a, S a → S (inv a)
def Gen (ms : List Mv) (m : Mv) : Prop := ∀ S, Grp S → (∀ b ∈ ms, S b) → S m
theorem Gen.grp (ms : List Mv) : Grp (Gen ms) := ⟨fun S g _ => g.o, fun a b ha hb S g h => g.m a b (ha S g h) (hb S g h), fun a ha S g h => g.i a (ha S g h)⟩
theorem Gen.of {ms : List Mv} {b : Mv} (h : b ∈ ms) : Gen ms b := fun S _ q => q b h
theorem Gen.le {ms : List Mv} {S : Mv → Prop} {m : Mv} (g : Grp S) (h : ∀ b ∈ ms, S b) (q : Gen ms m) : S m := q S g h
theorem Grp.pown {S : Mv → Prop} (g : Grp S) {b : Mv} (h : S b) : ∀ n : Nat, S (pow b n)
  | 0 => by rw [show ((0 : Nat) : Int) = 0 from rfl, pow_zero]; exact g.o
  | n + 1 => by
    rw [show ((n + 1 : Nat) : Int) = (n : Int) + 1 by omega, pow_add, pow_one]
    exact g.m _ _ (g.pown h n) h
theorem inv_uniq {a b : Mv} (h : mul a b = one) : b = inv a := by
  have := congrArg (mul (inv a)) h
  rw [← mul_assoc, inv_mul, one_mul, mul_one] at this
  exact this
theorem Grp.pow {S : Mv → Prop} (g : Grp S) {b : Mv} (h : S b) (n : Int) : S (pow b n) := by
  rcases Int.le_total 0 n with q | q
  · obtain ⟨k, rfl⟩ := Int.eq_ofNat_of_zero_le q
    exact g.pown h k
  · obtain ⟨k, hk⟩ := Int.eq_ofNat_of_zero_le (show 0 ≤ -n by omega)
    have e : mul (FM.pow b k) (FM.pow b n) = one := by rw [← pow_add, show (k : Int) + n = 0 by omega, pow_zero]
    rw [inv_uniq e]
    exact g.i _ (g.pown h k)

/-! ### presses -/
def press : List Mv → Vc → Mv
  | [], _ => one
  | b :: ms, sh => mul (pow b (sh 0)) (press ms fun j => sh (j + 1))
def smx : List Mv → Vc → Int
  | [], _ => 0
  | b :: ms, sh => sh 0 * b.x + smx ms fun j => sh (j + 1)
def smy : List Mv → Vc → Int
  | [], _ => 0
  | b :: ms, sh => sh 0 * b.y + smy ms fun j => sh (j + 1)
theorem press_x : ∀ (ms : List Mv) (sh : Vc), (press ms sh).x = smx ms sh
  | [], _ => rfl
  | b :: ms, sh => by simp only [press, mul, pow, smx, press_x ms]
theorem press_y : ∀ (ms : List Mv) (sh : Vc), (press ms sh).y = smy ms sh
  | [], _ => rfl
  | b :: ms, sh => by simp only [press, mul, pow, smy, press_y ms]
theorem smx_va : ∀ (ms : List Mv) (v w : Vc) (c : Int), smx ms (va v w c) = smx ms v + c * smx ms w
  | [], v, w, c => by simp [smx]
  | b :: ms, v, w, c => by
    have := smx_va ms (fun j => v (j + 1)) (fun j => w (j + 1)) c
    have e : (fun j => va v w c (j + 1)) = va (fun j => v (j + 1)) (fun j => w (j + 1)) c := rfl
    have ha : va v w c 0 = v 0 + c * w 0 := rfl
    simp only [smx, e, this, ha]
    grind
theorem smy_va : ∀ (ms : List Mv) (v w : Vc) (c : Int), smy ms (va v w c) = smy ms v + c * smy ms w
  | [], v, w, c => by simp [smy]
  | b :: ms, v, w, c => by
    have := smy_va ms (fun j => v (j + 1)) (fun j => w (j + 1)) c
    have e : (fun j => va v w c (j + 1)) = va (fun j => v (j + 1)) (fun j => w (j + 1)) c := rfl
    have ha : va v w c 0 = v 0 + c * w 0 := rfl
    simp only [smy, e, this, ha]
    grind
theorem press_gen (ms : List Mv) : ∀ sh, Gen ms (press ms sh) := by
  have : ∀ (l : List Mv), (∀ b ∈ l, b ∈ ms) → ∀ sh, Gen ms (press l sh) := by
    intro l
    induction l with
    | nil => intro _ _; exact (Gen.grp ms).o
    | cons b l ih =>
      intro h sh
      exact (Gen.grp ms).m _ _ ((Gen.grp ms).pow (Gen.of (h b (by simp))) _) (ih (fun c hc => h c (by simp [hc])) _)
  exact this ms fun _ h => h
theorem gap_press {g : Int} {b : Mv} : ∀ {ms : List Mv}, (∀ c ∈ ms, g ∣ gap b c) → ∀ sh, g ∣ b.x * smy ms sh - smx ms sh * b.y
  | [], _, sh => by simp [smx, smy]
  | c :: ms, h, sh => by
    obtain ⟨p, hp⟩ := h c (by simp)
    obtain ⟨q, hq⟩ := gap_press (ms := ms) (fun c hc => h c (by simp [hc])) fun j => sh (j + 1)
    refine ⟨sh 0 * p + q, ?_⟩
    simp only [smx, smy]
    unfold gap at hp
    grind
/-- presses added are presses one behind the other, up to gaps -/
theorem press_add {g : Int} : ∀ {ms : List Mv}, (∀ b ∈ ms, ∀ c ∈ ms, g ∣ gap b c) → ∀ (v w : Vc), g ∣ (press ms (va v w 1)).s - ((press ms v).s + (press ms w).s + smx ms v * smy ms w)
  | [], _, v, w => by simp [press, one, smx]
  | b :: ms, h, v, w => by
    obtain ⟨p, hp⟩ := press_add (ms := ms) (fun b hb c hc => h b (by simp [hb]) c (by simp [hc])) (fun j => v (j + 1)) (fun j => w (j + 1))
    obtain ⟨q, hq⟩ := gap_press (g := g) (b := b) (ms := ms) (fun c hc => h b (by simp) c (by simp [hc])) fun j => v (j + 1)
    refine ⟨p + w 0 * q, ?_⟩
    have e : (fun j => va v w 1 (j + 1)) = va (fun j => v (j + 1)) (fun j => w (j + 1)) 1 := rfl
    have ha : va v w 1 0 = v 0 + w 0 := by simp [va]
    have ht := tri_add (v 0) (w 0)
    have hy := smy_va ms (fun j => v (j + 1)) (fun j => w (j + 1)) 1
    simp only [press, mul, pow, smx, smy, e, ha, press_y, hy, ht]
    grind
theorem press_zero : ∀ ms : List Mv, press ms vz = one
  | [] => rfl
  | b :: ms => by
    show mul (pow b 0) (press ms vz) = one
    rw [press_zero ms, pow_zero, one_mul]

/-! ### rows of moves -/
def tl (v : Vc) : Vc := fun j => v (j + 2)
def row (o : Nat) (b : Mv) : Vc := fun i => if i = 0 then b.x else if i = 1 then b.y else if i = o + 2 then 1 else 0
def rowsFrom (o : Nat) : List Mv → List Vc
  | [] => []
  | b :: ms => row o b :: rowsFrom (o + 1) ms
def LinV (ms : List Mv) (v : Vc) : Prop := v 0 = smx ms (tl v) ∧ v 1 = smy ms (tl v) ∧ ∀ j, ms.length ≤ j → v (j + 2) = 0
theorem tl_va (v w : Vc) (c : Int) : tl (va v w c) = va (tl v) (tl w) c := rfl
theorem smx_vz : ∀ ms, smx ms vz = 0
  | [] => rfl
  | b :: ms => by
    have := smx_vz ms
    show 0 * b.x + smx ms vz = 0
    rw [this]; simp
theorem smy_vz : ∀ ms, smy ms vz = 0
  | [] => rfl
  | b :: ms => by
    have := smy_vz ms
    show 0 * b.y + smy ms vz = 0
    rw [this]; simp
theorem LinV.md (ms : List Mv) : Md (LinV ms) := by
  refine ⟨⟨(smx_vz ms).symm, (smy_vz ms).symm, fun _ _ => rfl⟩, ?_⟩
  rintro v w c ⟨a1, a2, a3⟩ ⟨b1, b2, b3⟩
  refine ⟨?_, ?_, fun j hj => ?_⟩
  · rw [tl_va, smx_va, ← a1, ← b1]; rfl
  · rw [tl_va, smy_va, ← a2, ← b2]; rfl
  · show v (j + 2) + c * w (j + 2) = 0
    rw [a3 j hj, b3 j hj]; simp
def dl (j : Nat) : Vc := fun i => if i = j then 1 else 0
theorem dl_succ (j : Nat) : (fun i => dl (j + 1) (i + 1)) = dl j := by funext i; simp [dl]
theorem dl_zero : (fun i => dl 0 (i + 1)) = vz := by funext i; simp [dl, vz]
theorem smx_dl : ∀ (ms : List Mv) (j : Nat) (b : Mv), ms[j]? = some b → smx ms (dl j) = b.x
  | [], j, b, h => by simp at h
  | c :: ms, 0, b, h => by
    simp at h; subst h
    simp only [smx, dl_zero, smx_vz]
    simp [dl]
  | c :: ms, j + 1, b, h => by
    have := smx_dl ms j b (by simpa using h)
    simp only [smx, dl_succ, this]
    simp [dl]
theorem smy_dl : ∀ (ms : List Mv) (j : Nat) (b : Mv), ms[j]? = some b → smy ms (dl j) = b.y
  | [], j, b, h => by simp at h
  | c :: ms, 0, b, h => by
    simp at h; subst h
    simp only [smy, dl_zero, smy_vz]
    simp [dl]
  | c :: ms, j + 1, b, h => by
    have := smy_dl ms j b (by simpa using h)
    simp only [smy, dl_succ, this]
    simp [dl]
theorem press_dl : ∀ (ms : List Mv) (j : Nat) (b : Mv), ms[j]? = some b → press ms (dl j) = b
  | [], j, b, h => by simp at h
  | c :: ms, 0, b, h => by
    simp at h; subst h
    simp only [press, dl_zero, press_zero]
    rw [mul_one]
    simp [dl, pow_one]
  | c :: ms, j + 1, b, h => by
    have := press_dl ms j b (by simpa using h)
    simp only [press, dl_succ, this]
    have e : dl (j + 1) 0 = 0 := by simp [dl]
    rw [e, pow_zero, one_mul]
theorem rows_mem {ms : List Mv} : ∀ {o : Nat} {r : Vc}, r ∈ rowsFrom o ms → ∃ j b, ms[j]? = some b ∧ r = row (o + j) b := by
  induction ms with
  | nil => intro o r h; cases h
  | cons c ms ih =>
    intro o r h
    rcases List.mem_cons.mp h with rfl | h
    · exact ⟨0, c, rfl, rfl⟩
    · obtain ⟨j, b, e, rfl⟩ := ih h
      exact ⟨j + 1, b, by simpa using e, by rw [show o + 1 + j = o + (j + 1) by omega]⟩
theorem row_lin {ms : List Mv} {r : Vc} (h : r ∈ rowsFrom 0 ms) : LinV ms r := by
  obtain ⟨j, b, e, rfl⟩ := rows_mem h
  have hl := (List.getElem?_eq_some_iff.mp e).1
  have et : tl (row (0 + j) b) = dl j := by
    funext i
    simp only [tl, row, dl]
    by_cases h : i = j <;> simp [h]
  refine ⟨?_, ?_, fun k hk => ?_⟩
  · rw [et, smx_dl ms j b e]; rfl
  · rw [et, smy_dl ms j b e]; rfl
  · show (if k + 2 = 0 then _ else if k + 2 = 1 then _ else if k + 2 = 0 + j + 2 then 1 else 0) = 0
    rw [if_neg (by omega), if_neg (by omega), if_neg (by omega)]
theorem lin_sp : ∀ (ms : List Mv) (o : Nat) (v : Vc), v 0 = smx ms (fun j => v (j + o + 2)) → v 1 = smy ms (fun j => v (j + o + 2)) → (∀ j, (j < o ∨ o + ms.length ≤ j) → v (j + 2) = 0) → Sp (rowsFrom o ms) v
  | [], o, v, h0, h1, h2 => by
    have : v = vz := by
      funext i
      match i with
      | 0 => exact h0
      | 1 => exact h1
      | i + 2 => exact h2 i (by simp; omega)
    rw [this]
    exact (Sp.md _).z
  | b :: ms, o, v, h0, h1, h2 => by
    have hr : ∀ j, j ≠ o → row o b (j + 2) = 0 := fun j hj => by
      show (if j + 2 = 0 then _ else if j + 2 = 1 then _ else if j + 2 = o + 2 then 1 else 0) = 0
      rw [if_neg (by omega), if_neg (by omega), if_neg (by omega)]
    have ho : row o b (o + 2) = 1 := by
      show (if o + 2 = 0 then _ else if o + 2 = 1 then _ else if o + 2 = o + 2 then 1 else 0) = (1 : Int)
      rw [if_neg (by omega), if_neg (by omega), if_pos rfl]
    have es : (fun j => va v (row o b) (-v (o + 2)) (j + (o + 1) + 2)) = fun j => v (j + 1 + o + 2) := by
      funext j
      have := hr (j + (o + 1)) (by omega)
      show v (j + (o + 1) + 2) + _ * row o b (j + (o + 1) + 2) = _
      rw [this, show j + (o + 1) + 2 = j + 1 + o + 2 by omega]
      simp
    have h0' : v 0 = v (o + 2) * b.x + smx ms fun j => v (j + 1 + o + 2) := by
      have := h0
      simp only [smx, Nat.zero_add] at this
      exact this
    have h1' : v 1 = v (o + 2) * b.y + smy ms fun j => v (j + 1 + o + 2) := by
      have := h1
      simp only [smy, Nat.zero_add] at this
      exact this
    have ih := lin_sp ms (o + 1) (va v (row o b) (-v (o + 2))) (by
        rw [es]
        show v 0 + _ * b.x = _
        rw [h0']; grind) (by
        rw [es]
        show v 1 + _ * b.y = _
        rw [h1']; grind) (fun j hj => by
        show v (j + 2) + _ * row o b (j + 2) = 0
        by_cases e : j = o
        · subst e
          rw [ho]; omega
        · rw [hr j e, h2 j (by simp; omega)]; simp)
    have e2 : v = va (va v (row o b) (-v (o + 2))) (row o b) (v (o + 2)) := by funext i; simp only [va]; grind
    rw [e2]
    exact (Sp.md _).a _ _ _ (ih.mono fun r hr => Sp.of (List.mem_cons_of_mem _ hr)) (Sp.of (List.mem_cons_self ..))
theorem lin_iff {ms : List Mv} {v : Vc} : LinV ms v ↔ Sp (rowsFrom 0 ms) v :=
  ⟨fun h => lin_sp ms 0 v h.1 h.2.1 fun j hj => h.2.2 j (by simp at hj; exact hj), fun h => Sp.le (LinV.md ms) (fun _ => row_lin) h⟩

/-! ### what presses make, up to a step -/
def SS (ms : List Mv) (g : Int) (m : Mv) : Prop := ∃ sh : Vc, smx ms sh = m.x ∧ smy ms sh = m.y ∧ g ∣ m.s - (press ms sh).s ∧ ∀ j, ms.length ≤ j → sh j = 0
def GapOk (ms : List Mv) (g : Int) : Prop := ∀ b ∈ ms, ∀ c ∈ ms, g ∣ gap b c
theorem SS.grp {ms : List Mv} {g : Int} (hg : GapOk ms g) : Grp (SS ms g) := by
  have hm : ∀ a b, SS ms g a → SS ms g b → SS ms g (mul a b) := by
    rintro a b ⟨v, v1, v2, ⟨p, hp⟩, v4⟩ ⟨w, w1, w2, ⟨q, hq⟩, w4⟩
    obtain ⟨r, hr⟩ := press_add hg v w
    refine ⟨va v w 1, ?_, ?_, ⟨p + q - r, ?_⟩, fun j hj => ?_⟩
    · rw [smx_va, v1, w1]; simp [mul]
    · rw [smy_va, v2, w2]; simp [mul]
    · simp only [mul]
      rw [v1, w2] at hr
      grind
    · show v j + 1 * w j = 0
      rw [v4 j hj, w4 j hj]; rfl
  refine ⟨⟨vz, smx_vz ms, smy_vz ms, by rw [press_zero]; exact ⟨0, by simp [one]⟩, fun _ _ => rfl⟩, hm, ?_⟩
  rintro a ⟨v, v1, v2, ⟨p, hp⟩, v4⟩
  have e : va v (va vz v (-1)) 1 = vz := by funext i; simp [va, vz]; omega
  obtain ⟨r, hr⟩ := press_add hg v (va vz v (-1))
  rw [e, press_zero, v1, smy_va, smy_vz, v2] at hr
  refine ⟨va vz v (-1), ?_, ?_, ⟨r - p, ?_⟩, fun j hj => ?_⟩
  · rw [smx_va, smx_vz, v1]; simp [inv]
  · rw [smy_va, smy_vz, v2]; simp [inv]
  · simp only [inv, one] at hr ⊢
    grind
  · show 0 + -1 * v j = 0
    rw [v4 j hj]; rfl
theorem SS.of {ms : List Mv} {g : Int} {b : Mv} (h : b ∈ ms) : SS ms g b := by
  obtain ⟨j, hj⟩ := List.mem_iff_getElem?.mp h
  have hl := (List.getElem?_eq_some_iff.mp hj).1
  refine ⟨dl j, smx_dl ms j b hj, smy_dl ms j b hj, by rw [press_dl ms j b hj]; exact ⟨0, by simp⟩, fun i hi => ?_⟩
  simp only [dl]
  rw [if_neg (by omega)]
theorem SS.press {ms : List Mv} {g : Int} {sh : Vc} (h : ∀ j, ms.length ≤ j → sh j = 0) : SS ms g (FM.press ms sh) := ⟨sh, (press_x ms sh).symm, (press_y ms sh).symm, ⟨0, by simp⟩, h⟩
theorem SS.shift {ms : List Mv} {g : Int} {m m' : Mv} (h : SS ms g m) (hx : m'.x = m.x) (hy : m'.y = m.y) (hs : g ∣ m'.s - m.s) : SS ms g m' := by
  obtain ⟨sh, h1, h2, ⟨p, hp⟩, h4⟩ := h
  obtain ⟨q, hq⟩ := hs
  exact ⟨sh, h1.trans hx.symm, h2.trans hy.symm, ⟨p + q, by grind⟩, h4⟩
theorem SS.gen {ms : List Mv} {g : Int} {m : Mv} (hg : Gen ms ⟨0, 0, g⟩) (h : SS ms g m) : Gen ms m := by
  obtain ⟨sh, h1, h2, ⟨p, hp⟩, h4⟩ := h
  have G := Gen.grp ms
  have e : m = mul (FM.press ms sh) (FM.pow ⟨0, 0, g⟩ p) := by
    ext
    · simp [mul, FM.pow, press_x, h1]
    · simp [mul, FM.pow, press_y, h2]
    · simp only [mul, FM.pow]; grind
  rw [e]
  exact G.m _ _ (press_gen ms sh) (G.pow hg p)
/-! ### forms -/
/-- what a shape is: rows of the east and of the north, if any, the rests; with the rows of the moves they make the same -/
structure Shp (ms : List Mv) (E N : Option Vc) (rs : List Vc) : Prop where
  sp : SpEq (E.toList ++ (N.toList ++ rs)) (rowsFrom 0 ms)
  e0 : ∀ e, E = some e → 0 < e 0
  n0 : ∀ n, N = some n → n 0 = 0 ∧ 0 < n 1
  r0 : ∀ r ∈ rs, r 0 = 0 ∧ r 1 = 0
theorem md_of {P : Vc → Prop} (z : P vz) (a : ∀ v w, P v → P w → P (va v w 1)) (b : ∀ v w, P v → P w → P (va v w (-1))) : Md P := by
  refine ⟨z, fun v w c hv hw => ?_⟩
  have up : ∀ n : Nat, P (va v w n) := by
    intro n
    induction n with
    | zero =>
      have : va v w ((0 : Nat) : Int) = v := by funext i; simp [va]
      rw [this]; exact hv
    | succ n ih =>
      have : va v w ((n + 1 : Nat) : Int) = va (va v w n) w 1 := by funext i; simp only [va]; grind
      rw [this]; exact a _ _ ih hw
  have dn : ∀ n : Nat, P (va v w (-(n : Int))) := by
    intro n
    induction n with
    | zero =>
      have : va v w (-((0 : Nat) : Int)) = v := by funext i; simp [va]
      rw [this]; exact hv
    | succ n ih =>
      have : va v w (-((n + 1 : Nat) : Int)) = va (va v w (-(n : Int))) w (-1) := by funext i; simp only [va]; grind
      rw [this]; exact b _ _ ih hw
  rcases Int.le_total 0 c with h | h
  · obtain ⟨k, rfl⟩ := Int.eq_ofNat_of_zero_le h
    exact up k
  · obtain ⟨k, hk⟩ := Int.eq_ofNat_of_zero_le (show 0 ≤ -c by omega)
    have : c = -(k : Int) := by omega
    rw [this]; exact dn k
theorem sp_opt {E : Option Vc} {R : List Vc} {v : Vc} (h : Sp (E.toList ++ R) v) : ∃ a w, Sp R w ∧ v = va w (E.getD vz) a := by
  cases E with
  | none => exact ⟨0, v, h, by funext i; simp [va]⟩
  | some e => exact Sp.cons h
/-- presses that come to no steps come to multiples of the step -/
theorem Shp.ker {ms : List Mv} {E N : Option Vc} {rs : List Vc} {g : Int} (S : Shp ms E N rs) (hk : GapOk ms g) (hr : ∀ r ∈ rs, g ∣ (FM.press ms (tl r)).s) {m : Mv} (h : SS ms g m) (hx : m.x = 0) (hy : m.y = 0) : g ∣ m.s := by
  obtain ⟨sh, h1, h2, h3, h4⟩ := h
  let v : Vc := fun i => match i with
    | 0 => 0
    | 1 => 0
    | i + 2 => sh i
  have etl : tl v = sh := rfl
  have lv : LinV ms v := ⟨by rw [etl, h1, hx], by rw [etl, h2, hy], h4⟩
  have sv := S.sp.sp.mpr (lin_iff.mp lv)
  obtain ⟨a, w, sw, ev⟩ := sp_opt sv
  obtain ⟨b, u, su, ew⟩ := sp_opt sw
  have mdr : Md fun q : Vc => q 0 = 0 ∧ q 1 = 0 := ⟨⟨rfl, rfl⟩, fun p q c hp hq => ⟨by simp [va, hp.1, hq.1], by simp [va, hp.2, hq.2]⟩⟩
  have u0 := Sp.le mdr S.r0 su
  have n00 : (N.getD vz) 0 = 0 := by
    cases N with
    | none => rfl
    | some n => exact (S.n0 n rfl).1
  have v0 : a * (E.getD vz) 0 = 0 := by
    have := congrFun ev 0
    have e0 : v 0 = 0 := rfl
    rw [e0, ew] at this
    simp only [va, u0.1, n00] at this
    omega
  have aE : va w (E.getD vz) a = w := by
    cases E with
    | none => funext i; simp [va, vz]
    | some e =>
      have := S.e0 e rfl
      have : a = 0 := by
        rcases Int.mul_eq_zero.mp v0 with q | q
        · exact q
        · simp at q; omega
      subst this
      funext i; simp [va]
  rw [aE] at ev
  have v1 : b * (N.getD vz) 1 = 0 := by
    have := congrFun ev 1
    have e0 : v 1 = 0 := rfl
    rw [e0, ew] at this
    simp only [va, u0.2] at this
    omega
  have bN : va u (N.getD vz) b = u := by
    cases N with
    | none => funext i; simp [va, vz]
    | some n =>
      have := (S.n0 n rfl).2
      have : b = 0 := by
        rcases Int.mul_eq_zero.mp v1 with q | q
        · exact q
        · simp at q; omega
      subst this
      funext i; simp [va]
  rw [bN] at ew
  rw [ew] at ev
  have mdp : Md fun q : Vc => LinV ms q ∧ (q 0 = 0 ∧ q 1 = 0) ∧ g ∣ (FM.press ms (tl q)).s := by
    have key : ∀ p q : Vc, LinV ms p → LinV ms q → p 0 = 0 → q 1 = 0 → g ∣ (FM.press ms (tl (va p q 1))).s - ((FM.press ms (tl p)).s + (FM.press ms (tl q)).s) := by
      intro p q lp lq p0 q1
      have := press_add hk (tl p) (tl q)
      rw [← lp.1, p0, ← lq.2.1, q1, Int.mul_zero, Int.add_zero] at this
      exact this
    refine md_of ⟨(LinV.md ms).z, ⟨rfl, rfl⟩, ?_⟩ ?_ ?_
    · have : tl vz = vz := rfl
      rw [this, press_zero]; exact ⟨0, by simp [one]⟩
    · rintro p q ⟨lp, ⟨p0, p1⟩, ⟨x, hx⟩⟩ ⟨lq, ⟨q0, q1⟩, ⟨y, hy⟩⟩
      obtain ⟨z, hz⟩ := key p q lp lq p0 q1
      exact ⟨(LinV.md ms).a _ _ _ lp lq, ⟨by simp [va, p0, q0], by simp [va, p1, q1]⟩, ⟨x + y + z, by grind⟩⟩
    · rintro p q ⟨lp, ⟨p0, p1⟩, ⟨x, hx⟩⟩ ⟨lq, ⟨q0, q1⟩, ⟨y, hy⟩⟩
      have lr := (LinV.md ms).a p q (-1) lp lq
      obtain ⟨z, hz⟩ := key (va p q (-1)) q lr lq (by simp [va, p0, q0]) q1
      have e : va (va p q (-1)) q 1 = p := by funext i; simp only [va]; grind
      rw [e] at hz
      exact ⟨lr, ⟨by simp [va, p0, q0], by simp [va, p1, q1]⟩, ⟨x - y - z, by grind⟩⟩
  have fin := Sp.le mdp (fun r hr' => ⟨lin_iff.mpr (S.sp.sp.mp (Sp.of (List.mem_append_right _ (List.mem_append_right _ hr')))), S.r0 r hr', hr r hr'⟩) su
  rw [← ev, etl] at fin
  obtain ⟨p, hp⟩ := fin.2.2
  obtain ⟨q, hq⟩ := h3
  exact ⟨p + q, by grind⟩
/-- two made moves of the same steps: their areas differ by the step -/
theorem Shp.same {ms : List Mv} {E N : Option Vc} {rs : List Vc} {g : Int} (S : Shp ms E N rs) (hk : GapOk ms g) (hr : ∀ r ∈ rs, g ∣ (FM.press ms (tl r)).s) {m m' : Mv} (h : SS ms g m) (h' : SS ms g m') (hx : m.x = m'.x) (hy : m.y = m'.y) : g ∣ m.s - m'.s := by
  have G := SS.grp hk
  have q := S.ker hk hr (G.m _ _ h (G.i _ h')) (by simp [mul, inv, hx]; omega) (by simp [mul, inv, hy]; omega)
  have e : (mul m (inv m')).s = m.s - m'.s := by simp only [mul, inv]; rw [hx]; grind
  rw [e] at q
  exact q
/-- the move of a row, its area made less by a multiple of the step -/
def Bnd (ms : List Mv) (g : Int) (E : Option Vc) (e : Option Mv) : Prop := match E, e with
  | none, none => True
  | some v, some m => m.x = v 0 ∧ m.y = v 1 ∧ g ∣ m.s - (FM.press ms (tl v)).s
  | _, _ => False
theorem Bnd.ss {ms : List Mv} {E N : Option Vc} {rs : List Vc} {g : Int} {v : Vc} {m : Mv} (lv : LinV ms v) (h : Bnd ms g (some v) (some m)) : SS ms g m := by
  obtain ⟨h1, h2, h3⟩ := h
  exact ⟨tl v, by rw [← lv.1, h1], by rw [← lv.2.1, h2], h3, lv.2.2⟩
def led (e n : Option Mv) (a b : Int) : Mv := mul (FM.pow (e.getD one) a) (FM.pow (n.getD one) b)
theorem Shp.told {ms : List Mv} {E N : Option Vc} {rs : List Vc} {g : Int} {e n : Option Mv} (S : Shp ms E N rs) (hk : GapOk ms g) (hr : ∀ r ∈ rs, g ∣ (FM.press ms (tl r)).s) (he : Bnd ms g E e) (hn : Bnd ms g N n) (m : Mv) :
    SS ms g m ↔ ∃ a b, m.x = (led e n a b).x ∧ m.y = (led e n a b).y ∧ g ∣ m.s - (led e n a b).s := by
  have G := SS.grp hk
  have lin : ∀ v, v ∈ E.toList ++ (N.toList ++ rs) → LinV ms v := fun v hv => lin_iff.mpr (S.sp.sp.mp (Sp.of hv))
  have se : SS ms g (e.getD one) := by
    cases e with
    | none => exact G.o
    | some m =>
      cases E with
      | none => exact he.elim
      | some v => exact Bnd.ss (E := none) (N := none) (rs := []) (lin v (by simp)) he
  have sn : SS ms g (n.getD one) := by
    cases n with
    | none => exact G.o
    | some m =>
      cases N with
      | none => exact hn.elim
      | some v => exact Bnd.ss (E := none) (N := none) (rs := []) (lin v (by simp)) hn
  have sl : ∀ a b, SS ms g (led e n a b) := fun a b => G.m _ _ (G.pow se a) (G.pow sn b)
  constructor
  · intro h
    obtain ⟨sh, h1, h2, h3, h4⟩ := id h
    let v : Vc := fun i => match i with
      | 0 => m.x
      | 1 => m.y
      | i + 2 => sh i
    have lv : LinV ms v := ⟨h1.symm, h2.symm, h4⟩
    have sv := S.sp.sp.mpr (lin_iff.mp lv)
    obtain ⟨a, w, sw, ev⟩ := sp_opt sv
    obtain ⟨b, u, su, ew⟩ := sp_opt sw
    have mdr : Md fun q : Vc => q 0 = 0 ∧ q 1 = 0 := ⟨⟨rfl, rfl⟩, fun p q c hp hq => ⟨by simp [va, hp.1, hq.1], by simp [va, hp.2, hq.2]⟩⟩
    have u0 := Sp.le mdr S.r0 su
    have ex : (e.getD one).x = (E.getD vz) 0 ∧ (e.getD one).y = (E.getD vz) 1 := by
      cases e with
      | none =>
        cases E with
        | none => exact ⟨rfl, rfl⟩
        | some v => exact he.elim
      | some m =>
        cases E with
        | none => exact he.elim
        | some v => exact ⟨he.1, he.2.1⟩
    have nx : (n.getD one).x = (N.getD vz) 0 ∧ (n.getD one).y = (N.getD vz) 1 := by
      cases n with
      | none =>
        cases N with
        | none => exact ⟨rfl, rfl⟩
        | some v => exact hn.elim
      | some m =>
        cases N with
        | none => exact hn.elim
        | some v => exact ⟨hn.1, hn.2.1⟩
    have x1 : m.x = (led e n a b).x := by
      have := congrFun ev 0
      rw [ew] at this
      simp only [va, u0.1] at this
      simp only [led, mul, FM.pow, ex.1, nx.1]
      show v 0 = _
      rw [this]; omega
    have y1 : m.y = (led e n a b).y := by
      have := congrFun ev 1
      rw [ew] at this
      simp only [va, u0.2] at this
      simp only [led, mul, FM.pow, ex.2, nx.2]
      show v 1 = _
      rw [this]; omega
    exact ⟨a, b, x1, y1, S.same hk hr h (sl a b) x1 y1⟩
  · rintro ⟨a, b, hx, hy, hs⟩
    exact (sl a b).shift hx hy hs

/-! ### Euclid -/
/-- one turn of Euclid's loop, of any signs: b is not 0 -/
theorem eu_pos {a b : Int} (hb : 0 < b) : (a + -(a.fdiv b) * b).natAbs < b.natAbs ∧ 0 ≤ (a + -(a.fdiv b) * b) * b ∧ (a.fdiv b).natAbs * b.natAbs ≤ a.natAbs + (a + -(a.fdiv b) * b).natAbs ∧ (0 ≤ a * b → (a.fdiv b).natAbs * b.natAbs + (a + -(a.fdiv b) * b).natAbs = a.natAbs) := by
  rw [Int.fdiv_eq_ediv_of_nonneg _ (by omega)]
  have h1 := Int.emod_nonneg a (show b ≠ 0 by omega)
  have h2 := Int.emod_lt_of_pos a hb
  have h3 := Int.mul_ediv_add_emod a b
  have e : a + -(a / b) * b = a % b := by grind
  rw [e]
  have m : (a / b).natAbs * b.natAbs = (a / b * b).natAbs := (Int.natAbs_mul _ _).symm
  rw [m]
  have e2 : a / b * b = a - a % b := by grind
  rw [e2]
  refine ⟨by omega, Int.mul_nonneg h1 (by omega), by omega, fun h => ?_⟩
  have ha : 0 ≤ a := by
    rcases Int.lt_or_le a 0 with q | q
    · have := Int.mul_neg_of_neg_of_pos q hb
      omega
    · exact q
  have hle : 0 ≤ a / b * b := Int.mul_nonneg (Int.ediv_nonneg ha (by omega)) (by omega)
  omega
theorem eu {a b : Int} (hb : b ≠ 0) : (a + -(a.fdiv b) * b).natAbs < b.natAbs ∧ 0 ≤ (a + -(a.fdiv b) * b) * b ∧ (a.fdiv b).natAbs * b.natAbs ≤ a.natAbs + (a + -(a.fdiv b) * b).natAbs ∧ (0 ≤ a * b → (a.fdiv b).natAbs * b.natAbs + (a + -(a.fdiv b) * b).natAbs = a.natAbs) := by
  rcases Int.lt_or_gt_of_ne hb with h | h
  · have q := eu_pos (a := -a) (b := -b) (by omega)
    rw [Int.neg_fdiv_neg] at q
    have e : -a + -(a.fdiv b) * -b = -(a + -(a.fdiv b) * b) := by grind
    rw [e, Int.natAbs_neg, Int.natAbs_neg, Int.natAbs_neg, Int.neg_mul_neg, Int.neg_mul_neg] at q
    exact q
  · exact eu_pos h
/-- sizes through the loop: f, s: the numbers at hand, mf, ms: how great the rows may be -/
structure Eu (W A : Nat) (f s : Int) (mf ms : Nat) : Prop where
  ff : f ≠ 0
  fa : f.natAbs ≤ A
  sa : s.natAbs ≤ A
  sg : 0 ≤ f * s ∨ mf * s.natAbs + ms * f.natAbs + 2 * (ms * s.natAbs) ≤ W
  w : mf * s.natAbs + ms * f.natAbs ≤ W
  mf : mf ≤ W
theorem Eu.step {W A : Nat} {f s : Int} {mf ms : Nat} (h : Eu W A f s mf ms) (hs : s ≠ 0) : Eu W A s (f + -(f.fdiv s) * s) ms (mf + (f.fdiv s).natAbs * ms) ∧ (f + -(f.fdiv s) * s).natAbs < s.natAbs ∧ (f.fdiv s).natAbs ≤ 2 * A := by
  obtain ⟨e1, e2, e3, e4⟩ := eu (a := f) hs
  have hf := h.ff
  have hfa := h.fa
  have hsa := h.sa
  have hw := h.w
  have hsg := h.sg
  generalize f + -(f.fdiv s) * s = r at *
  generalize (f.fdiv s).natAbs = q at *
  have s1 : 1 ≤ s.natAbs := by omega
  have f1 : 1 ≤ f.natAbs := by omega
  have hq : q ≤ 2 * A := by
    have : q * 1 ≤ q * s.natAbs := Nat.mul_le_mul_left q s1
    omega
  have mq : (mf + q * ms) * s.natAbs = mf * s.natAbs + ms * (q * s.natAbs) := by grind
  refine ⟨⟨hs, hsa, by omega, .inl (by rw [Int.mul_comm]; exact e2), ?_, ?_⟩, e1, hq⟩
  · rw [mq]
    rcases hsg with g | g
    · have := e4 g
      have e : ms * r.natAbs + (mf * s.natAbs + ms * (q * s.natAbs)) = mf * s.natAbs + ms * (q * s.natAbs + r.natAbs) := by grind
      rw [e, this]; exact hw
    · have h1 : ms * (q * s.natAbs) ≤ ms * (f.natAbs + r.natAbs) := Nat.mul_le_mul_left ms e3
      have h2 : ms * r.natAbs ≤ ms * s.natAbs := Nat.mul_le_mul_left ms (by omega)
      have h3 : ms * (f.natAbs + r.natAbs) = ms * f.natAbs + ms * r.natAbs := Nat.mul_add ..
      omega
  · have : ms * 1 ≤ ms * f.natAbs := Nat.mul_le_mul_left ms f1
    omega
theorem Eu.start {A m : Nat} {f s : Int} (hf : f ≠ 0) (hA : f.natAbs ≤ A) (hB : s.natAbs ≤ A) (ha : 1 ≤ A) : Eu (4 * (m * A)) A f s m m := by
  have h1 : m * s.natAbs ≤ m * A := Nat.mul_le_mul_left m hB
  have h2 : m * f.natAbs ≤ m * A := Nat.mul_le_mul_left m hA
  have h3 : m * 1 ≤ m * A := Nat.mul_le_mul_left m ha
  exact ⟨hf, hA, hB, .inr (by omega), by omega, by omega⟩
/-- behind the loop -/
theorem Eu.ms {W A : Nat} {f s : Int} {mf ms : Nat} (h : Eu W A f s mf ms) : ms ≤ W := by
  have f1 : 1 ≤ f.natAbs := by have := h.ff; omega
  have := h.w
  have h3 : ms * 1 ≤ ms * f.natAbs := Nat.mul_le_mul_left ms f1
  omega
/-! ### forms are told apart by what they tell -/
structure Canon (S : Mv → Prop) (e n : Option Mv) (g : Nat) : Prop where
  gen : ∀ m, S m ↔ ∃ a b, m.x = (led e n a b).x ∧ m.y = (led e n a b).y ∧ (g : Int) ∣ m.s - (led e n a b).s
  eo : ∀ m, e = some m → 0 < m.x ∧ (g ≠ 0 → 0 ≤ m.s ∧ m.s < g)
  no : ∀ m, n = some m → m.x = 0 ∧ 0 < m.y ∧ (g ≠ 0 → 0 ≤ m.s ∧ m.s < g)
  eno : ∀ m k, e = some m → n = some k → 0 ≤ m.y ∧ m.y < k.y
theorem led_x {e n : Option Mv} {a b : Int} : (led e n a b).x = a * (e.getD one).x + b * (n.getD one).x := rfl
theorem led_y {e n : Option Mv} {a b : Int} : (led e n a b).y = a * (e.getD one).y + b * (n.getD one).y := rfl
theorem Canon.n0 {S : Mv → Prop} {e n : Option Mv} {g : Nat} (h : Canon S e n g) : (n.getD one).x = 0 := by
  cases n with
  | none => rfl
  | some k => exact (h.no k rfl).1
theorem led_a0 {e n : Option Mv} {b : Int} : led e n 0 b = pow (n.getD one) b := by
  unfold led; rw [pow_zero, one_mul]
theorem led_10 {e n : Option Mv} : led e n 1 0 = e.getD one := by
  unfold led; rw [pow_one, pow_zero, mul_one]
theorem led_01 {e n : Option Mv} : led e n 0 1 = n.getD one := by
  rw [led_a0, pow_one]
theorem pow_one_ (b : Int) : pow one b = one := by
  refine Mv.ext' ?_ ?_ ?_ <;> simp [pow, one]
theorem Canon.led_in {S : Mv → Prop} {e n : Option Mv} {g : Nat} (h : Canon S e n g) (a b : Int) : S (led e n a b) := (h.gen _).mpr ⟨a, b, rfl, rfl, ⟨0, by simp⟩⟩
/-- moves without steps east -/
theorem Canon.x0 {S : Mv → Prop} {e n : Option Mv} {g : Nat} (h : Canon S e n g) {m : Mv} (hm : S m) (hx : m.x = 0) : ∃ b, m.y = b * (n.getD one).y ∧ (g : Int) ∣ m.s - (pow (n.getD one) b).s := by
  obtain ⟨a, b, h1, h2, h3⟩ := (h.gen m).mp hm
  rw [led_x, h.n0, hx] at h1
  have a0 : led e n a b = led e n 0 b := by
    cases e with
    | none =>
      unfold led
      show mul (pow one a) _ = mul (pow one 0) _
      rw [pow_one_, pow_one_]
    | some k =>
      have k0 := (h.eo k rfl).1
      have : a * k.x = 0 := by simpa using h1.symm
      rcases Int.mul_eq_zero.mp this with q | q
      · rw [q]
      · omega
  rw [a0] at h2 h3
  rw [led_a0] at h2 h3
  exact ⟨b, h2, h3⟩
theorem Canon.z {S : Mv → Prop} {e n : Option Mv} {g : Nat} (h : Canon S e n g) (s : Int) : S ⟨0, 0, s⟩ ↔ (g : Int) ∣ s := by
  constructor
  · intro hm
    obtain ⟨b, h2, h3⟩ := h.x0 hm rfl
    have : pow (n.getD one) b = one := by
      cases n with
      | none => exact pow_one_ b
      | some k =>
        have k0 := (h.no k rfl).2.1
        have : b * k.y = 0 := h2.symm
        rcases Int.mul_eq_zero.mp this with q | q
        · rw [q, pow_zero]
        · omega
    rw [this] at h3
    simpa [one] using h3
  · intro hs
    exact (h.gen _).mpr ⟨0, 0, by rw [led_a0, pow_zero]; rfl, by rw [led_a0, pow_zero]; rfl, by rw [led_a0, pow_zero]; simpa [one] using hs⟩
theorem red_eq {g : Nat} {s t : Int} (hd : (g : Int) ∣ s - t) (hs : g ≠ 0 → 0 ≤ s ∧ s < g) (ht : g ≠ 0 → 0 ≤ t ∧ t < g) : s = t := by
  obtain ⟨k, hk⟩ := hd
  by_cases h : g = 0
  · subst h; simp at hk; omega
  · obtain ⟨s0, s1⟩ := hs h
    obtain ⟨t0, t1⟩ := ht h
    have hk0 : k = 0 := by
      rcases Int.lt_trichotomy k 0 with q | q | q
      · have : (g : Int) * k ≤ (g : Int) * (-1) := Int.mul_le_mul_of_nonneg_left (by omega) (by omega)
        omega
      · exact q
      · have : (g : Int) * 1 ≤ (g : Int) * k := Int.mul_le_mul_of_nonneg_left (by omega) (by omega)
        omega
    subst hk0
    omega
theorem dvd_pos_eq {x y a b : Int} (hx : 0 < x) (hy : 0 < y) (h : x = a * y) (h' : y = b * x) : a = 1 := by
  have ha : 0 < a := by
    rcases Int.lt_or_le 0 a with q | q
    · exact q
    · have := Int.mul_nonpos_of_nonpos_of_nonneg q (Int.le_of_lt hy)
      omega
  have hb : 0 < b := by
    rcases Int.lt_or_le 0 b with q | q
    · exact q
    · have := Int.mul_nonpos_of_nonpos_of_nonneg q (Int.le_of_lt hx)
      omega
  have h1 : 1 * y ≤ a * y := Int.mul_le_mul_of_nonneg_right (by omega) (by omega)
  have h2 : 1 * x ≤ b * x := Int.mul_le_mul_of_nonneg_right (by omega) (by omega)
  have : x = y := by omega
  rw [this] at h
  have h3 : (a - 1) * y = 0 := by grind
  rcases Int.mul_eq_zero.mp h3 with q | q
  · omega
  · omega
theorem Canon.g_eq {S : Mv → Prop} {e n e' n' : Option Mv} {g g' : Nat} (h : Canon S e n g) (h' : Canon S e' n' g') : g = g' := by
  have h1 := (h'.z g).mp ((h.z g).mpr ⟨1, by simp⟩)
  have h2 := (h.z g').mp ((h'.z g').mpr ⟨1, by simp⟩)
  exact Nat.dvd_antisymm (Int.natCast_dvd_natCast.mp h2) (Int.natCast_dvd_natCast.mp h1)
theorem Canon.n_some {S : Mv → Prop} {e n e' n' : Option Mv} {g g' : Nat} (h : Canon S e n g) (h' : Canon S e' n' g') {k : Mv} (hk : n = some k) : ∃ k' b, n' = some k' ∧ k.y = b * k'.y ∧ (g' : Int) ∣ k.s - (pow k' b).s := by
  subst hk
  have sk : S k := by have := h.led_in 0 1; rw [led_01] at this; exact this
  have k0 := h.no k rfl
  obtain ⟨b, h1, h2⟩ := h'.x0 sk k0.1
  cases n' with
  | none => simp [one] at h1; omega
  | some k' => exact ⟨k', b, rfl, h1, h2⟩
theorem Canon.n_eq {S : Mv → Prop} {e n e' n' : Option Mv} {g g' : Nat} (h : Canon S e n g) (h' : Canon S e' n' g') : n = n' := by
  have eg := h.g_eq h'
  subst eg
  cases n with
  | none =>
    cases n' with
    | none => rfl
    | some k' =>
      obtain ⟨k, _, e, _⟩ := h'.n_some h rfl
      cases e
  | some k =>
    obtain ⟨k', b, e1, y1, s1⟩ := h.n_some h' rfl
    subst e1
    obtain ⟨k2, b2, e2, y2, s2⟩ := h'.n_some h rfl
    cases e2
    have p := h.no k rfl
    have p' := h'.no k' rfl
    have b1 := dvd_pos_eq p.2.1 p'.2.1 y1 y2
    subst b1
    rw [pow_one] at s1
    congr 1
    exact Mv.ext' (by rw [p.1, p'.1]) (by simpa using y1) (red_eq s1 p.2.2 p'.2.2)
theorem Canon.e_some {S : Mv → Prop} {e n e' n' : Option Mv} {g g' : Nat} (h : Canon S e n g) (h' : Canon S e' n' g') {m : Mv} (hm : e = some m) : ∃ m' a b, e' = some m' ∧ m.x = a * m'.x ∧ m.y = a * m'.y + b * (n'.getD one).y ∧ (g' : Int) ∣ m.s - (led e' n' a b).s := by
  subst hm
  have sm : S m := by have := h.led_in 1 0; rw [led_10] at this; exact this
  have m0 := (h.eo m rfl).1
  obtain ⟨a, b, h1, h2, h3⟩ := (h'.gen m).mp sm
  rw [led_x, h'.n0] at h1
  cases e' with
  | none => simp [one] at h1; omega
  | some m' => exact ⟨m', a, b, rfl, by simpa using h1, h2, h3⟩
theorem Canon.e_eq {S : Mv → Prop} {e n e' n' : Option Mv} {g g' : Nat} (h : Canon S e n g) (h' : Canon S e' n' g') : e = e' := by
  have eg := h.g_eq h'
  subst eg
  have en := h.n_eq h'
  subst en
  cases e with
  | none =>
    cases e' with
    | none => rfl
    | some k' =>
      obtain ⟨k, _, _, e, _⟩ := h'.e_some h rfl
      cases e
  | some m =>
    obtain ⟨m', a, b, e1, x1, y1, s1⟩ := h.e_some h' rfl
    subst e1
    obtain ⟨m2, a2, b2, e2, x2, y2, s2⟩ := h'.e_some h rfl
    cases e2
    have p := h.eo m rfl
    have p' := h'.eo m' rfl
    have a1 := dvd_pos_eq p.1 p'.1 x1 x2
    subst a1
    have hb : b * (n.getD one).y = 0 ∧ led (some m') n 1 b = m' := by
      cases n with
      | none =>
        refine ⟨by simp [one], ?_⟩
        unfold led
        show mul (pow m' 1) (pow one b) = m'
        rw [pow_one_, pow_one, mul_one]
      | some k =>
        have k0 := (h.no k rfl).2.1
        have q := h.eno m k rfl rfl
        have q' := h'.eno m' k rfl rfl
        have y1 : m.y = 1 * m'.y + b * k.y := y1
        have b0 : b = 0 := by
          rcases Int.lt_trichotomy b 0 with z | z | z
          · have : b * k.y ≤ (-1) * k.y := Int.mul_le_mul_of_nonneg_right (by omega) (by omega)
            omega
          · exact z
          · have : 1 * k.y ≤ b * k.y := Int.mul_le_mul_of_nonneg_right (by omega) (by omega)
            omega
        subst b0
        refine ⟨by simp, ?_⟩
        rw [led_10]
        rfl
    rw [hb.2] at s1
    rw [hb.1] at y1
    congr 1
    exact Mv.ext' (by simpa using x1) (by simpa using y1) (red_eq s1 p.2 p'.2)
theorem Canon.same {S S' : Mv → Prop} {e n e' n' : Option Mv} {g g' : Nat} (h : Canon S e n g) (h' : Canon S' e' n' g') : (e = e' ∧ n = n' ∧ g = g') ↔ ∀ m, S m ↔ S' m := by
  constructor
  · rintro ⟨rfl, rfl, rfl⟩ m
    rw [h.gen, h'.gen]
  · intro hs
    have h2 : Canon S e' n' g' := ⟨fun m => (hs m).trans (h'.gen m), h'.eo, h'.no, h'.eno⟩
    exact ⟨h.e_eq h2, h.n_eq h2, h.g_eq h2⟩
end FM

set_option Elab.async false
set_option linter.all false
set_option maxRecDepth 100000
namespace FM
/-- what a form tells -/
def Told (e n : Option Mv) (g : Nat) (m : Mv) : Prop := ∃ a b, m.x = (led e n a b).x ∧ m.y = (led e n a b).y ∧ (g : Int) ∣ m.s - (led e n a b).s
theorem led_mul {e n : Option Mv} (hn : (n.getD one).x = 0) (a b a' b' : Int) : (mul (led e n a b) (led e n a' b')).s - (led e n (a + a') (b + b')).s = -(a' * b) * ((e.getD one).x * (n.getD one).y) := by
  have ht := tri_add a a'
  simp only [led, mul, pow, hn, ht]
  grind
theorem led_xy_add {e n : Option Mv} (a b a' b' : Int) : (led e n (a + a') (b + b')).x = (led e n a b).x + (led e n a' b').x ∧ (led e n (a + a') (b + b')).y = (led e n a b).y + (led e n a' b').y := by
  simp only [led_x, led_y]
  constructor <;> grind
theorem led_00 {e n : Option Mv} : led e n 0 0 = one := by rw [led_a0, pow_zero]
theorem Told.grp {e n : Option Mv} {g : Nat} (hn : (n.getD one).x = 0) (hg : (g : Int) ∣ (e.getD one).x * (n.getD one).y) : Grp (Told e n g) := by
  refine ⟨⟨0, 0, by rw [led_00], by rw [led_00], by rw [led_00]; simp⟩, ?_, ?_⟩
  · rintro m m' ⟨a, b, h1, h2, h3⟩ ⟨a', b', h1', h2', h3'⟩
    obtain ⟨x1, x2⟩ := led_xy_add (e := e) (n := n) a b a' b'
    refine ⟨a + a', b + b', by rw [x1, ← h1, ← h1']; rfl, by rw [x2, ← h2, ← h2']; rfl, ?_⟩
    have h := led_mul (e := e) hn a b a' b'
    obtain ⟨p, hp⟩ := h3
    obtain ⟨p', hp'⟩ := h3'
    obtain ⟨q, hq⟩ := hg
    rw [hq] at h
    refine ⟨p + p' - (a' * b) * q, ?_⟩
    simp only [mul] at h ⊢
    rw [← h1, ← h2'] at h
    grind
  · rintro m ⟨a, b, h1, h2, h3⟩
    have h := led_mul (e := e) hn a b (-a) (-b)
    rw [show a + -a = 0 by omega, show b + -b = 0 by omega, led_00] at h
    have e1 : (led e n (-a) (-b)).x = -m.x := by rw [h1]; simp only [led_x]; grind
    have e2 : (led e n (-a) (-b)).y = -m.y := by rw [h2]; simp only [led_y]; grind
    refine ⟨-a, -b, by rw [e1]; rfl, by rw [e2]; rfl, ?_⟩
    obtain ⟨p, hp⟩ := h3
    obtain ⟨q, hq⟩ := hg
    rw [hq] at h
    refine ⟨-p - a * b * q, ?_⟩
    simp only [mul, inv, one] at h ⊢
    rw [← h1, e2] at h
    grind
theorem gen_z {ms : List Mv} {x : Int} (h : Gen ms ⟨0, 0, x⟩) (c : Int) : Gen ms ⟨0, 0, c * x⟩ := by
  have := (Gen.grp ms).pow h c
  have e : pow ⟨0, 0, x⟩ c = ⟨0, 0, c * x⟩ := by refine Mv.ext' ?_ ?_ ?_ <;> simp [pow]
  rwa [e] at this
theorem Told.le {ms : List Mv} {e n : Option Mv} {g : Nat} (he : Gen ms (e.getD one)) (hn : Gen ms (n.getD one)) (hg : Gen ms ⟨0, 0, g⟩) {m : Mv} (h : Told e n g m) : Gen ms m := by
  obtain ⟨a, b, h1, h2, q, h3⟩ := h
  have G := Gen.grp ms
  have hl : Gen ms (led e n a b) := G.m _ _ (G.pow he a) (G.pow hn b)
  have := G.m _ _ hl (gen_z hg q)
  have e1 : mul (led e n a b) ⟨0, 0, q * g⟩ = m := by refine Mv.ext' ?_ ?_ ?_ <;> simp only [mul] <;> grind
  rwa [e1] at this
theorem Told.e {e n : Option Mv} {g : Nat} : Told e n g (e.getD one) := ⟨1, 0, by rw [led_10], by rw [led_10], by rw [led_10]; simp⟩
theorem Told.n {e n : Option Mv} {g : Nat} : Told e n g (n.getD one) := ⟨0, 1, by rw [led_01], by rw [led_01], by rw [led_01]; simp⟩
theorem Told.z {e n : Option Mv} {g : Nat} {s : Int} (h : (g : Int) ∣ s) : Told e n g ⟨0, 0, s⟩ := ⟨0, 0, by rw [led_00]; rfl, by rw [led_00]; rfl, by rw [led_00]; simpa [one] using h⟩
/-! ### how great the numbers of a form are -/
def Le3 (B : Nat) (m : Mv) : Prop := m.x.natAbs ≤ B ∧ m.y.natAbs ≤ B ∧ m.s.natAbs ≤ B
theorem all_grp {ms : List Mv} {P : Mv → Prop} (g : Grp P) {m : Mv} (h : Gen ms m) (hn : ¬ P m) : ∃ b ∈ ms, ¬ P b := by
  apply Classical.byContradiction
  intro z
  apply hn
  refine Gen.le g (fun b hb => ?_) h
  apply Classical.byContradiction
  intro z2
  exact z ⟨b, hb, z2⟩
theorem grp_x : Grp fun m => m.x = 0 := ⟨rfl, fun a b h h' => by simp [mul, h, h'], fun a h => by simp [inv, h]⟩
theorem grp_xy : Grp fun m => m.x = 0 ∧ m.y = 0 := ⟨⟨rfl, rfl⟩, fun a b h h' => by simp [mul, h.1, h.2, h'.1, h'.2], fun a h => by simp [inv, h.1, h.2]⟩
theorem grp_one : Grp fun m => m.x = 0 ∧ m.y = 0 ∧ m.s = 0 := ⟨⟨rfl, rfl, rfl⟩, fun a b h h' => by simp [mul, h.1, h.2, h'.1, h'.2], fun a h => by simp [inv, h.1, h.2]⟩
theorem grp_gap (c : Mv) : Grp fun m => gap c m = 0 := ⟨by simp [gap, one], fun a b h h' => by simp only [gap, mul] at *; grind, fun a h => by simp only [gap, inv] at *; grind⟩
theorem abs_mul_le {a x : Int} {B : Nat} (ha : a ≠ 0) (h : (a * x).natAbs ≤ B) : x.natAbs ≤ B := by
  rw [Int.natAbs_mul] at h
  have : 1 ≤ a.natAbs := by omega
  have := Nat.mul_le_mul_right x.natAbs this
  omega
theorem abs_mul_le' {a x : Int} {B : Nat} (hx : x ≠ 0) (h : (a * x).natAbs ≤ B) : a.natAbs ≤ B := by
  rw [Int.mul_comm] at h
  exact abs_mul_le hx h
theorem abs_sub_mul {a b c d : Int} {A C : Nat} (ha : a.natAbs ≤ A) (hb : b.natAbs ≤ C) (hc : c.natAbs ≤ A) (hd : d.natAbs ≤ C) : (a * b - c * d).natAbs ≤ 2 * (A * C) := by
  have h1 : (a * b).natAbs ≤ A * C := by rw [Int.natAbs_mul]; exact Nat.mul_le_mul ha hb
  have h2 : (c * d).natAbs ≤ A * C := by rw [Int.natAbs_mul]; exact Nat.mul_le_mul hc hd
  omega
theorem Canon.ex_le {ms : List Mv} {e n : Option Mv} {g B : Nat} (h : Canon (Gen ms) e n g) (hB : ∀ b ∈ ms, Le3 B b) {m : Mv} (he : e = some m) : m.x.natAbs ≤ B := by
  have hm : Gen ms m := by have := h.led_in 1 0; rw [led_10, he] at this; exact this
  obtain ⟨b, hb, b0⟩ := all_grp grp_x hm (by have := (h.eo m he).1; omega)
  obtain ⟨a, c, h1, _, _⟩ := (h.gen b).mp (Gen.of hb)
  rw [led_x, h.n0, he] at h1
  have h1 : b.x = a * m.x := by simpa using h1
  have a0 : a ≠ 0 := fun z => b0 (by rw [h1, z]; simp)
  exact abs_mul_le a0 (by rw [← h1]; exact (hB b hb).1)
theorem Canon.ny_le {ms : List Mv} {e n : Option Mv} {g B : Nat} (h : Canon (Gen ms) e n g) (hB : ∀ b ∈ ms, Le3 B b) {k : Mv} (hn : n = some k) : k.y.natAbs ≤ 2 * (B * B) + B := by
  have hk : Gen ms k := by have := h.led_in 0 1; rw [led_01, hn] at this; exact this
  have k0 := (h.no k hn).2.1
  have kx := (h.no k hn).1
  by_cases hg : ∃ b ∈ ms, ∃ c ∈ ms, gap b c ≠ 0
  · obtain ⟨b, hb, c, hc, hbc⟩ := hg
    have G := Gen.grp ms
    have hm := G.m _ _ (G.pow (Gen.of hb) c.x) (G.pow (Gen.of hc) (-b.x))
    obtain ⟨j, h2, _⟩ := h.x0 hm (by simp only [mul, pow]; grind)
    rw [hn] at h2
    have h2 : c.x * b.y - b.x * c.y = j * k.y := by simp only [mul, pow, Option.getD_some] at h2; grind
    have j0 : j ≠ 0 := fun z => hbc (by rw [z] at h2; simp only [gap]; grind)
    have := abs_mul_le j0 (B := 2 * (B * B)) (by rw [← h2]; exact abs_sub_mul (hB c hc).1 (hB b hb).2.1 (hB b hb).1 (hB c hc).2.1)
    omega
  · have hz : ∀ b ∈ ms, ∀ c ∈ ms, gap b c = 0 := fun b hb c hc => by
      apply Classical.byContradiction
      intro z
      exact hg ⟨b, hb, c, hc, z⟩
    have hz2 : ∀ b ∈ ms, ∀ m, Gen ms m → gap b m = 0 := fun b hb m hm => Gen.le (grp_gap b) (hz b hb) hm
    cases he : e with
    | none =>
      obtain ⟨b, hb, b0⟩ := all_grp grp_xy hk (by omega)
      obtain ⟨a, c, h1, h2, _⟩ := (h.gen b).mp (Gen.of hb)
      rw [led_x, h.n0, he] at h1
      rw [led_y, he, hn] at h2
      have h1 : b.x = 0 := by simpa [one] using h1
      have h2 : b.y = c * k.y := by simpa [one] using h2
      have c0 : c ≠ 0 := fun z => b0 ⟨h1, by rw [h2, z]; simp⟩
      have := abs_mul_le c0 (by rw [← h2]; exact (hB b hb).2.1)
      omega
    | some m =>
      have hm : Gen ms m := by have := h.led_in 1 0; rw [led_10, he] at this; exact this
      have hm2 : ∀ b ∈ ms, gap k b = 0 := fun b hb => by have := hz2 b hb k hk; simp only [gap] at *; omega
      have : gap k m = 0 := Gen.le (grp_gap k) hm2 hm
      have m0 := (h.eo m he).1
      simp only [gap, kx] at this
      have : m.x * k.y = 0 := by omega
      rcases Int.mul_eq_zero.mp this with q | q <;> omega
/-- what is told along one line -/
structure Line (S : Mv → Prop) (v : Mv) (g : Nat) : Prop where
  vS : S v
  nz : ¬ (v.x = 0 ∧ v.y = 0)
  at_ : ∀ m, S m → ∃ a, m.x = a * v.x ∧ m.y = a * v.y ∧ (g : Int) ∣ m.s - (pow v a).s
  z : S ⟨0, 0, g⟩
  zd : ∀ s, S ⟨0, 0, s⟩ → (g : Int) ∣ s
def lv (m : Mv) : Int := 2 * m.s - m.x * m.y
theorem lv_pow (m : Mv) (k : Int) : lv (pow m k) = k * lv m := by
  have := tri2 k
  simp only [lv, pow]
  grind
theorem lv_mul {m k : Mv} (h : gap m k = 0) : lv (mul m k) = lv m + lv k := by
  simp only [lv, mul, gap] at *
  grind
theorem lv_le {m : Mv} {B : Nat} (h : Le3 B m) : (lv m).natAbs ≤ 2 * B + B * B := by
  have h1 : (m.x * m.y).natAbs ≤ B * B := by rw [Int.natAbs_mul]; exact Nat.mul_le_mul h.1 h.2.1
  have := h.2.2
  unfold lv
  omega
theorem line_k {v m : Mv} {a : Int} {B : Nat} (nz : ¬ (v.x = 0 ∧ v.y = 0)) (h1 : m.x = a * v.x) (h2 : m.y = a * v.y) (h : Le3 B m) : a.natAbs ≤ B := by
  by_cases hx : v.x = 0
  · have hy : v.y ≠ 0 := fun z => nz ⟨hx, z⟩
    exact abs_mul_le' hy (by rw [← h2]; exact h.2.1)
  · exact abs_mul_le' hx (by rw [← h1]; exact h.1)
theorem Line.b0 {ms : List Mv} {v : Mv} {g B : Nat} (h : Line (Gen ms) v g) (hB : ∀ b ∈ ms, Le3 B b) : ∃ b ∈ ms, ∃ a, a ≠ 0 ∧ b.x = a * v.x ∧ b.y = a * v.y ∧ (g : Int) ∣ b.s - (pow v a).s := by
  obtain ⟨b, hb, b0⟩ := all_grp grp_xy h.vS h.nz
  obtain ⟨a, h1, h2, h3⟩ := h.at_ b (Gen.of hb)
  exact ⟨b, hb, a, fun z => b0 ⟨by rw [h1, z]; simp, by rw [h2, z]; simp⟩, h1, h2, h3⟩
theorem Line.xy_le {ms : List Mv} {v : Mv} {g B : Nat} (h : Line (Gen ms) v g) (hB : ∀ b ∈ ms, Le3 B b) : v.x.natAbs ≤ B ∧ v.y.natAbs ≤ B := by
  obtain ⟨b, hb, a, a0, h1, h2, _⟩ := h.b0 hB
  exact ⟨abs_mul_le a0 (by rw [← h1]; exact (hB b hb).1), abs_mul_le a0 (by rw [← h2]; exact (hB b hb).2.1)⟩
theorem line_grp {v : Mv} {a0 l0 : Int} (nz : ¬ (v.x = 0 ∧ v.y = 0)) : Grp fun m => ∃ k, m.x = k * v.x ∧ m.y = k * v.y ∧ a0 * lv m = k * l0 := by
  refine ⟨⟨0, by simp [one], by simp [one], by simp [lv, one]⟩, ?_, ?_⟩
  · rintro m m' ⟨k, h1, h2, h3⟩ ⟨k', h1', h2', h3'⟩
    have hg : gap m m' = 0 := by simp only [gap, h1, h2, h1', h2']; grind
    refine ⟨k + k', by simp only [mul, h1, h1']; grind, by simp only [mul, h2, h2']; grind, ?_⟩
    rw [lv_mul hg]
    grind
  · rintro m ⟨k, h1, h2, h3⟩
    refine ⟨-k, by simp only [inv, h1]; grind, by simp only [inv, h2]; grind, ?_⟩
    have e : lv (inv m) = - lv m := by simp only [lv, inv]; grind
    rw [e]
    grind
theorem Line.g_le {ms : List Mv} {v : Mv} {g B : Nat} (h : Line (Gen ms) v g) (hB : ∀ b ∈ ms, Le3 B b) : g ≤ 2 * (B * (2 * B + B * B)) := by
  obtain ⟨b, hb, a, a0, h1, h2, _⟩ := h.b0 hB
  by_cases hg0 : g = 0
  · omega
  have G := Gen.grp ms
  by_cases hc : ∀ c ∈ ms, ∃ k, c.x = k * v.x ∧ c.y = k * v.y ∧ a * lv c = k * lv b
  · exfalso
    obtain ⟨k, k1, k2, k3⟩ := Gen.le (line_grp h.nz) hc h.z
    have k1 : k * v.x = 0 := k1.symm
    have k2 : k * v.y = 0 := k2.symm
    have k0 : k = 0 := by
      apply Classical.byContradiction
      intro z
      exact h.nz ⟨(Int.mul_eq_zero.mp k1).resolve_left z, (Int.mul_eq_zero.mp k2).resolve_left z⟩
    rw [k0] at k3
    have : a * (2 * (g : Int)) = 0 := by simpa [lv] using k3
    rcases Int.mul_eq_zero.mp this with q | q <;> omega
  · have : ∃ c ∈ ms, ¬ ∃ k, c.x = k * v.x ∧ c.y = k * v.y ∧ a * lv c = k * lv b := by
      apply Classical.byContradiction
      intro z
      apply hc
      intro c hcm
      apply Classical.byContradiction
      intro z2
      exact z ⟨c, hcm, z2⟩
    obtain ⟨c, hcm, hcn⟩ := this
    obtain ⟨k, k1, k2, _⟩ := h.at_ c (Gen.of hcm)
    have hm := G.m _ _ (G.pow (Gen.of hb) k) (G.pow (Gen.of hcm) (-a))
    have hgap : gap (pow b k) (pow c (-a)) = 0 := by simp only [gap, pow, h1, h2, k1, k2]; grind
    have hl : lv (mul (pow b k) (pow c (-a))) = k * lv b - a * lv c := by rw [lv_mul hgap, lv_pow, lv_pow]; grind
    have hx : (mul (pow b k) (pow c (-a))).x = 0 := by simp only [mul, pow, h1, k1]; grind
    have hy : (mul (pow b k) (pow c (-a))).y = 0 := by simp only [mul, pow, h2, k2]; grind
    have he : mul (pow b k) (pow c (-a)) = ⟨0, 0, (mul (pow b k) (pow c (-a))).s⟩ := Mv.ext' hx hy rfl
    rw [he] at hm
    have hd := h.zd _ hm
    unfold lv at hl
    rw [hx] at hl
    have h2s : 2 * (mul (pow b k) (pow c (-a))).s = k * lv b - a * lv c := by unfold lv; omega
    have hne : k * lv b - a * lv c ≠ 0 := fun z => hcn ⟨k, k1, k2, by omega⟩
    have hle := abs_sub_mul (line_k h.nz k1 k2 (hB c hcm)) (lv_le (hB b hb)) (line_k h.nz h1 h2 (hB b hb)) (lv_le (hB c hcm))
    rw [← h2s] at hle hne
    generalize (mul (pow b k) (pow c (-a))).s = t at *
    have t0 : t ≠ 0 := fun z => hne (by rw [z]; simp)
    have := Nat.le_of_dvd (show 0 < t.natAbs by omega) (by have := Int.natAbs_dvd_natAbs.mpr hd; simpa using this : g ∣ t.natAbs)
    omega
theorem Line.s_le {ms : List Mv} {v : Mv} {B : Nat} (h : Line (Gen ms) v 0) (hB : ∀ b ∈ ms, Le3 B b) : v.s.natAbs ≤ 2 * B + 2 * (B * B) := by
  obtain ⟨b, hb, a, a0, h1, h2, h3⟩ := h.b0 hB
  have hs : b.s = (pow v a).s := by
    have := Int.zero_dvd.mp (by simpa using h3)
    omega
  have e : b = pow v a := Mv.ext' h1 h2 hs
  have hl : lv b = a * lv v := by rw [e, lv_pow]
  have := abs_mul_le a0 (by rw [← hl]; exact lv_le (hB b hb))
  obtain ⟨hx, hy⟩ := h.xy_le hB
  have hxy : (v.x * v.y).natAbs ≤ B * B := by rw [Int.natAbs_mul]; exact Nat.mul_le_mul hx hy
  unfold lv at this
  omega
theorem Canon.line_e {S : Mv → Prop} {e n : Option Mv} {g : Nat} (h : Canon S e n g) {m : Mv} (he : e = some m) (hn : n = none) : Line S m g := by
  have h1 : ∀ a b, led e n a b = pow m a := fun a b => by
    rw [he, hn]
    unfold led
    show mul (pow m a) (pow one b) = _
    rw [pow_one_, mul_one]
  refine ⟨by have := h.led_in 1 0; rw [h1, pow_one] at this; exact this, fun z => by have := (h.eo m he).1; omega, fun x hx => ?_, (h.z _).mpr ⟨1, by simp⟩, fun s hs => (h.z s).mp hs⟩
  obtain ⟨a, b, h2, h3, h4⟩ := (h.gen x).mp hx
  rw [h1] at h2 h3 h4
  exact ⟨a, h2, h3, h4⟩
theorem Canon.line_n {S : Mv → Prop} {e n : Option Mv} {g : Nat} (h : Canon S e n g) {m : Mv} (he : e = none) (hn : n = some m) : Line S m g := by
  have h1 : ∀ a b, led e n a b = pow m b := fun a b => by
    rw [he, hn]
    unfold led
    show mul (pow one a) (pow m b) = _
    rw [pow_one_, one_mul]
  refine ⟨by have := h.led_in 0 1; rw [h1, pow_one] at this; exact this, fun z => by have := (h.no m hn).2.1; omega, fun x hx => ?_, (h.z _).mpr ⟨1, by simp⟩, fun s hs => (h.z s).mp hs⟩
  obtain ⟨a, b, h2, h3, h4⟩ := (h.gen x).mp hx
  rw [h1] at h2 h3 h4
  exact ⟨b, h2, h3, h4⟩
theorem Canon.gap_dvd {S : Mv → Prop} {e n : Option Mv} {g : Nat} (h : Canon S e n g) (G : Grp S) {m k : Mv} (he : e = some m) (hn : n = some k) : (g : Int) ∣ m.x * k.y := by
  have hm : S m := by have := h.led_in 1 0; rw [led_10, he] at this; exact this
  have hk : S k := by have := h.led_in 0 1; rw [led_01, hn] at this; exact this
  have kx := (h.no k hn).1
  have := G.m _ _ (G.m _ _ hm hk) (G.m _ _ (G.i _ hm) (G.i _ hk))
  have e1 : mul (mul m k) (mul (inv m) (inv k)) = ⟨0, 0, m.x * k.y⟩ := by refine Mv.ext' ?_ ?_ ?_ <;> simp only [mul, inv, kx] <;> grind
  rw [e1] at this
  exact (h.z _).mp this
theorem pow_le {B : Nat} (h1 : 1 ≤ B) : B ≤ B * B ∧ B * B ≤ B * (B * B) ∧ 1 ≤ B * B ∧ 1 ≤ B * (B * B) := by
  have a1 := Nat.mul_le_mul_left B h1
  have a2 := Nat.mul_le_mul_left (B * B) h1
  have e1 : B * B * B = B * (B * B) := Nat.mul_assoc ..
  omega
/-- the numbers of a form of buttons of at most B -/
theorem Canon.size {ms : List Mv} {e n : Option Mv} {g B : Nat} (h : Canon (Gen ms) e n g) (h1 : 1 ≤ B) (hB : ∀ b ∈ ms, Le3 B b) :
    (∀ m, e = some m → Le3 (10 * (B * (B * B))) m) ∧ (∀ k, n = some k → Le3 (10 * (B * (B * B))) k) ∧ g ≤ 10 * (B * (B * B)) := by
  obtain ⟨p1, p2, p3, p4⟩ := pow_le h1
  have e1 : B * (2 * B + B * B) = 2 * (B * B) + B * (B * B) := by rw [Nat.mul_add]; congr 1; rw [Nat.mul_left_comm]
  have hg : g ≤ 10 * (B * (B * B)) := by
    cases he : e with
    | none =>
      cases hn : n with
      | none =>
        by_cases g0 : g = 0
        · omega
        · have hz : Gen ms ⟨0, 0, g⟩ := (h.z _).mpr ⟨1, by simp⟩
          obtain ⟨b, hb, b0⟩ := all_grp grp_one hz (by simp; omega)
          obtain ⟨a, c, h2, h3, h4⟩ := (h.gen b).mp (Gen.of hb)
          have : led e n a c = one := by rw [he, hn]; unfold led; show mul (pow one a) (pow one c) = one; rw [pow_one_, pow_one_, one_mul]
          rw [this] at h2 h3 h4
          have s0 : b.s ≠ 0 := fun z => b0 ⟨h2, h3, z⟩
          have hd : g ∣ b.s.natAbs := by
            have h5 : (g : Int) ∣ b.s := by simpa [one] using h4
            have := Int.natAbs_dvd_natAbs.mpr h5
            simpa using this
          have := Nat.le_of_dvd (by omega) hd
          have := (hB b hb).2.2
          omega
      | some k =>
        have := (h.line_n he hn).g_le hB
        rw [e1] at this
        omega
    | some m =>
      cases hn : n with
      | none =>
        have := (h.line_e he hn).g_le hB
        rw [e1] at this
        omega
      | some k =>
        have hd := h.gap_dvd (Gen.grp ms) he hn
        have m0 := (h.eo m he).1
        have k0 := (h.no k hn).2.1
        have hpos : 0 < m.x * k.y := Int.mul_pos m0 k0
        have hd2 : g ∣ (m.x * k.y).natAbs := by
          have := Int.natAbs_dvd_natAbs.mpr hd
          simpa using this
        have h5 := Nat.le_of_dvd (by omega) hd2
        rw [Int.natAbs_mul] at h5
        have h6 := Nat.mul_le_mul (h.ex_le hB he) (h.ny_le hB hn)
        have e2 : B * (2 * (B * B) + B) = 2 * (B * (B * B)) + B * B := by rw [Nat.mul_add, Nat.mul_left_comm]
        omega
  refine ⟨fun m he => ?_, fun k hn => ?_, hg⟩
  · have hx := h.ex_le hB he
    cases hn : n with
    | none =>
      have L := h.line_e he hn
      obtain ⟨_, hy⟩ := L.xy_le hB
      refine ⟨by omega, by omega, ?_⟩
      by_cases g0 : g = 0
      · rw [g0] at L
        have := L.s_le hB
        omega
      · have := (h.eo m he).2 g0
        omega
    | some k =>
      have hk := h.ny_le hB hn
      have hy := h.eno m k he hn
      refine ⟨by omega, by omega, ?_⟩
      by_cases g0 : g = 0
      · exfalso
        have hd := h.gap_dvd (Gen.grp ms) he hn
        rw [g0] at hd
        have hd : m.x * k.y = 0 := Int.zero_dvd.mp (by simpa using hd)
        have m0 := (h.eo m he).1
        have k0 := (h.no k hn).2.1
        have hpos : 0 < m.x * k.y := Int.mul_pos m0 k0
        omega
      · have := (h.eo m he).2 g0
        omega
  · have hk := h.ny_le hB hn
    have hx := (h.no k hn).1
    refine ⟨by omega, by omega, ?_⟩
    by_cases g0 : g = 0
    · cases he : e with
      | none =>
        have L := h.line_n he hn
        rw [g0] at L
        have := L.s_le hB
        omega
      | some m =>
        exfalso
        have hd := h.gap_dvd (Gen.grp ms) he hn
        rw [g0] at hd
        have hd : m.x * k.y = 0 := Int.zero_dvd.mp (by simpa using hd)
        have m0 := (h.eo m he).1
        have k0 := (h.no k hn).2.1
        have hpos : 0 < m.x * k.y := Int.mul_pos m0 k0
        omega
    · have := (h.no k hn).2.2 g0
      omega
theorem Told.shift {e n : Option Mv} {g : Nat} {m m' : Mv} (h : Told e n g m) (hx : m'.x = m.x) (hy : m'.y = m.y) (hs : (g : Int) ∣ m'.s - m.s) : Told e n g m' := by
  obtain ⟨a, b, h1, h2, p, h3⟩ := h
  obtain ⟨q, hq⟩ := hs
  exact ⟨a, b, by rw [hx, h1], by rw [hy, h2], p + q, by grind⟩
end FM

set_option Elab.async false
set_option linter.all false
set_option maxRecDepth 100000
namespace FM
/-! FM3: moves moved by a move -/
def cj (u v : Int) (m : Mv) : Mv := ⟨m.x, m.y, m.s + u * m.y - v * m.x⟩
theorem cj_cj (u v : Int) (m : Mv) : cj u v (cj (-u) (-v) m) = m := by refine Mv.ext' ?_ ?_ ?_ <;> simp only [cj] <;> grind
def Cj (ms ks : List Mv) (u v : Int) : Prop := ∀ m, Gen ms m ↔ Gen ks (cj u v m)
theorem Cj.symm {ms ks : List Mv} {u v : Int} (h : Cj ms ks u v) : Cj ks ms (-u) (-v) := by
  intro m
  have := h (cj (-u) (-v) m)
  rw [cj_cj] at this
  exact this.symm
/-! ### which multiples keep a row -/
def turn (g y : Nat) : Nat := if g = 0 then 0 else g / Nat.gcd g y
end FM

set_option Elab.async false
set_option linter.all false
set_option maxRecDepth 100000
set_option maxHeartbeats 400000
/-! FT: texts of ints, read back -/
namespace FT
open PySem PySem.Spec PyProof.Rows L2 Ar TL
def iT (n : Int) : Str := Str.ofString (toString n)
def iL (n : Int) : List Nat := if n < 0 then 45 :: numL n.natAbs else numL n.natAbs
theorem tl_iT (n : Int) : tl (iT n) = iL n := by
  unfold iL
  cases n with
  | ofNat m => rw [if_neg (by simp)]; exact tl_num m
  | negSucc m =>
    rw [if_pos (by omega)]
    have e : toString (Int.negSucc m) = "-" ++ toString (m + 1) := rfl
    unfold iT
    rw [e]
    show tl (Str.ofString ("-" ++ toString (m + 1))) = 45 :: numL (m + 1)
    have h2 : toString (m + 1) = toString (((m + 1 : Nat)) : Int) := rfl
    rw [h2, ← tl_num (m + 1)]
    unfold tl
    rw [Str.ofString_eq_toList, Str.ofString_eq_toList]
    simp
theorem iL_free {n : Int} {s : Nat} (h : s < 45 ∨ 57 < s) : s ∉ iL n := by
  unfold iL
  have := numL_free (n := n.natAbs) (s := s) (by omega)
  split
  · simp only [List.mem_cons, not_or]; exact ⟨by omega, this⟩
  · exact this
theorem int_iT {n : Int} (h : (iL n).length ≤ 640) : intText? (iT n) = some n := by
  have e := tl_iT n
  have hl : (iT n).length ≤ 640 := by rw [len_tl, e]; exact h
  unfold iL at e
  by_cases h0 : n < 0
  · rw [if_pos h0] at e
    rw [intText_neg e (numL_digits _) (numL_ne _) (by omega), numL_val]
    congr 1; omega
  · rw [if_neg h0] at e
    have := intText_digits (x := iT n) (by show NumText.AllDigits (tl (iT n)); rw [e]; exact numL_digits _) (by show tl (iT n) ≠ []; rw [e]; exact numL_ne _) (by omega)
    rw [this]
    show some ((NumText.digitsVal (tl (iT n)) : Nat) : Int) = some n
    rw [e, numL_val]
    congr 1; omega
/-! ### rules -/
theorem o_slc_str {μ : Mu} {z : Str} {lo hi : Option Int} {P : D → Prop} : OkO (fSl μ (.str z) lo hi) P = (z.length ≤ 1000000 ∧ P (.str (cutS z lo hi))) := by
  unfold fSl
  by_cases h : z.length ≤ 1000000
  · simp [h, OkO]
  · simp [h, OkO]
theorem o_eq_ss {μ : Mu} {x y : Str} {P : D → Prop} : OkO (fEq μ (.str x) (.str y)) P = P (.bl (x == y)) := rfl
theorem o_int_s {μ : Mu} {z : Str} {n : Int} {P : D → Prop} (h : intText? z = some n) (hl : z.length ≤ 640) : OkO (fInt μ [.str z]) P = P (.int n) := by
  unfold fInt
  simp [hl, h, OkO]
theorem tl_cut_to {z : Str} {k : Nat} : tl (cutS z none (some (k : Int))) = (tl z).take k := by
  unfold cutS
  rw [HT.sIx_none, HT.sIx_nat, List.drop_zero, Nat.sub_zero]
  show (tl z).take (min k z.length) = (tl z).take k
  rw [len_tl]
  by_cases h : k ≤ (tl z).length
  · rw [Nat.min_eq_left h]
  · rw [Nat.min_eq_right (by omega), List.take_length, List.take_of_length_le (by omega)]
theorem tl_cut_from {z : Str} {k : Nat} : tl (cutS z (some (k : Int)) none) = (tl z).drop k := by
  unfold cutS
  rw [HT.sIx_none, HT.sIx_nat]
  show ((tl z).drop (min k z.length)).take (z.length - min k z.length) = (tl z).drop k
  rw [len_tl]
  by_cases h : k ≤ (tl z).length
  · rw [Nat.min_eq_left h, List.take_of_length_le (by rw [List.length_drop]; omega)]
  · rw [Nat.min_eq_right (by omega), List.drop_length, List.drop_of_length_le (by omega)]
    simp
theorem str_eq {x y : Str} : (x == y) = decide (tl x = tl y) := by
  rw [Bool.eq_iff_iff, beq_iff_eq, decide_eq_true_iff]
  exact ⟨fun h => by rw [h], fun h => ext_tl h⟩
end FT

set_option Elab.async false
set_option linter.all false
set_option maxRecDepth 100000
set_option maxHeartbeats 0
namespace A46
open PySem PySem.Spec PyProof.Rows L2 Ar
section
abbrev top (i : Nat) : Stmt := PySem.Challenge.pw_arealots_k46_things_of_any_kind_judged.main.body.getD i (.Pass ⟨0, 0, 0, 0⟩)
abbrev s__law_well : Stmt := top 53
abbrev s_written_integer : Stmt := top 12
abbrev s_text_move : Stmt := top 22
abbrev s_is_integer : Stmt := top 10
abbrev s_is_move : Stmt := top 16
abbrev s_is_button : Stmt := top 25
abbrev s_wrong_button : Stmt := top 26
abbrev s_text_lot : Stmt := top 29
abbrev s_then_move : Stmt := top 17
abbrev s_often_move : Stmt := top 19
abbrev s_Lot__len : Stmt := (clsAt (top 27) 6)
abbrev s_plan_move : Stmt := top 36
abbrev s_part_move : Stmt := top 35
abbrev s_shows_made : Stmt := top 44
abbrev s_rest_of : Stmt := top 13
abbrev s_shares_of : Stmt := top 31
abbrev s_led_to : Stmt := top 32
abbrev s_tells : Stmt := top 33
abbrev s_is_count : Stmt := top 11
abbrev s_is_within : Stmt := top 39
abbrev s_is_east : Stmt := top 40
abbrev s_is_none : Stmt := top 41
abbrev s_is_north : Stmt := top 42
abbrev s_is_form : Stmt := top 43
abbrev s_shows_missed : Stmt := top 45
abbrev s_shows_all : Stmt := top 46
abbrev s_shows_same : Stmt := top 47
abbrev s_undone_move : Stmt := top 18
abbrev s_around_move : Stmt := top 20
abbrev s_shows_moved : Stmt := top 48
abbrev s_shows_of_lots : Stmt := top 49
abbrev s_shows_of_moves : Stmt := top 50
abbrev s_accepts : Stmt := top 51
abbrev s__law_draw : Stmt := top 54
abbrev s__law_pick : Stmt := top 55
abbrev s__law_great : Stmt := top 56
abbrev s__law_good : Stmt := top 57
abbrev s__law_odd : Stmt := top 58
abbrev s__law_put : Stmt := top 59
abbrev s__law_wrong : Stmt := top 60
abbrev s__law_right : Stmt := top 61
abbrev s_law : Stmt := top 62
abbrev i_Lot : Stmt := clsAt (top 27) 1
@[irreducible] def m__law_well : Fn := dDef 2 5 (dSeq (dSet 2 (dBin fAdd (dC (.int 51043)) (dBin fMul (dC (.int 1009)) (dVar 1)))) (dSeq (dFor (diSeq (dBin fAdd (dSl (dVar 0) (dNoPart) (dPart (dC (.int 4)))) (dSl (dVar 0) (dPart (dVar 1)) (dPart (dBin fAdd (dVar 1) (dC (.int 1))))))) (dgName 3) (dSet 2 (dBin fModI (dFn fInt (daCons (dBin fAdd (dBin fAdd (dBin fMul (dVar 2) (dC (.int 36013))) (dVar 3)) (dC (.int 59))) (daNil))) (dC (.int 2147483579))))) (dSeq (dSet 4 (dIf (dTest (dBin fLt (dVar 1) (dFn fLen (daCons (dVar 0) (daNil))))) (dBin fIx (dVar 0) (dVar 1)) (dC (.int 0)))) (dRet (dLstM (daCons (dVar 2) (daCons (dC (.int 0)) (daCons (dIf (dTest (dBin fGe (dFn fAbs (daCons (dVar 4) (daNil))) (dBin fPowI (dC (.int 10)) (dC (.int 18))))) (dFn fAbs (daCons (dVar 4) (daNil))) (dC (.int 0))) (daNil)))))))))
@[irreducible] def m_written_integer : Fn := dDef 1 3 (dSeq (dSet 1 (dIf (dTest (dBin fEq (dSl (dVar 0) (dNoPart) (dPart (dC (.int 1)))) (dC (.str "-")))) (dSl (dVar 0) (dPart (dC (.int 1))) (dNoPart)) (dVar 0))) (dSeq (dIfS (dOr (dTest (dBin fEq (dVar 1) (dC (.str "")))) (dOr (dTest (dBin fGt (dFn fLen (daCons (dVar 1) (daNil))) (dC (.int 4000)))) (dNot (dTru (dFn fAll (daCons (dLcF finL [2] (diSeq (dVar 1)) (dgName 2) (dYes) (dBin (fIn false) (dVar 2) (dC (.str "0123456789")))) (daNil))))))) (dRet (dC .non)) (dsNext)) (dRet (dIf (dTest (dBin fEq (dFn fStr2 (daCons (dFn fInt (daCons (dVar 0) (daNil))) (daNil))) (dVar 0))) (dFn fInt (daCons (dVar 0) (daNil))) (dC .non)))))
@[irreducible] def m_text_move : Fn := dDef 1 4 (dSeq (dSet 1 (dIf (dTru (dFn fIsa (daCons (dVar 0) (daCons (dC (.ty "str")) (daNil))))) (dStrM fSplit (dVar 0) (dC (.str " "))) (dLst (daNil)))) (dSeq (dSet 2 (dFn fTuple (daCons (dLcF finL [3] (diSeq (dVar 1)) (dgName 3) (dYes) (dCall m_written_integer (daCons (dVar 3) (daNil)))) (daNil)))) (dRet (dIf (dAnd (dTest (dBin fEq (dFn fLen (daCons (dVar 2) (daNil))) (dC (.int 3)))) (dTest (dBin (fIn true) (dC .non) (dVar 2)))) (dVar 2) (dC .non)))))
@[irreducible] def m_is_integer : Fn := dDef 1 1 (dRet (dAndV (dFn fIsa (daCons (dVar 0) (daCons (dC (.ty "int")) (daNil)))) (dNotV (dFn fIsa (daCons (dVar 0) (daCons (dC (.ty "bool")) (daNil)))))))
@[irreducible] def m_is_move : Fn := dDef 1 2 (dRet (dAndV (dFn fIsa (daCons (dVar 0) (daCons (dC (.ty "tuple")) (daNil)))) (dAndV (dBin fEq (dFn fLen (daCons (dVar 0) (daNil))) (dC (.int 3))) (dFn fAll (daCons (dLcF finL [1] (diSeq (dVar 0)) (dgName 1) (dYes) (dCall m_is_integer (daCons (dVar 1) (daNil)))) (daNil))))))
@[irreducible] def m_is_button : Fn := dDef 1 2 (dRet (dAndV (dCall m_is_move (daCons (dVar 0) (daNil))) (dFn fAll (daCons (dLcF finL [1] (diSeq (dVar 0)) (dgName 1) (dYes) (dBin fLe (dFn fAbs (daCons (dVar 1) (daNil))) (dC (.int 1000000000000000000000000000000)))) (daNil)))))
@[irreducible] def m_wrong_button : Fn := dDef 1 3 (dSeq (dIfS (dOr (dNot (dTru (dFn fIsa (daCons (dVar 0) (daCons (dC (.ty "tuple")) (daNil)))))) (dTest (dBin fEq (dFn fLen (daCons (dVar 0) (daNil))) (dC (.int 0))))) (dRet (dUn fNeg (dC (.int 1)))) (dsNext)) (dSeq (dFor (diEnum (daCons (dVar 0) (daNil))) (dgTup 2 (dgCons (dgName 1) (dgCons (dgName 2) (dgNil)))) (dIfS (dOr (dTest (dBin fEq (dVar 1) (dC (.int 5)))) (dNot (dTru (dCall m_is_button (daCons (dVar 2) (daNil)))))) (dRet (dVar 1)) (dsNext))) (dRet (dC .non))))
@[irreducible] def m_text_lot : Fn := dDef 1 4 (dSeq (dSet 1 (dIf (dTru (dFn fIsa (daCons (dVar 0) (daCons (dC (.ty "str")) (daNil))))) (dStrM fSplit (dVar 0) (dC (.str "\n"))) (dLst (daNil)))) (dSeq (dIfS (dNot (dTru (dFn fAll (daCons (dLcF finL [3] (diSeq (dVar 1)) (dgName 3) (dYes) (dBin fEq (dSl (dVar 3) (dNoPart) (dPart (dFn fLen (daCons (dC (.str "button ")) (daNil))))) (dC (.str "button ")))) (daNil))))) (dRet (dC .non)) (dsNext)) (dSeq (dSet 2 (dFn fTuple (daCons (dLcF finL [3] (diSeq (dVar 1)) (dgName 3) (dYes) (dCall m_text_move (daCons (dSl (dVar 3) (dPart (dFn fLen (daCons (dC (.str "button ")) (daNil)))) (dNoPart)) (daNil)))) (daNil)))) (dRet (dIf (dTest (dBin (fIs false) (dCall m_wrong_button (daCons (dVar 2) (daNil))) (dC .non))) (dMakeS "Lot" m_wrong_button (daCons (dVar 2) (daNil))) (dC .non))))))
@[irreducible] def m_then_move : Fn := dDef 2 2 (dRet (dTup (daCons (dBin fAdd (dBin fIx (dVar 0) (dC (.int 0))) (dBin fIx (dVar 1) (dC (.int 0)))) (daCons (dBin fAdd (dBin fIx (dVar 0) (dC (.int 1))) (dBin fIx (dVar 1) (dC (.int 1)))) (daCons (dBin fAdd (dBin fAdd (dBin fIx (dVar 0) (dC (.int 2))) (dBin fIx (dVar 1) (dC (.int 2)))) (dBin fMul (dBin fIx (dVar 0) (dC (.int 0))) (dBin fIx (dVar 1) (dC (.int 1))))) (daNil))))))
@[irreducible] def m_often_move : Fn := dDef 2 5 (dSeq (dAsg (dVar 0) (dgTup 3 (dgCons (dgName 2) (dgCons (dgName 3) (dgCons (dgName 4) (dgNil)))))) (dRet (dTup (daCons (dBin fMul (dVar 1) (dVar 2)) (daCons (dBin fMul (dVar 1) (dVar 3)) (daCons (dBin fAdd (dBin fMul (dVar 1) (dVar 4)) (dBin fMul (dBin fMul (dBin fDivI (dBin fMul (dVar 1) (dBin fSubI (dVar 1) (dC (.int 1)))) (dC (.int 2))) (dVar 2)) (dVar 3))) (daNil)))))))
@[irreducible] def m_Lot__len : Fn := dDef 1 1 (dRet (dFn fLen (daCons (dSlt "Lot" 0 (dVar 0)) (daNil))))
@[irreducible] def m_plan_move__0 : Fn := dDef 3 6 (dSeq (dNever) (dSeq (dNever) (dSeq (dNever) (dNever))))
@[irreducible] def m_part_move__1 : Fn := dDef 3 3 (dSeq (dIfS (dTru (dFn fIsa (daCons (dVar 1) (daCons (dC (.ty "tuple")) (daNil))))) (dRet (dCall m_plan_move__0 (daCons (dVar 0) (daCons (dVar 1) (daCons (dBin fSubI (dVar 2) (dC (.int 1))) (daNil)))))) (dsNext)) (dSeq (dIfS (dOr (dNot (dTru (dCall m_is_integer (daCons (dVar 1) (daNil))))) (dNot (dTest (dCmp2 fLe fLt (dC (.int 0)) (dVar 1) (dLenO "Lot" m_Lot__len (dVar 0)))))) (dRet (dC .non)) (dsNext)) (dRet (dBin fIx (dSlt "Lot" 0 (dVar 0)) (dVar 1)))))
@[irreducible] def m_plan_move__2 : Fn := dDef 3 6 (dSeq (dIfS (dOr (dNot (dTru (dFn fIsa (daCons (dVar 1) (daCons (dC (.ty "tuple")) (daNil)))))) (dTest (dBin fEq (dVar 2) (dC (.int 0))))) (dRet (dC .non)) (dsNext)) (dSeq (dSet 3 (dC (.tup [.int 0, .int 0, .int 0]))) (dSeq (dFor (diSeq (dVar 1)) (dgName 4) (dSeq (dIfS (dOr (dNot (dTru (dFn fIsa (daCons (dVar 4) (daCons (dC (.ty "tuple")) (daNil)))))) (dOr (dTest (dBin fNe (dFn fLen (daCons (dVar 4) (daNil))) (dC (.int 2)))) (dOr (dNot (dTru (dCall m_is_integer (daCons (dBin fIx (dVar 4) (dC (.int 1))) (daNil))))) (dTest (dBin fEq (dBin fIx (dVar 4) (dC (.int 1))) (dC (.int 0))))))) (dRet (dC .non)) (dsNext)) (dSeq (dSet 5 (dCall m_part_move__1 (daCons (dVar 0) (daCons (dBin fIx (dVar 4) (dC (.int 0))) (daCons (dVar 2) (daNil)))))) (dSeq (dIfS (dTest (dBin (fIs false) (dVar 5) (dC .non))) (dRet (dC .non)) (dsNext)) (dSet 3 (dCall m_then_move (daCons (dVar 3) (daCons (dCall m_often_move (daCons (dVar 5) (daCons (dBin fIx (dVar 4) (dC (.int 1))) (daNil)))) (daNil))))))))) (dRet (dVar 3)))))
@[irreducible] def m_part_move__3 : Fn := dDef 3 3 (dSeq (dIfS (dTru (dFn fIsa (daCons (dVar 1) (daCons (dC (.ty "tuple")) (daNil))))) (dRet (dCall m_plan_move__2 (daCons (dVar 0) (daCons (dVar 1) (daCons (dBin fSubI (dVar 2) (dC (.int 1))) (daNil)))))) (dsNext)) (dSeq (dIfS (dOr (dNot (dTru (dCall m_is_integer (daCons (dVar 1) (daNil))))) (dNot (dTest (dCmp2 fLe fLt (dC (.int 0)) (dVar 1) (dLenO "Lot" m_Lot__len (dVar 0)))))) (dRet (dC .non)) (dsNext)) (dRet (dBin fIx (dSlt "Lot" 0 (dVar 0)) (dVar 1)))))
@[irreducible] def m_plan_move__4 : Fn := dDef 3 6 (dSeq (dIfS (dOr (dNot (dTru (dFn fIsa (daCons (dVar 1) (daCons (dC (.ty "tuple")) (daNil)))))) (dTest (dBin fEq (dVar 2) (dC (.int 0))))) (dRet (dC .non)) (dsNext)) (dSeq (dSet 3 (dC (.tup [.int 0, .int 0, .int 0]))) (dSeq (dFor (diSeq (dVar 1)) (dgName 4) (dSeq (dIfS (dOr (dNot (dTru (dFn fIsa (daCons (dVar 4) (daCons (dC (.ty "tuple")) (daNil)))))) (dOr (dTest (dBin fNe (dFn fLen (daCons (dVar 4) (daNil))) (dC (.int 2)))) (dOr (dNot (dTru (dCall m_is_integer (daCons (dBin fIx (dVar 4) (dC (.int 1))) (daNil))))) (dTest (dBin fEq (dBin fIx (dVar 4) (dC (.int 1))) (dC (.int 0))))))) (dRet (dC .non)) (dsNext)) (dSeq (dSet 5 (dCall m_part_move__3 (daCons (dVar 0) (daCons (dBin fIx (dVar 4) (dC (.int 0))) (daCons (dVar 2) (daNil)))))) (dSeq (dIfS (dTest (dBin (fIs false) (dVar 5) (dC .non))) (dRet (dC .non)) (dsNext)) (dSet 3 (dCall m_then_move (daCons (dVar 3) (daCons (dCall m_often_move (daCons (dVar 5) (daCons (dBin fIx (dVar 4) (dC (.int 1))) (daNil)))) (daNil))))))))) (dRet (dVar 3)))))
@[irreducible] def m_part_move__5 : Fn := dDef 3 3 (dSeq (dIfS (dTru (dFn fIsa (daCons (dVar 1) (daCons (dC (.ty "tuple")) (daNil))))) (dRet (dCall m_plan_move__4 (daCons (dVar 0) (daCons (dVar 1) (daCons (dBin fSubI (dVar 2) (dC (.int 1))) (daNil)))))) (dsNext)) (dSeq (dIfS (dOr (dNot (dTru (dCall m_is_integer (daCons (dVar 1) (daNil))))) (dNot (dTest (dCmp2 fLe fLt (dC (.int 0)) (dVar 1) (dLenO "Lot" m_Lot__len (dVar 0)))))) (dRet (dC .non)) (dsNext)) (dRet (dBin fIx (dSlt "Lot" 0 (dVar 0)) (dVar 1)))))
@[irreducible] def m_plan_move__6 : Fn := dDef 3 6 (dSeq (dIfS (dOr (dNot (dTru (dFn fIsa (daCons (dVar 1) (daCons (dC (.ty "tuple")) (daNil)))))) (dTest (dBin fEq (dVar 2) (dC (.int 0))))) (dRet (dC .non)) (dsNext)) (dSeq (dSet 3 (dC (.tup [.int 0, .int 0, .int 0]))) (dSeq (dFor (diSeq (dVar 1)) (dgName 4) (dSeq (dIfS (dOr (dNot (dTru (dFn fIsa (daCons (dVar 4) (daCons (dC (.ty "tuple")) (daNil)))))) (dOr (dTest (dBin fNe (dFn fLen (daCons (dVar 4) (daNil))) (dC (.int 2)))) (dOr (dNot (dTru (dCall m_is_integer (daCons (dBin fIx (dVar 4) (dC (.int 1))) (daNil))))) (dTest (dBin fEq (dBin fIx (dVar 4) (dC (.int 1))) (dC (.int 0))))))) (dRet (dC .non)) (dsNext)) (dSeq (dSet 5 (dCall m_part_move__5 (daCons (dVar 0) (daCons (dBin fIx (dVar 4) (dC (.int 0))) (daCons (dVar 2) (daNil)))))) (dSeq (dIfS (dTest (dBin (fIs false) (dVar 5) (dC .non))) (dRet (dC .non)) (dsNext)) (dSet 3 (dCall m_then_move (daCons (dVar 3) (daCons (dCall m_often_move (daCons (dVar 5) (daCons (dBin fIx (dVar 4) (dC (.int 1))) (daNil)))) (daNil))))))))) (dRet (dVar 3)))))
@[irreducible] def m_part_move__7 : Fn := dDef 3 3 (dSeq (dIfS (dTru (dFn fIsa (daCons (dVar 1) (daCons (dC (.ty "tuple")) (daNil))))) (dRet (dCall m_plan_move__6 (daCons (dVar 0) (daCons (dVar 1) (daCons (dBin fSubI (dVar 2) (dC (.int 1))) (daNil)))))) (dsNext)) (dSeq (dIfS (dOr (dNot (dTru (dCall m_is_integer (daCons (dVar 1) (daNil))))) (dNot (dTest (dCmp2 fLe fLt (dC (.int 0)) (dVar 1) (dLenO "Lot" m_Lot__len (dVar 0)))))) (dRet (dC .non)) (dsNext)) (dRet (dBin fIx (dSlt "Lot" 0 (dVar 0)) (dVar 1)))))
@[irreducible] def m_plan_move__8 : Fn := dDef 3 6 (dSeq (dIfS (dOr (dNot (dTru (dFn fIsa (daCons (dVar 1) (daCons (dC (.ty "tuple")) (daNil)))))) (dTest (dBin fEq (dVar 2) (dC (.int 0))))) (dRet (dC .non)) (dsNext)) (dSeq (dSet 3 (dC (.tup [.int 0, .int 0, .int 0]))) (dSeq (dFor (diSeq (dVar 1)) (dgName 4) (dSeq (dIfS (dOr (dNot (dTru (dFn fIsa (daCons (dVar 4) (daCons (dC (.ty "tuple")) (daNil)))))) (dOr (dTest (dBin fNe (dFn fLen (daCons (dVar 4) (daNil))) (dC (.int 2)))) (dOr (dNot (dTru (dCall m_is_integer (daCons (dBin fIx (dVar 4) (dC (.int 1))) (daNil))))) (dTest (dBin fEq (dBin fIx (dVar 4) (dC (.int 1))) (dC (.int 0))))))) (dRet (dC .non)) (dsNext)) (dSeq (dSet 5 (dCall m_part_move__7 (daCons (dVar 0) (daCons (dBin fIx (dVar 4) (dC (.int 0))) (daCons (dVar 2) (daNil)))))) (dSeq (dIfS (dTest (dBin (fIs false) (dVar 5) (dC .non))) (dRet (dC .non)) (dsNext)) (dSet 3 (dCall m_then_move (daCons (dVar 3) (daCons (dCall m_often_move (daCons (dVar 5) (daCons (dBin fIx (dVar 4) (dC (.int 1))) (daNil)))) (daNil))))))))) (dRet (dVar 3)))))
@[irreducible] def m_part_move__9 : Fn := dDef 3 3 (dSeq (dIfS (dTru (dFn fIsa (daCons (dVar 1) (daCons (dC (.ty "tuple")) (daNil))))) (dRet (dCall m_plan_move__8 (daCons (dVar 0) (daCons (dVar 1) (daCons (dBin fSubI (dVar 2) (dC (.int 1))) (daNil)))))) (dsNext)) (dSeq (dIfS (dOr (dNot (dTru (dCall m_is_integer (daCons (dVar 1) (daNil))))) (dNot (dTest (dCmp2 fLe fLt (dC (.int 0)) (dVar 1) (dLenO "Lot" m_Lot__len (dVar 0)))))) (dRet (dC .non)) (dsNext)) (dRet (dBin fIx (dSlt "Lot" 0 (dVar 0)) (dVar 1)))))
@[irreducible] def m_plan_move__10 : Fn := dDef 3 6 (dSeq (dIfS (dOr (dNot (dTru (dFn fIsa (daCons (dVar 1) (daCons (dC (.ty "tuple")) (daNil)))))) (dTest (dBin fEq (dVar 2) (dC (.int 0))))) (dRet (dC .non)) (dsNext)) (dSeq (dSet 3 (dC (.tup [.int 0, .int 0, .int 0]))) (dSeq (dFor (diSeq (dVar 1)) (dgName 4) (dSeq (dIfS (dOr (dNot (dTru (dFn fIsa (daCons (dVar 4) (daCons (dC (.ty "tuple")) (daNil)))))) (dOr (dTest (dBin fNe (dFn fLen (daCons (dVar 4) (daNil))) (dC (.int 2)))) (dOr (dNot (dTru (dCall m_is_integer (daCons (dBin fIx (dVar 4) (dC (.int 1))) (daNil))))) (dTest (dBin fEq (dBin fIx (dVar 4) (dC (.int 1))) (dC (.int 0))))))) (dRet (dC .non)) (dsNext)) (dSeq (dSet 5 (dCall m_part_move__9 (daCons (dVar 0) (daCons (dBin fIx (dVar 4) (dC (.int 0))) (daCons (dVar 2) (daNil)))))) (dSeq (dIfS (dTest (dBin (fIs false) (dVar 5) (dC .non))) (dRet (dC .non)) (dsNext)) (dSet 3 (dCall m_then_move (daCons (dVar 3) (daCons (dCall m_often_move (daCons (dVar 5) (daCons (dBin fIx (dVar 4) (dC (.int 1))) (daNil)))) (daNil))))))))) (dRet (dVar 3)))))
@[irreducible] def m_part_move__11 : Fn := dDef 3 3 (dSeq (dIfS (dTru (dFn fIsa (daCons (dVar 1) (daCons (dC (.ty "tuple")) (daNil))))) (dRet (dCall m_plan_move__10 (daCons (dVar 0) (daCons (dVar 1) (daCons (dBin fSubI (dVar 2) (dC (.int 1))) (daNil)))))) (dsNext)) (dSeq (dIfS (dOr (dNot (dTru (dCall m_is_integer (daCons (dVar 1) (daNil))))) (dNot (dTest (dCmp2 fLe fLt (dC (.int 0)) (dVar 1) (dLenO "Lot" m_Lot__len (dVar 0)))))) (dRet (dC .non)) (dsNext)) (dRet (dBin fIx (dSlt "Lot" 0 (dVar 0)) (dVar 1)))))
@[irreducible] def m_plan_move__12 : Fn := dDef 3 6 (dSeq (dIfS (dOr (dNot (dTru (dFn fIsa (daCons (dVar 1) (daCons (dC (.ty "tuple")) (daNil)))))) (dTest (dBin fEq (dVar 2) (dC (.int 0))))) (dRet (dC .non)) (dsNext)) (dSeq (dSet 3 (dC (.tup [.int 0, .int 0, .int 0]))) (dSeq (dFor (diSeq (dVar 1)) (dgName 4) (dSeq (dIfS (dOr (dNot (dTru (dFn fIsa (daCons (dVar 4) (daCons (dC (.ty "tuple")) (daNil)))))) (dOr (dTest (dBin fNe (dFn fLen (daCons (dVar 4) (daNil))) (dC (.int 2)))) (dOr (dNot (dTru (dCall m_is_integer (daCons (dBin fIx (dVar 4) (dC (.int 1))) (daNil))))) (dTest (dBin fEq (dBin fIx (dVar 4) (dC (.int 1))) (dC (.int 0))))))) (dRet (dC .non)) (dsNext)) (dSeq (dSet 5 (dCall m_part_move__11 (daCons (dVar 0) (daCons (dBin fIx (dVar 4) (dC (.int 0))) (daCons (dVar 2) (daNil)))))) (dSeq (dIfS (dTest (dBin (fIs false) (dVar 5) (dC .non))) (dRet (dC .non)) (dsNext)) (dSet 3 (dCall m_then_move (daCons (dVar 3) (daCons (dCall m_often_move (daCons (dVar 5) (daCons (dBin fIx (dVar 4) (dC (.int 1))) (daNil)))) (daNil))))))))) (dRet (dVar 3)))))
@[irreducible] def m_shows_made : Fn := dDef 3 3 (dRet (dAndV (dCall m_is_move (daCons (dVar 1) (daNil))) (dBin fEq (dCall m_plan_move__12 (daCons (dVar 0) (daCons (dVar 2) (daCons (dC (.int 5)) (daNil))))) (dVar 1))))
@[irreducible] def m_rest_of : Fn := dDef 2 2 (dRet (dIf (dTest (dBin fEq (dVar 1) (dC (.int 0)))) (dVar 0) (dBin fModI (dVar 0) (dVar 1))))
@[irreducible] def m_shares_of : Fn := dDef 3 8 (dSeq (dAsg (dVar 0) (dgTup 3 (dgCons (dgName 3) (dgCons (dgName 4) (dgCons (dgName 5) (dgNil)))))) (dSeq (dIfS (dIfT (dTest (dBin fEqN (dVar 3) (dTup (daNil)))) (dTest (dBin fNe (dVar 1) (dC (.int 0)))) (dTest (dBin fNe (dBin fModI (dVar 1) (dBin fIx (dVar 3) (dC (.int 0)))) (dC (.int 0))))) (dRet (dC .non)) (dsNext)) (dSeq (dSet 6 (dIf (dTest (dBin fEqN (dVar 3) (dTup (daNil)))) (dC (.int 0)) (dBin fDivI (dVar 1) (dBin fIx (dVar 3) (dC (.int 0)))))) (dSeq (dSet 7 (dIf (dTest (dBin fEqN (dVar 3) (dTup (daNil)))) (dVar 2) (dBin fSubI (dVar 2) (dBin fMul (dVar 6) (dBin fIx (dVar 3) (dC (.int 1))))))) (dSeq (dIfS (dIfT (dTest (dBin fEqN (dVar 4) (dTup (daNil)))) (dTest (dBin fNe (dVar 7) (dC (.int 0)))) (dTest (dBin fNe (dBin fModI (dVar 7) (dBin fIx (dVar 4) (dC (.int 1)))) (dC (.int 0))))) (dRet (dC .non)) (dsNext)) (dRet (dTup (daCons (dVar 6) (daCons (dIf (dTest (dBin fEqN (dVar 4) (dTup (daNil)))) (dC (.int 0)) (dBin fDivI (dVar 7) (dBin fIx (dVar 4) (dC (.int 1))))) (daNil))))))))))
@[irreducible] def m_led_to : Fn := dDef 2 3 (dSeq (dSet 2 (dIf (dTest (dBin fEqN (dBin fIx (dVar 0) (dC (.int 0))) (dTup (daNil)))) (dC (.tup [.int 0, .int 0, .int 0])) (dCall m_often_move (daCons (dBin fIx (dVar 0) (dC (.int 0))) (daCons (dBin fIx (dVar 1) (dC (.int 0))) (daNil)))))) (dRet (dIf (dTest (dBin fEqN (dBin fIx (dVar 0) (dC (.int 1))) (dTup (daNil)))) (dVar 2) (dCall m_then_move (daCons (dVar 2) (daCons (dCall m_often_move (daCons (dBin fIx (dVar 0) (dC (.int 1))) (daCons (dBin fIx (dVar 1) (dC (.int 1))) (daNil)))) (daNil)))))))
@[irreducible] def m_tells : Fn := dDef 2 3 (dSeq (dSet 2 (dCall m_shares_of (daCons (dVar 0) (daCons (dBin fIx (dVar 1) (dC (.int 0))) (daCons (dBin fIx (dVar 1) (dC (.int 1))) (daNil)))))) (dSeq (dIfS (dTest (dBin (fIs false) (dVar 2) (dC .non))) (dRet (dC (.bl false))) (dsNext)) (dRet (dBin fEq (dCall m_rest_of (daCons (dBin fSubI (dBin fIx (dVar 1) (dC (.int 2))) (dBin fIx (dCall m_led_to (daCons (dVar 0) (daCons (dVar 2) (daNil)))) (dC (.int 2)))) (daCons (dBin fIx (dVar 0) (dC (.int 2))) (daNil)))) (dC (.int 0))))))
@[irreducible] def m_is_count : Fn := dDef 1 1 (dRet (dAndV (dCall m_is_integer (daCons (dVar 0) (daNil))) (dBin fGe (dVar 0) (dC (.int 0)))))
@[irreducible] def m_is_within : Fn := dDef 2 2 (dRet (dOrV (dBin fEq (dVar 1) (dC (.int 0))) (dCmp2 fLe fLt (dC (.int 0)) (dVar 0) (dVar 1))))
@[irreducible] def m_is_east : Fn := dDef 2 2 (dSeq (dIfS (dOr (dNot (dTru (dCall m_is_move (daCons (dVar 0) (daNil))))) (dOr (dTest (dBin fLt (dBin fIx (dVar 0) (dC (.int 0))) (dC (.int 1)))) (dNot (dTru (dCall m_is_within (daCons (dBin fIx (dVar 0) (dC (.int 2))) (daCons (dBin fIx (dVar 1) (dC (.int 2))) (daNil)))))))) (dRet (dC (.bl false))) (dsNext)) (dRet (dOrV (dBin fEqN (dBin fIx (dVar 1) (dC (.int 1))) (dTup (daNil))) (dAndV (dCmp2 fLe fLt (dC (.int 0)) (dBin fIx (dVar 0) (dC (.int 1))) (dBin fIx (dBin fIx (dVar 1) (dC (.int 1))) (dC (.int 1)))) (dAndV (dBin fGt (dBin fIx (dVar 1) (dC (.int 2))) (dC (.int 0))) (dBin fEq (dBin fModI (dBin fMul (dBin fIx (dVar 0) (dC (.int 0))) (dBin fIx (dBin fIx (dVar 1) (dC (.int 1))) (dC (.int 1)))) (dBin fIx (dVar 1) (dC (.int 2)))) (dC (.int 0))))))))
@[irreducible] def m_is_none : Fn := dDef 1 1 (dRet (dAndV (dFn fIsa (daCons (dVar 0) (daCons (dC (.ty "tuple")) (daNil)))) (dBin fEq (dFn fLen (daCons (dVar 0) (daNil))) (dC (.int 0)))))
@[irreducible] def m_is_north : Fn := dDef 2 2 (dRet (dAndV (dCall m_is_move (daCons (dVar 0) (daNil))) (dAndV (dBin fEq (dBin fIx (dVar 0) (dC (.int 0))) (dC (.int 0))) (dAndV (dBin fGt (dBin fIx (dVar 0) (dC (.int 1))) (dC (.int 0))) (dCall m_is_within (daCons (dBin fIx (dVar 0) (dC (.int 2))) (daCons (dVar 1) (daNil))))))))
@[irreducible] def m_is_form : Fn := dDef 1 1 (dSeq (dIfS (dOr (dNot (dTru (dFn fIsa (daCons (dVar 0) (daCons (dC (.ty "tuple")) (daNil)))))) (dOr (dTest (dBin fNe (dFn fLen (daCons (dVar 0) (daNil))) (dC (.int 3)))) (dNot (dTru (dCall m_is_count (daCons (dBin fIx (dVar 0) (dC (.int 2))) (daNil))))))) (dRet (dC (.bl false))) (dsNext)) (dSeq (dIfS (dAnd (dNot (dTru (dCall m_is_none (daCons (dBin fIx (dVar 0) (dC (.int 1))) (daNil))))) (dNot (dTru (dCall m_is_north (daCons (dBin fIx (dVar 0) (dC (.int 1))) (daCons (dBin fIx (dVar 0) (dC (.int 2))) (daNil))))))) (dRet (dC (.bl false))) (dsNext)) (dRet (dOrV (dCall m_is_none (daCons (dBin fIx (dVar 0) (dC (.int 0))) (daNil))) (dCall m_is_east (daCons (dBin fIx (dVar 0) (dC (.int 0))) (daCons (dVar 0) (daNil))))))))
@[irreducible] def m_shows_missed : Fn := dDef 3 4 (dSeq (dIfS (dOr (dNot (dTru (dCall m_is_move (daCons (dVar 1) (daNil))))) (dNot (dTru (dCall m_is_form (daCons (dVar 2) (daNil)))))) (dRet (dC (.bl false))) (dsNext)) (dRet (dAndV (dFn fAll (daCons (dLcF finL [3] (diSeq (dSlt "Lot" 0 (dVar 0))) (dgName 3) (dYes) (dCall m_tells (daCons (dVar 2) (daCons (dVar 3) (daNil))))) (daNil))) (dNotV (dCall m_tells (daCons (dVar 2) (daCons (dVar 1) (daNil))))))))
@[irreducible] def m_shows_all : Fn := dDef 3 5 (dSeq (dIfS (dOr (dNot (dTru (dFn fIsa (daCons (dVar 2) (daCons (dC (.ty "tuple")) (daNil)))))) (dTest (dBin fNe (dFn fLen (daCons (dVar 2) (daNil))) (dFn fLen (daCons (dVar 1) (daNil)))))) (dRet (dC (.bl false))) (dsNext)) (dRet (dFn fAll (daCons (dLcF finL [3, 4] (diZipX (daCons (dVar 2) (daCons (dVar 1) (daNil)))) (dgTup 2 (dgCons (dgName 3) (dgCons (dgName 4) dgNil))) (dYes) (dBin fEq (dCall m_plan_move__12 (daCons (dVar 0) (daCons (dVar 3) (daCons (dC (.int 5)) (daNil))))) (dVar 4))) (daNil)))))
@[irreducible] def m_shows_same : Fn := dDef 3 3 (dSeq (dIfS (dOr (dNot (dTru (dFn fIsa (daCons (dVar 2) (daCons (dC (.ty "tuple")) (daNil)))))) (dTest (dBin fNe (dFn fLen (daCons (dVar 2) (daNil))) (dC (.int 2))))) (dRet (dC (.bl false))) (dsNext)) (dSeq (dIfS (dNot (dTru (dCall m_shows_all (daCons (dVar 0) (daCons (dSlt "Lot" 0 (dVar 1)) (daCons (dBin fIx (dVar 2) (dC (.int 0))) (daNil))))))) (dRet (dC (.bl false))) (dsNext)) (dRet (dCall m_shows_all (daCons (dVar 1) (daCons (dSlt "Lot" 0 (dVar 0)) (daCons (dBin fIx (dVar 2) (dC (.int 1))) (daNil))))))))
@[irreducible] def m_undone_move : Fn := dDef 1 1 (dRet (dTup (daCons (dUn fNeg (dBin fIx (dVar 0) (dC (.int 0)))) (daCons (dUn fNeg (dBin fIx (dVar 0) (dC (.int 1)))) (daCons (dBin fSubI (dBin fMul (dBin fIx (dVar 0) (dC (.int 0))) (dBin fIx (dVar 0) (dC (.int 1)))) (dBin fIx (dVar 0) (dC (.int 2)))) (daNil))))))
@[irreducible] def m_around_move : Fn := dDef 2 2 (dRet (dTup (daCons (dBin fIx (dVar 1) (dC (.int 0))) (daCons (dBin fIx (dVar 1) (dC (.int 1))) (daCons (dBin fSubI (dBin fAdd (dBin fIx (dVar 1) (dC (.int 2))) (dBin fMul (dBin fIx (dVar 0) (dC (.int 0))) (dBin fIx (dVar 1) (dC (.int 1))))) (dBin fMul (dBin fIx (dVar 0) (dC (.int 1))) (dBin fIx (dVar 1) (dC (.int 0))))) (daNil))))))
@[irreducible] def m_shows_moved : Fn := dDef 3 6 (dSeq (dIfS (dOr (dNot (dTru (dFn fIsa (daCons (dVar 2) (daCons (dC (.ty "tuple")) (daNil)))))) (dOr (dTest (dBin fNe (dFn fLen (daCons (dVar 2) (daNil))) (dC (.int 3)))) (dNot (dTru (dCall m_is_move (daCons (dBin fIx (dVar 2) (dC (.int 0))) (daNil))))))) (dRet (dC (.bl false))) (dsNext)) (dSeq (dSet 3 (dBin fIx (dVar 2) (dC (.int 0)))) (dSeq (dSet 4 (dCall m_undone_move (daCons (dVar 3) (daNil)))) (dSeq (dIfS (dNot (dTru (dCall m_shows_all (daCons (dVar 0) (daCons (dLcF finL [5] (diSeq (dSlt "Lot" 0 (dVar 1))) (dgName 5) (dYes) (dCall m_around_move (daCons (dVar 4) (daCons (dVar 5) (daNil))))) (daCons (dBin fIx (dVar 2) (dC (.int 1))) (daNil))))))) (dRet (dC (.bl false))) (dsNext)) (dRet (dCall m_shows_all (daCons (dVar 1) (daCons (dLcF finL [5] (diSeq (dSlt "Lot" 0 (dVar 0))) (dgName 5) (dYes) (dCall m_around_move (daCons (dVar 3) (daCons (dVar 5) (daNil))))) (daCons (dBin fIx (dVar 2) (dC (.int 2))) (daNil))))))))))
@[irreducible] def m_shows_of_lots : Fn := dDef 2 5 (dSeq (dPar 2 3 (daCons (dCall m_text_lot (daCons (dBin fIx (dVar 0) (dC (.int 1))) (daNil))) (daCons (dCall m_text_lot (daCons (dBin fIx (dVar 0) (dC (.int 2))) (daNil))) (daNil)))) (dSeq (dIfS (dOr (dTest (dBin (fIs false) (dVar 2) (dC .non))) (dTest (dBin (fIs false) (dVar 3) (dC .non)))) (dRet (dC (.bl false))) (dsNext)) (dSeq (dSet 4 (dIf (dTest (dBin fEq (dBin fIx (dVar 0) (dC (.int 0))) (dC (.str "same")))) (dC (.glo "shows_same")) (dC (.glo "shows_moved")))) (dRet (dCallV 4 "shows_same" m_shows_same "shows_moved" m_shows_moved (daCons (dVar 2) (daCons (dVar 3) (daCons (dVar 1) (daNil)))))))))
@[irreducible] def m_shows_of_moves : Fn := dDef 2 2 (dSeq (dIfS (dOr (dNot (dTru (dCall m_is_move (daCons (dBin fIx (dVar 0) (dC (.int 1))) (daNil))))) (dNot (dTru (dCall m_is_move (daCons (dVar 1) (daNil)))))) (dRet (dC (.bl false))) (dsNext)) (dSeq (dIfS (dTest (dBin fEq (dBin fIx (dVar 0) (dC (.int 0))) (dC (.str "alike")))) (dRet (dAndV (dCall m_is_move (daCons (dBin fIx (dVar 0) (dC (.int 2))) (daNil))) (dBin fEq (dCall m_around_move (daCons (dVar 1) (daCons (dBin fIx (dVar 0) (dC (.int 1))) (daNil)))) (dBin fIx (dVar 0) (dC (.int 2)))))) (dsNext)) (dRet (dAndV (dCall m_is_integer (daCons (dBin fIx (dVar 0) (dC (.int 2))) (daNil))) (dAndV (dBin fGt (dBin fIx (dVar 0) (dC (.int 2))) (dC (.int 0))) (dBin fEq (dCall m_often_move (daCons (dVar 1) (daCons (dBin fIx (dVar 0) (dC (.int 2))) (daNil)))) (dBin fIx (dVar 0) (dC (.int 1)))))))))
@[irreducible] def m_accepts : Fn := dDef 2 4 (dSeq (dIfS (dOr (dNot (dTru (dFn fIsa (daCons (dVar 0) (daCons (dC (.ty "tuple")) (daNil)))))) (dOr (dTest (dBin fEq (dFn fLen (daCons (dVar 0) (daNil))) (dC (.int 0)))) (dNot (dTru (dFn fIsa (daCons (dBin fIx (dVar 0) (dC (.int 0))) (daCons (dC (.ty "str")) (daNil)))))))) (dRet (dC (.bl false))) (dsNext)) (dSeq (dIfS (dTest (dBin fNe (dKGet [("makes", .int 3), ("misses", .int 3), ("same", .int 3), ("moved", .int 3), ("alike", .int 3), ("root", .int 3)] (dBin fIx (dVar 0) (dC (.int 0))) (dC (.int 0))) (dFn fLen (daCons (dVar 0) (daNil))))) (dRet (dC (.bl false))) (dsNext)) (dSeq (dIfS (dTest (dBin (fIn false) (dBin fIx (dVar 0) (dC (.int 0))) (dTup (daCons (dC (.str "same")) (daCons (dC (.str "moved")) (daNil)))))) (dRet (dCall m_shows_of_lots (daCons (dVar 0) (daCons (dVar 1) (daNil))))) (dsNext)) (dSeq (dIfS (dTest (dBin (fIn false) (dBin fIx (dVar 0) (dC (.int 0))) (dTup (daCons (dC (.str "alike")) (daCons (dC (.str "root")) (daNil)))))) (dRet (dCall m_shows_of_moves (daCons (dVar 0) (daCons (dVar 1) (daNil))))) (dsNext)) (dSeq (dSet 2 (dCall m_text_lot (daCons (dBin fIx (dVar 0) (dC (.int 1))) (daNil)))) (dSeq (dSet 3 (dIf (dTest (dBin fEq (dBin fIx (dVar 0) (dC (.int 0))) (dC (.str "makes")))) (dC (.glo "shows_made")) (dC (.glo "shows_missed")))) (dRet (dAndV (dBin (fIs true) (dVar 2) (dC .non)) (dCallV 3 "shows_made" m_shows_made "shows_missed" m_shows_missed (daCons (dVar 2) (daCons (dBin fIx (dVar 0) (dC (.int 2))) (daCons (dVar 1) (daNil)))))))))))))
@[irreducible] def m__law_draw : Fn := dDef 2 4 (dSeq (dIfS (dTest (dBin fGt (dBin fIx (dVar 0) (dC (.int 2))) (dC (.int 0)))) (dSeq (dAsg (dFn fDivmod (daCons (dBin fIx (dVar 0) (dC (.int 2))) (daCons (dVar 1) (daNil)))) (dgTup 2 (dgCons (dgSub (dVar 0) (dC (.int 2))) (dgCons (dgName 2) (dgNil))))) (dRet (dVar 2))) (dsNext)) (dSeq (dAsg (dBin fAdd (dBin fIx (dVar 0) (dC (.int 1))) (dC (.int 1))) (dgSub (dVar 0) (dC (.int 1)))) (dSeq (dSet 3 (dFn fInt (daCons (dBin fIx (dVar 0) (dC (.int 0))) (daNil)))) (dSeq (dAsg (dBin fModI (dFn fInt (daCons (dBin fAdd (dBin fAdd (dBin fMul (dVar 3) (dC (.int 40009))) (dBin fMul (dBin fIx (dVar 0) (dC (.int 1))) (dC (.int 45013)))) (dC (.int 97))) (daNil))) (dC (.int 2147483629))) (dgSub (dVar 0) (dC (.int 0)))) (dRet (dBin fModI (dFn fInt (daCons (dBin fDivI (dBin fIx (dVar 0) (dC (.int 0))) (dC (.int 2048))) (daNil))) (dVar 1)))))))
@[irreducible] def m__law_pick : Fn := dDef 2 2 (dRet (dBin fIx (dVar 1) (dCall m__law_draw (daCons (dVar 0) (daCons (dFn fLen (daCons (dVar 1) (daNil))) (daNil))))))
@[irreducible] def m__law_great : Fn := dDef 1 3 (dSeq (dSet 1 (dC (.int 0))) (dSeq (dFor (diRange1 (daCons (dBin fAdd (dC (.int 1)) (dCall m__law_draw (daCons (dVar 0) (daCons (dC (.int 9)) (daNil))))) (daNil))) (dgName 2) (dSet 1 (dBin fAdd (dBin fMul (dC (.int 1000)) (dVar 1)) (dCall m__law_draw (daCons (dVar 0) (daCons (dC (.int 1000)) (daNil))))))) (dRet (dVar 1))))
@[irreducible] def m__law_good : Fn := dDef 1 8 (dSeq (dSet 1 (dBin fAdd (dC (.int 2)) (dCall m__law_great (daCons (dVar 0) (daNil))))) (dSeq (dSet 2 (dBin fAdd (dC (.str "button 2 0 0\nbutton 0 3 ")) (dFn fStr2 (daCons (dBin fMul (dC (.int 6)) (dBin fAdd (dC (.int 1)) (dCall m__law_draw (daCons (dVar 0) (daCons (dC (.int 9)) (daNil)))))) (daNil))))) (dSeq (dSet 3 (dTup (daCons (dTup (daCons (dTup (daCons (dC (.int 0)) (daCons (dC (.int 1)) (daNil)))) (daCons (dTup (daCons (dC (.int 1)) (daCons (dC (.int 1)) (daNil)))) (daCons (dTup (daCons (dC (.int 0)) (daCons (dUn fNeg (dC (.int 1))) (daNil)))) (daCons (dTup (daCons (dC (.int 1)) (daCons (dUn fNeg (dC (.int 1))) (daNil)))) (daNil)))))) (daCons (dVar 1) (daNil))))) (dSeq (dSet 4 (dLstM (daCons (dTup (daCons (dTup (daCons (dC (.str "makes")) (daCons (dVar 2) (daCons (dTup (daCons (dC (.int 0)) (daCons (dC (.int 0)) (daCons (dBin fMul (dC (.int 6)) (dVar 1)) (daNil))))) (daNil))))) (daCons (dTup (daCons (dVar 3) (daNil))) (daNil)))) (daNil)))) (dSeq (dDrop (dAppend (dVar 4) (dTup (daCons (dTup (daCons (dC (.str "misses")) (daCons (dVar 2) (daCons (dTup (daCons (dC (.int 1)) (daCons (dC (.int 0)) (daCons (dVar 1) (daNil))))) (daNil))))) (daCons (dTup (daCons (dTup (daCons (dC (.int 2)) (daCons (dC (.int 0)) (daCons (dC (.int 0)) (daNil))))) (daCons (dTup (daCons (dC (.int 0)) (daCons (dC (.int 3)) (daCons (dC (.int 0)) (daNil))))) (daCons (dC (.int 6)) (daNil))))) (daNil)))))) (dSeq (dDrop (dAppend (dVar 4) (dTup (daCons (dTup (daCons (dC (.str "alike")) (daCons (dTup (daCons (dC (.int 2)) (daCons (dC (.int 4)) (daCons (dVar 1) (daNil))))) (daCons (dTup (daCons (dC (.int 2)) (daCons (dC (.int 4)) (daCons (dBin fAdd (dVar 1) (dC (.int 2))) (daNil))))) (daNil))))) (daCons (dTup (daCons (dC (.int 1)) (daCons (dC (.int 1)) (daCons (dVar 1) (daNil))))) (daNil)))))) (dSeq (dDrop (dAppend (dVar 4) (dTup (daCons (dTup (daCons (dC (.str "root")) (daCons (dTup (daCons (dBin fMul (dC (.int 2)) (dVar 1)) (daCons (dC (.int 0)) (daCons (dBin fMul (dC (.int 2)) (dVar 1)) (daNil))))) (daCons (dC (.int 2)) (daNil))))) (daCons (dTup (daCons (dVar 1) (daCons (dC (.int 0)) (daCons (dVar 1) (daNil))))) (daNil)))))) (dSeq (dPar 5 6 (daCons (dBin fAdd (dBin fAdd (dC (.str "button ")) (dFn fStr2 (daCons (dVar 1) (daNil)))) (dC (.str " 0 0"))) (daCons (dBin fAdd (dBin fAdd (dC (.str "button ")) (dFn fStr2 (daCons (dBin fSubI (dC (.int 0)) (dVar 1)) (daNil)))) (dC (.str " 0 0"))) (daNil)))) (dSeq (dDrop (dAppend (dVar 4) (dTup (daCons (dTup (daCons (dC (.str "same")) (daCons (dVar 5) (daCons (dVar 6) (daNil))))) (daCons (dTup (daCons (dTup (daCons (dTup (daCons (dTup (daCons (dC (.int 0)) (daCons (dUn fNeg (dC (.int 1))) (daNil)))) (daNil))) (daNil))) (daCons (dTup (daCons (dTup (daCons (dTup (daCons (dC (.int 0)) (daCons (dUn fNeg (dC (.int 1))) (daNil)))) (daNil))) (daNil))) (daNil)))) (daNil)))))) (dSeq (dSet 7 (dBin fAdd (dBin fAdd (dBin fAdd (dC (.str "button ")) (dFn fStr2 (daCons (dVar 1) (daNil)))) (dC (.str " 0 "))) (dFn fStr2 (daCons (dVar 1) (daNil))))) (dSeq (dDrop (dAppend (dVar 4) (dTup (daCons (dTup (daCons (dC (.str "moved")) (daCons (dVar 5) (daCons (dVar 7) (daNil))))) (daCons (dTup (daCons (dTup (daCons (dC (.int 0)) (daCons (dUn fNeg (dC (.int 1))) (daCons (dVar 1) (daNil))))) (daCons (dTup (daCons (dTup (daCons (dTup (daCons (dC (.int 0)) (daCons (dC (.int 1)) (daNil)))) (daNil))) (daNil))) (daCons (dTup (daCons (dTup (daCons (dTup (daCons (dC (.int 0)) (daCons (dC (.int 1)) (daNil)))) (daNil))) (daNil))) (daNil))))) (daNil)))))) (dRet (dVar 4)))))))))))))
@[irreducible] def m__law_odd : Fn := dDef 1 1 (dRet (dCall m__law_pick (daCons (dVar 0) (daCons (dLst (daCons (dC (.bl true)) (daCons (dEmp) (daCons (dLst (daNil)) (daCons (dC (.str "X")) (daCons (dTup (daCons (dLst (daNil)) (daNil))) (daCons (dTup (daCons (dEmp) (daNil))) (daCons (dLst (daCons (dC (.str "a")) (daNil))) (daCons (dC (.str " ")) (daCons (dLst (daCons (dC (.int 1)) (daCons (dC (.int 2)) (daNil)))) (daCons (dC (.bl false)) (daCons (dC (.str "moves")) (daCons (dDct1 "a" 1) (daCons (dTup (daCons (dC (.bl true)) (daNil))) (daNil))))))))))))))) (daNil)))))
@[irreducible] def m__law_put__0 : Fn := dDef 4 6 (dSeq (dNever) (dNever))
@[irreducible] def m__law_put__1 : Fn := dDef 4 6 (dSeq (dIfS (dAnd (dTru (dFn fIsa (daCons (dVar 1) (daCons (dC (.ty "tuple")) (daNil))))) (dAnd (dTest (dBin fGt (dFn fLen (daCons (dVar 1) (daNil))) (dC (.int 0)))) (dAnd (dTest (dBin fGt (dVar 3) (dC (.int 0)))) (dTest (dBin fGt (dCall m__law_draw (daCons (dVar 0) (daCons (dC (.int 5)) (daNil)))) (dC (.int 0))))))) (dSeq (dSet 4 (dCall m__law_draw (daCons (dVar 0) (daCons (dFn fLen (daCons (dVar 1) (daNil))) (daNil))))) (dSeq (dSet 5 (dCall m__law_put__0 (daCons (dVar 0) (daCons (dBin fIx (dVar 1) (dVar 4)) (daCons (dVar 2) (daCons (dBin fSubI (dVar 3) (dC (.int 1))) (daNil))))))) (dRet (dBin fAdd (dBin fAdd (dSl (dVar 1) (dNoPart) (dPart (dVar 4))) (dTup (daCons (dVar 5) (daNil)))) (dSl (dVar 1) (dPart (dBin fAdd (dVar 4) (dC (.int 1)))) (dNoPart)))))) (dsNext)) (dRet (dVar 2)))
@[irreducible] def m__law_put__2 : Fn := dDef 4 6 (dSeq (dIfS (dAnd (dTru (dFn fIsa (daCons (dVar 1) (daCons (dC (.ty "tuple")) (daNil))))) (dAnd (dTest (dBin fGt (dFn fLen (daCons (dVar 1) (daNil))) (dC (.int 0)))) (dAnd (dTest (dBin fGt (dVar 3) (dC (.int 0)))) (dTest (dBin fGt (dCall m__law_draw (daCons (dVar 0) (daCons (dC (.int 5)) (daNil)))) (dC (.int 0))))))) (dSeq (dSet 4 (dCall m__law_draw (daCons (dVar 0) (daCons (dFn fLen (daCons (dVar 1) (daNil))) (daNil))))) (dSeq (dSet 5 (dCall m__law_put__1 (daCons (dVar 0) (daCons (dBin fIx (dVar 1) (dVar 4)) (daCons (dVar 2) (daCons (dBin fSubI (dVar 3) (dC (.int 1))) (daNil))))))) (dRet (dBin fAdd (dBin fAdd (dSl (dVar 1) (dNoPart) (dPart (dVar 4))) (dTup (daCons (dVar 5) (daNil)))) (dSl (dVar 1) (dPart (dBin fAdd (dVar 4) (dC (.int 1)))) (dNoPart)))))) (dsNext)) (dRet (dVar 2)))
@[irreducible] def m__law_put__3 : Fn := dDef 4 6 (dSeq (dIfS (dAnd (dTru (dFn fIsa (daCons (dVar 1) (daCons (dC (.ty "tuple")) (daNil))))) (dAnd (dTest (dBin fGt (dFn fLen (daCons (dVar 1) (daNil))) (dC (.int 0)))) (dAnd (dTest (dBin fGt (dVar 3) (dC (.int 0)))) (dTest (dBin fGt (dCall m__law_draw (daCons (dVar 0) (daCons (dC (.int 5)) (daNil)))) (dC (.int 0))))))) (dSeq (dSet 4 (dCall m__law_draw (daCons (dVar 0) (daCons (dFn fLen (daCons (dVar 1) (daNil))) (daNil))))) (dSeq (dSet 5 (dCall m__law_put__2 (daCons (dVar 0) (daCons (dBin fIx (dVar 1) (dVar 4)) (daCons (dVar 2) (daCons (dBin fSubI (dVar 3) (dC (.int 1))) (daNil))))))) (dRet (dBin fAdd (dBin fAdd (dSl (dVar 1) (dNoPart) (dPart (dVar 4))) (dTup (daCons (dVar 5) (daNil)))) (dSl (dVar 1) (dPart (dBin fAdd (dVar 4) (dC (.int 1)))) (dNoPart)))))) (dsNext)) (dRet (dVar 2)))
@[irreducible] def m__law_put__4 : Fn := dDef 4 6 (dSeq (dIfS (dAnd (dTru (dFn fIsa (daCons (dVar 1) (daCons (dC (.ty "tuple")) (daNil))))) (dAnd (dTest (dBin fGt (dFn fLen (daCons (dVar 1) (daNil))) (dC (.int 0)))) (dAnd (dTest (dBin fGt (dVar 3) (dC (.int 0)))) (dTest (dBin fGt (dCall m__law_draw (daCons (dVar 0) (daCons (dC (.int 5)) (daNil)))) (dC (.int 0))))))) (dSeq (dSet 4 (dCall m__law_draw (daCons (dVar 0) (daCons (dFn fLen (daCons (dVar 1) (daNil))) (daNil))))) (dSeq (dSet 5 (dCall m__law_put__3 (daCons (dVar 0) (daCons (dBin fIx (dVar 1) (dVar 4)) (daCons (dVar 2) (daCons (dBin fSubI (dVar 3) (dC (.int 1))) (daNil))))))) (dRet (dBin fAdd (dBin fAdd (dSl (dVar 1) (dNoPart) (dPart (dVar 4))) (dTup (daCons (dVar 5) (daNil)))) (dSl (dVar 1) (dPart (dBin fAdd (dVar 4) (dC (.int 1)))) (dNoPart)))))) (dsNext)) (dRet (dVar 2)))
@[irreducible] def m__law_put__5 : Fn := dDef 4 6 (dSeq (dIfS (dAnd (dTru (dFn fIsa (daCons (dVar 1) (daCons (dC (.ty "tuple")) (daNil))))) (dAnd (dTest (dBin fGt (dFn fLen (daCons (dVar 1) (daNil))) (dC (.int 0)))) (dAnd (dTest (dBin fGt (dVar 3) (dC (.int 0)))) (dTest (dBin fGt (dCall m__law_draw (daCons (dVar 0) (daCons (dC (.int 5)) (daNil)))) (dC (.int 0))))))) (dSeq (dSet 4 (dCall m__law_draw (daCons (dVar 0) (daCons (dFn fLen (daCons (dVar 1) (daNil))) (daNil))))) (dSeq (dSet 5 (dCall m__law_put__4 (daCons (dVar 0) (daCons (dBin fIx (dVar 1) (dVar 4)) (daCons (dVar 2) (daCons (dBin fSubI (dVar 3) (dC (.int 1))) (daNil))))))) (dRet (dBin fAdd (dBin fAdd (dSl (dVar 1) (dNoPart) (dPart (dVar 4))) (dTup (daCons (dVar 5) (daNil)))) (dSl (dVar 1) (dPart (dBin fAdd (dVar 4) (dC (.int 1)))) (dNoPart)))))) (dsNext)) (dRet (dVar 2)))
@[irreducible] def m__law_put__6 : Fn := dDef 4 6 (dSeq (dIfS (dAnd (dTru (dFn fIsa (daCons (dVar 1) (daCons (dC (.ty "tuple")) (daNil))))) (dAnd (dTest (dBin fGt (dFn fLen (daCons (dVar 1) (daNil))) (dC (.int 0)))) (dAnd (dTest (dBin fGt (dVar 3) (dC (.int 0)))) (dTest (dBin fGt (dCall m__law_draw (daCons (dVar 0) (daCons (dC (.int 5)) (daNil)))) (dC (.int 0))))))) (dSeq (dSet 4 (dCall m__law_draw (daCons (dVar 0) (daCons (dFn fLen (daCons (dVar 1) (daNil))) (daNil))))) (dSeq (dSet 5 (dCall m__law_put__5 (daCons (dVar 0) (daCons (dBin fIx (dVar 1) (dVar 4)) (daCons (dVar 2) (daCons (dBin fSubI (dVar 3) (dC (.int 1))) (daNil))))))) (dRet (dBin fAdd (dBin fAdd (dSl (dVar 1) (dNoPart) (dPart (dVar 4))) (dTup (daCons (dVar 5) (daNil)))) (dSl (dVar 1) (dPart (dBin fAdd (dVar 4) (dC (.int 1)))) (dNoPart)))))) (dsNext)) (dRet (dVar 2)))
@[irreducible] def m__law_put__7 : Fn := dDef 4 6 (dSeq (dIfS (dAnd (dTru (dFn fIsa (daCons (dVar 1) (daCons (dC (.ty "tuple")) (daNil))))) (dAnd (dTest (dBin fGt (dFn fLen (daCons (dVar 1) (daNil))) (dC (.int 0)))) (dAnd (dTest (dBin fGt (dVar 3) (dC (.int 0)))) (dTest (dBin fGt (dCall m__law_draw (daCons (dVar 0) (daCons (dC (.int 5)) (daNil)))) (dC (.int 0))))))) (dSeq (dSet 4 (dCall m__law_draw (daCons (dVar 0) (daCons (dFn fLen (daCons (dVar 1) (daNil))) (daNil))))) (dSeq (dSet 5 (dCall m__law_put__6 (daCons (dVar 0) (daCons (dBin fIx (dVar 1) (dVar 4)) (daCons (dVar 2) (daCons (dBin fSubI (dVar 3) (dC (.int 1))) (daNil))))))) (dRet (dBin fAdd (dBin fAdd (dSl (dVar 1) (dNoPart) (dPart (dVar 4))) (dTup (daCons (dVar 5) (daNil)))) (dSl (dVar 1) (dPart (dBin fAdd (dVar 4) (dC (.int 1)))) (dNoPart)))))) (dsNext)) (dRet (dVar 2)))
@[irreducible] def m__law_put__8 : Fn := dDef 4 6 (dSeq (dIfS (dAnd (dTru (dFn fIsa (daCons (dVar 1) (daCons (dC (.ty "tuple")) (daNil))))) (dAnd (dTest (dBin fGt (dFn fLen (daCons (dVar 1) (daNil))) (dC (.int 0)))) (dAnd (dTest (dBin fGt (dVar 3) (dC (.int 0)))) (dTest (dBin fGt (dCall m__law_draw (daCons (dVar 0) (daCons (dC (.int 5)) (daNil)))) (dC (.int 0))))))) (dSeq (dSet 4 (dCall m__law_draw (daCons (dVar 0) (daCons (dFn fLen (daCons (dVar 1) (daNil))) (daNil))))) (dSeq (dSet 5 (dCall m__law_put__7 (daCons (dVar 0) (daCons (dBin fIx (dVar 1) (dVar 4)) (daCons (dVar 2) (daCons (dBin fSubI (dVar 3) (dC (.int 1))) (daNil))))))) (dRet (dBin fAdd (dBin fAdd (dSl (dVar 1) (dNoPart) (dPart (dVar 4))) (dTup (daCons (dVar 5) (daNil)))) (dSl (dVar 1) (dPart (dBin fAdd (dVar 4) (dC (.int 1)))) (dNoPart)))))) (dsNext)) (dRet (dVar 2)))
@[irreducible] def m__law_put__9 : Fn := dDef 4 6 (dSeq (dIfS (dAnd (dTru (dFn fIsa (daCons (dVar 1) (daCons (dC (.ty "tuple")) (daNil))))) (dAnd (dTest (dBin fGt (dFn fLen (daCons (dVar 1) (daNil))) (dC (.int 0)))) (dAnd (dTest (dBin fGt (dVar 3) (dC (.int 0)))) (dTest (dBin fGt (dCall m__law_draw (daCons (dVar 0) (daCons (dC (.int 5)) (daNil)))) (dC (.int 0))))))) (dSeq (dSet 4 (dCall m__law_draw (daCons (dVar 0) (daCons (dFn fLen (daCons (dVar 1) (daNil))) (daNil))))) (dSeq (dSet 5 (dCall m__law_put__8 (daCons (dVar 0) (daCons (dBin fIx (dVar 1) (dVar 4)) (daCons (dVar 2) (daCons (dBin fSubI (dVar 3) (dC (.int 1))) (daNil))))))) (dRet (dBin fAdd (dBin fAdd (dSl (dVar 1) (dNoPart) (dPart (dVar 4))) (dTup (daCons (dVar 5) (daNil)))) (dSl (dVar 1) (dPart (dBin fAdd (dVar 4) (dC (.int 1)))) (dNoPart)))))) (dsNext)) (dRet (dVar 2)))
@[irreducible] def m__law_put__10 : Fn := dDef 4 6 (dSeq (dIfS (dAnd (dTru (dFn fIsa (daCons (dVar 1) (daCons (dC (.ty "tuple")) (daNil))))) (dAnd (dTest (dBin fGt (dFn fLen (daCons (dVar 1) (daNil))) (dC (.int 0)))) (dAnd (dTest (dBin fGt (dVar 3) (dC (.int 0)))) (dTest (dBin fGt (dCall m__law_draw (daCons (dVar 0) (daCons (dC (.int 5)) (daNil)))) (dC (.int 0))))))) (dSeq (dSet 4 (dCall m__law_draw (daCons (dVar 0) (daCons (dFn fLen (daCons (dVar 1) (daNil))) (daNil))))) (dSeq (dSet 5 (dCall m__law_put__9 (daCons (dVar 0) (daCons (dBin fIx (dVar 1) (dVar 4)) (daCons (dVar 2) (daCons (dBin fSubI (dVar 3) (dC (.int 1))) (daNil))))))) (dRet (dBin fAdd (dBin fAdd (dSl (dVar 1) (dNoPart) (dPart (dVar 4))) (dTup (daCons (dVar 5) (daNil)))) (dSl (dVar 1) (dPart (dBin fAdd (dVar 4) (dC (.int 1)))) (dNoPart)))))) (dsNext)) (dRet (dVar 2)))
@[irreducible] def m__law_put__11 : Fn := dDef 4 6 (dSeq (dIfS (dAnd (dTru (dFn fIsa (daCons (dVar 1) (daCons (dC (.ty "tuple")) (daNil))))) (dAnd (dTest (dBin fGt (dFn fLen (daCons (dVar 1) (daNil))) (dC (.int 0)))) (dAnd (dTest (dBin fGt (dVar 3) (dC (.int 0)))) (dTest (dBin fGt (dCall m__law_draw (daCons (dVar 0) (daCons (dC (.int 5)) (daNil)))) (dC (.int 0))))))) (dSeq (dSet 4 (dCall m__law_draw (daCons (dVar 0) (daCons (dFn fLen (daCons (dVar 1) (daNil))) (daNil))))) (dSeq (dSet 5 (dCall m__law_put__10 (daCons (dVar 0) (daCons (dBin fIx (dVar 1) (dVar 4)) (daCons (dVar 2) (daCons (dBin fSubI (dVar 3) (dC (.int 1))) (daNil))))))) (dRet (dBin fAdd (dBin fAdd (dSl (dVar 1) (dNoPart) (dPart (dVar 4))) (dTup (daCons (dVar 5) (daNil)))) (dSl (dVar 1) (dPart (dBin fAdd (dVar 4) (dC (.int 1)))) (dNoPart)))))) (dsNext)) (dRet (dVar 2)))
@[irreducible] def m__law_put__12 : Fn := dDef 4 6 (dSeq (dIfS (dAnd (dTru (dFn fIsa (daCons (dVar 1) (daCons (dC (.ty "tuple")) (daNil))))) (dAnd (dTest (dBin fGt (dFn fLen (daCons (dVar 1) (daNil))) (dC (.int 0)))) (dAnd (dTest (dBin fGt (dVar 3) (dC (.int 0)))) (dTest (dBin fGt (dCall m__law_draw (daCons (dVar 0) (daCons (dC (.int 5)) (daNil)))) (dC (.int 0))))))) (dSeq (dSet 4 (dCall m__law_draw (daCons (dVar 0) (daCons (dFn fLen (daCons (dVar 1) (daNil))) (daNil))))) (dSeq (dSet 5 (dCall m__law_put__11 (daCons (dVar 0) (daCons (dBin fIx (dVar 1) (dVar 4)) (daCons (dVar 2) (daCons (dBin fSubI (dVar 3) (dC (.int 1))) (daNil))))))) (dRet (dBin fAdd (dBin fAdd (dSl (dVar 1) (dNoPart) (dPart (dVar 4))) (dTup (daCons (dVar 5) (daNil)))) (dSl (dVar 1) (dPart (dBin fAdd (dVar 4) (dC (.int 1)))) (dNoPart)))))) (dsNext)) (dRet (dVar 2)))
@[irreducible] def m__law_wrong : Fn := dDef 2 6 (dSeq (dSet 2 (dCall m__law_draw (daCons (dVar 0) (daCons (dC (.int 4)) (daNil))))) (dSeq (dIfS (dTest (dBin fEq (dVar 2) (dC (.int 0)))) (dRet (dCall m__law_pick (daCons (dVar 0) (daCons (dLst (daCons (dFn fList (daCons (dVar 1) (daNil))) (daCons (dBin fAdd (dVar 1) (dTup (daCons (dC .non) (daNil)))) (daCons (dSl (dVar 1) (dNoPart) (dPart (dUn fNeg (dC (.int 1))))) (daCons (dBin fAdd (dVar 1) (dTup (daCons (dC (.int 1)) (daNil)))) (daCons (dTup (daCons (dVar 1) (daNil))) (daCons (dSl (dVar 1) (dPart (dC (.int 1))) (dNoPart)) (daNil)))))))) (daNil))))) (dsNext)) (dSeq (dIfS (dTest (dBin fEq (dVar 2) (dC (.int 1)))) (dSeq (dSet 3 (dLst (daCons (dC .non) (daCons (dC (.int 5)) (daCons (dC (.str "")) (daCons (dC (.str "Makes")) (daCons (dC (.str "makes ")) (daCons (dTup (daCons (dC (.str "makes")) (daNil))) (daCons (dC (.bl true)) (daCons (dLst (daNil)) (daCons (dEmp) (daCons (dC (.str "made")) (daCons (dC (.str "miss")) (daCons (dC (.str "roots")) (daNil))))))))))))))) (dRet (dBin fAdd (dTup (daCons (dCall m__law_pick (daCons (dVar 0) (daCons (dVar 3) (daNil)))) (daNil))) (dSl (dVar 1) (dPart (dC (.int 1))) (dNoPart))))) (dsNext)) (dSeq (dSet 4 (dCall m__law_pick (daCons (dVar 0) (daCons (dLst (daCons (dC (.bl true)) (daCons (dC .non) (daCons (dC (.str "9")) (daCons (dLst (daNil)) (daCons (dTup (daCons (dC (.int 1)) (daCons (dC (.int 2)) (daCons (dC (.int 3)) (daCons (dC (.int 4)) (daNil)))))) (daCons (dEmp) (daCons (dC (.str "x y")) (daCons (dC (.bl false)) (daCons (dUn fNeg (dC (.int 1))) (daCons (dTup (daCons (dC .non) (daNil))) (daCons (dC (.str "button 1 2")) (daCons (dC (.str "button 0 0 0\n")) (daNil)))))))))))))) (daNil))))) (dSeq (dSet 5 (dBin fAdd (dC (.int 1)) (dCall m__law_draw (daCons (dVar 0) (daCons (dBin fSubI (dFn fLen (daCons (dVar 1) (daNil))) (dC (.int 1))) (daNil)))))) (dRet (dBin fAdd (dBin fAdd (dSl (dVar 1) (dNoPart) (dPart (dVar 5))) (dTup (daCons (dVar 4) (daNil)))) (dSl (dVar 1) (dPart (dBin fAdd (dVar 5) (dC (.int 1)))) (dNoPart)))))))))
@[irreducible] def m__law_right : Fn := dDef 1 8 (dSeq (dFor (diRange1 (daCons (dC (.int 20)) (daNil))) (dgName 1) (dSeq (dAsg (dCall m__law_pick (daCons (dVar 0) (daCons (dCall m__law_good (daCons (dVar 0) (daNil))) (daNil)))) (dgTup 2 (dgCons (dgName 2) (dgCons (dgName 3) (dgNil))))) (dSeq (dIfS (dOr (dTest (dBin (fIs true) (dCall m_accepts (daCons (dVar 2) (daCons (dVar 3) (daNil)))) (dC (.bl true)))) (dTest (dBin (fIs true) (dCallK 0 2 [1, 0] m_accepts daNil (daCons (dVar 3) (daCons (dVar 2) (daNil)))) (dC (.bl true))))) (dRet (dC (.bl false))) (dsNext)) (dSeq (dIfS (dOr (dTest (dBin (fIs true) (dCall m_accepts (daCons (dCall m__law_wrong (daCons (dVar 0) (daCons (dVar 2) (daNil)))) (daCons (dVar 3) (daNil)))) (dC (.bl false)))) (dTest (dBin (fIs true) (dCall m_accepts (daCons (dVar 2) (daCons (dLst (daCons (dVar 3) (daNil))) (daNil)))) (dC (.bl false))))) (dRet (dC (.bl false))) (dsNext)) (dSeq (dSet 4 (dCall m__law_put__12 (daCons (dVar 0) (daCons (dVar 2) (daCons (dCall m__law_odd (daCons (dVar 0) (daNil))) (daCons (dC (.int 2)) (daNil))))))) (dSeq (dSet 5 (dCall m__law_put__12 (daCons (dVar 0) (daCons (dVar 3) (daCons (dCall m__law_odd (daCons (dVar 0) (daNil))) (daCons (dC (.int 5)) (daNil))))))) (dSeq (dIfS (dOr (dTest (dBin (fIs true) (dCall m_accepts (daCons (dVar 4) (daCons (dVar 3) (daNil)))) (dC (.bl false)))) (dTest (dBin (fIs true) (dCall m_accepts (daCons (dVar 2) (daCons (dVar 5) (daNil)))) (dC (.bl false))))) (dRet (dC (.bl false))) (dsNext)) (dSeq (dSet 6 (dCall m__law_pick (daCons (dVar 0) (daCons (dLst (daCons (dC .non) (daCons (dC (.str "a")) (daCons (dLst (daNil)) (daCons (dTup (daCons (dC (.str "a")) (daCons (dC (.str "b")) (daNil)))) (daCons (dC (.str "7")) (daCons (dTup (daCons (dTup (daCons (dC (.int 1)) (daCons (dC (.int 0)) (daCons (dC (.int 0)) (daNil))))) (daNil))) (daNil)))))))) (daNil))))) (dSeq (dIfS (dTest (dBin (fIs true) (dCall m_accepts (daCons (dVar 2) (daCons (dBin fAdd (dVar 3) (dTup (daCons (dVar 6) (daNil)))) (daNil)))) (dC (.bl false)))) (dRet (dC (.bl false))) (dsNext)) (dSeq (dSet 7 (dCall m__law_pick (daCons (dVar 0) (daCons (dLst (daCons (dC .non) (daCons (dC (.bl true)) (daCons (dC (.str "makes")) (daCons (dLst (daNil)) (daCons (dEmp) (daCons (dLst (daCons (dTup (daNil)) (daNil))) (daCons (dTup (daCons (dC (.str "root")) (daNil))) (daCons (dBin fRepT (dTup (daCons (dC .non) (daNil))) (dC (.int 4))) (daCons (dVar 2) (daNil))))))))))) (daNil))))) (dIfS (dOr (dTest (dBin (fIs true) (dCall m_accepts (daCons (dVar 7) (daCons (dVar 7) (daNil)))) (dC (.bl false)))) (dTest (dBin (fIs true) (dCall m_accepts (daCons (dVar 2) (daCons (dVar 7) (daNil)))) (dC (.bl false))))) (dRet (dC (.bl false))) (dsNext)))))))))))) (dRet (dC (.bl true))))
@[irreducible] def m_law : Fn := dDef 1 2 (dRet (dFn fAll (daCons (dLcF finL [1] (diRange1 (daCons (dFn fMax (daCons (dC (.int 2)) (daCons (dFn fMin (daCons (dFn fLen (daCons (dVar 0) (daNil))) (daCons (dC (.int 3)) (daNil)))) (daNil)))) (daNil))) (dgName 1) (dYes) (dCall m__law_right (daCons (dCall m__law_well (daCons (dVar 0) (daCons (dVar 1) (daNil)))) (daNil)))) (daNil))))
end
end A46

set_option Elab.async false
set_option linter.all false
set_option maxRecDepth 100000
set_option maxHeartbeats 1000000
set_option exponentiation.threshold 10000
namespace A46
open PySem PySem.Spec PyProof.Rows L2 Ar
local macro_rules | `(tactic| simp_arith) => `(tactic| simp -implicitDefEqProofs only [↓ok_ok, ↓ok_stk, ↓ok_exc, ↓ok_bind, ↓ok_nox, ↓ok_of, ↓ok_lenO, ↓ok_propO, ↓ok_txtO, ↓ok_clsM, ↓ok_tupRg, ↓ok_lstRg, ↓oko_some, ↓oko_none, ↓oko_ite, ↓oko_map, ↓ok_ite, ↓oks_nx, ↓oks_stk, ↓oks_exc, ↓oks_bk, ↓oks_ct, ↓oks_rt, ↓oks_then, ↓oks_thenN, ↓ok_var0, ↓ok_varS, ↓ok_c, ↓ok_bin, ↓ok_un, ↓okb, ↓ok_test, ↓ok_tru, ↓ok_and, ↓ok_or, ↓ok_not, ↓ok_andV, ↓ok_orV, ↓ok_notV, ↓ok_if, ↓ok_ifT, ↓ok_fld, ↓ok_slt, ↓o_slt0, ↓ok_make, ↓ok_makeS, ↓o_isaC, ↓o_isn_ins, ↓o_is_ins, ↓ok_izip, ↓zipR_ll, ↓zipR_tl, ↓zipR_tt, ↓o_parts, ↓o_shares, ↓o_east, ↓o_north, ↓o_rests, zip2, zip3, ↓ok_nil, ↓ok_cons, ↓ok_star, ↓seqA_tup, ↓seqA_lst, ↓ok_revL, ↓ok_revLM, ↓ok_cmp2, ↓ok_tup, ↓ok_lst, ↓ok_lstM, ↓ok_fn, ↓ok_call, ↓ok_callK, ↓ok_noPart, ↓oki, ↓ok_part, ↓ok_sl, ↓oks_next, ↓oks_seq, ↓oks_drop, ↓oks_ret, ↓oks_retN, ↓oks_break, ↓oks_cont, ↓oks_never, ↓oks_if, ↓oks_try, ↓oks_asg, ↓oks_set, ↓ok_gName, ↓ok_gNil, ↓ok_gCons, ↓ok_gTup, ↓ok_gUnl, ↓ok_gSub, ↓okl2, ↓okl3, ↓oks_par, ↓oks_par3, ↓okv0, ↓okvS, ↓oks_aug, ↓ok_append, ↓ok_extend, ↓seqL_lst, ↓ok_strM, ↓ok_def, ↓ok_iSeq, ↓oki1, ↓oki2, ↓ok_range1, ↓ok_range2, ↓oks_for, ↓ok_lc, ↓ok_finL, ↓ok_finM, ↓ok_yes, ↓setg0, ↓setgS, ↓unsetg0, ↓unsetgS, ↓wipeg0, ↓wipegS, ↓initg0, ↓initgN, ↓initgS, ↓lenis0, ↓lenisS, ↓lenle0, ↓lenleS, ↓seqI_lst, ↓seqIE_lst, ↓seqIE_tup, ↓seqIE_scr, ↓seqI_str, ↓okt, ↓ok_kIx, ↓ok_kGet, ↓ok_revS, ↓okd, ↓ok_dGet, ↓o_mulS, ↓seqI_tup, ↓seqI_scr, ↓o_ne_mv, ↓o_eq_mv, ↓ok_enum, ↓okl1, ↓o_mul_rep, ↓o_mul_iiF, cut_2of3, ↓o_ne_2, ↓o_eq_2, ↓o_ne_bb, ↓o_eq_bb, ↓o_tru_b, ↓o_tru_i, ↓o_tru_t, ↓o_tru_l, ↓o_tru_n, ↓o_isn_non, ↓o_isn_int, ↓o_isn_tup, ↓o_isn_lst, ↓o_isn_str, ↓o_is_non, ↓o_is_int, ↓o_is_tup, ↓o_is_lst, ↓o_is_str, ↓o_eq_ii, ↓o_ne_ii, ↓o_add_ii, ↓o_sub_ii, ↓o_mul_ii, ↓o_div_ii, ↓o_mod_ii, ↓o_lt_ii, ↓o_le_ii, ↓o_gt_ii, ↓o_ge_ii, ↓o_add_tt, ↓o_add_ll, ↓o_add_ss, ↓o_divmod_ii, ↓o_neg_i, ↓o_int_i, ↓o_abs_i, ↓o_max_ii, ↓o_max1_3, ↓o_min1_3, ↓o_min_ii, ↓o_len_tup, ↓o_len_lst, ↓o_len_scr, ↓o_slc_lst, ↓o_slc_scr, ↓o_slc_tup, ↓o_tuple_lst, ↓o_tuple_tup, ↓o_tuple_scr, ↓o_list_tup, ↓o_list_lst, ↓o_bool_b, ↓o_isa_int_int, ↓o_isa_int_bool, ↓o_isa_int_tup, ↓o_isa_int_str, ↓o_isa_int_lst, ↓o_isa_bl_int, ↓o_isa_bl_bool, ↓o_isa_tup_tup, ↓o_isa_tup_int, ↓o_isa_tup_lst, ↓o_isa_tup_str, ↓o_isa_str_str, ↓o_isa_str_int, ↓o_isa_str_tup, ↓o_isa_lst_lst, ↓o_isa_lst_tup, ↓o_isa_lst_int, ↓o_isa_non_int, ↓o_isa_non_tup, ↓o_sum_3, ↓o_all_3, ↓o_atI_0, ↓o_atI_1, ↓o_atI_2, ↓o_atI_3, ↓o_atI_4, ↓o_atI_5, ↓o_ixN_30, ↓o_ixN_31, ↓o_ixN_32, ↓o_fix_tup, ↓o_fix_lst, ↓o_fix_scr, ↓o_pow_6, ↓o_pow_18, pick_0, pick_01, pick_10, pick_012, pick_021, pick_102, pick_120, pick_201, pick_210, eq_self, List.cons_append, List.nil_append, List.append_nil, List.set_set, List.set_cons_zero, List.set_cons_succ, List.length_cons, List.length_nil, Nat.zero_add, Nat.reduceAdd, Nat.reduceLeDiff, castN, natabsN, mulOkL, mulOkR, Bool.true_or, Nat.reducePow, Nat.reduceLT, ne_eq, not_true_eq_false, not_false_eq_true, rng_3, rng_2, Int.reduceEq, Int.reduceLT, Int.reduceLE, Int.reduceAdd, Int.reduceSub, Int.reduceMul, Int.reduceNeg, true_and, and_true, if_true, if_false, Bool.false_eq_true, Bool.true_eq_false, decide_true, decide_false, Bool.not_true, Bool.not_false, Bool.and_true, Bool.true_and, Bool.and_false, Bool.false_and])
local macro_rules | `(tactic| simp_arith [$ts,*]) => `(tactic| simp -implicitDefEqProofs only [↓ok_ok, ↓ok_stk, ↓ok_exc, ↓ok_bind, ↓ok_nox, ↓ok_of, ↓ok_lenO, ↓ok_propO, ↓ok_txtO, ↓ok_clsM, ↓ok_tupRg, ↓ok_lstRg, ↓oko_some, ↓oko_none, ↓oko_ite, ↓oko_map, ↓ok_ite, ↓oks_nx, ↓oks_stk, ↓oks_exc, ↓oks_bk, ↓oks_ct, ↓oks_rt, ↓oks_then, ↓oks_thenN, ↓ok_var0, ↓ok_varS, ↓ok_c, ↓ok_bin, ↓ok_un, ↓okb, ↓ok_test, ↓ok_tru, ↓ok_and, ↓ok_or, ↓ok_not, ↓ok_andV, ↓ok_orV, ↓ok_notV, ↓ok_if, ↓ok_ifT, ↓ok_fld, ↓ok_slt, ↓o_slt0, ↓ok_make, ↓ok_makeS, ↓o_isaC, ↓o_isn_ins, ↓o_is_ins, ↓ok_izip, ↓zipR_ll, ↓zipR_tl, ↓zipR_tt, ↓o_parts, ↓o_shares, ↓o_east, ↓o_north, ↓o_rests, zip2, zip3, ↓ok_nil, ↓ok_cons, ↓ok_star, ↓seqA_tup, ↓seqA_lst, ↓ok_revL, ↓ok_revLM, ↓ok_cmp2, ↓ok_tup, ↓ok_lst, ↓ok_lstM, ↓ok_fn, ↓ok_call, ↓ok_callK, ↓ok_noPart, ↓oki, ↓ok_part, ↓ok_sl, ↓oks_next, ↓oks_seq, ↓oks_drop, ↓oks_ret, ↓oks_retN, ↓oks_break, ↓oks_cont, ↓oks_never, ↓oks_if, ↓oks_try, ↓oks_asg, ↓oks_set, ↓ok_gName, ↓ok_gNil, ↓ok_gCons, ↓ok_gTup, ↓ok_gUnl, ↓ok_gSub, ↓okl2, ↓okl3, ↓oks_par, ↓oks_par3, ↓okv0, ↓okvS, ↓oks_aug, ↓ok_append, ↓ok_extend, ↓seqL_lst, ↓ok_strM, ↓ok_def, ↓ok_iSeq, ↓oki1, ↓oki2, ↓ok_range1, ↓ok_range2, ↓oks_for, ↓ok_lc, ↓ok_finL, ↓ok_finM, ↓ok_yes, ↓setg0, ↓setgS, ↓unsetg0, ↓unsetgS, ↓wipeg0, ↓wipegS, ↓initg0, ↓initgN, ↓initgS, ↓lenis0, ↓lenisS, ↓lenle0, ↓lenleS, ↓seqI_lst, ↓seqIE_lst, ↓seqIE_tup, ↓seqIE_scr, ↓seqI_str, ↓okt, ↓ok_kIx, ↓ok_kGet, ↓ok_revS, ↓okd, ↓ok_dGet, ↓o_mulS, ↓seqI_tup, ↓seqI_scr, ↓o_ne_mv, ↓o_eq_mv, ↓ok_enum, ↓okl1, ↓o_mul_rep, ↓o_mul_iiF, cut_2of3, ↓o_ne_2, ↓o_eq_2, ↓o_ne_bb, ↓o_eq_bb, ↓o_tru_b, ↓o_tru_i, ↓o_tru_t, ↓o_tru_l, ↓o_tru_n, ↓o_isn_non, ↓o_isn_int, ↓o_isn_tup, ↓o_isn_lst, ↓o_isn_str, ↓o_is_non, ↓o_is_int, ↓o_is_tup, ↓o_is_lst, ↓o_is_str, ↓o_eq_ii, ↓o_ne_ii, ↓o_add_ii, ↓o_sub_ii, ↓o_mul_ii, ↓o_div_ii, ↓o_mod_ii, ↓o_lt_ii, ↓o_le_ii, ↓o_gt_ii, ↓o_ge_ii, ↓o_add_tt, ↓o_add_ll, ↓o_add_ss, ↓o_divmod_ii, ↓o_neg_i, ↓o_int_i, ↓o_abs_i, ↓o_max_ii, ↓o_max1_3, ↓o_min1_3, ↓o_min_ii, ↓o_len_tup, ↓o_len_lst, ↓o_len_scr, ↓o_slc_lst, ↓o_slc_scr, ↓o_slc_tup, ↓o_tuple_lst, ↓o_tuple_tup, ↓o_tuple_scr, ↓o_list_tup, ↓o_list_lst, ↓o_bool_b, ↓o_isa_int_int, ↓o_isa_int_bool, ↓o_isa_int_tup, ↓o_isa_int_str, ↓o_isa_int_lst, ↓o_isa_bl_int, ↓o_isa_bl_bool, ↓o_isa_tup_tup, ↓o_isa_tup_int, ↓o_isa_tup_lst, ↓o_isa_tup_str, ↓o_isa_str_str, ↓o_isa_str_int, ↓o_isa_str_tup, ↓o_isa_lst_lst, ↓o_isa_lst_tup, ↓o_isa_lst_int, ↓o_isa_non_int, ↓o_isa_non_tup, ↓o_sum_3, ↓o_all_3, ↓o_atI_0, ↓o_atI_1, ↓o_atI_2, ↓o_atI_3, ↓o_atI_4, ↓o_atI_5, ↓o_ixN_30, ↓o_ixN_31, ↓o_ixN_32, ↓o_fix_tup, ↓o_fix_lst, ↓o_fix_scr, ↓o_pow_6, ↓o_pow_18, pick_0, pick_01, pick_10, pick_012, pick_021, pick_102, pick_120, pick_201, pick_210, eq_self, List.cons_append, List.nil_append, List.append_nil, List.set_set, List.set_cons_zero, List.set_cons_succ, List.length_cons, List.length_nil, Nat.zero_add, Nat.reduceAdd, Nat.reduceLeDiff, castN, natabsN, mulOkL, mulOkR, Bool.true_or, Nat.reducePow, Nat.reduceLT, ne_eq, not_true_eq_false, not_false_eq_true, rng_3, rng_2, Int.reduceEq, Int.reduceLT, Int.reduceLE, Int.reduceAdd, Int.reduceSub, Int.reduceMul, Int.reduceNeg, true_and, and_true, if_true, if_false, Bool.false_eq_true, Bool.true_eq_false, decide_true, decide_false, Bool.not_true, Bool.not_false, Bool.and_true, Bool.true_and, Bool.and_false, Bool.false_and, $ts,*])
/-! ### rows -/
abbrev mw (m : FM.Mv) : D := .tup [.int m.x, .int m.y, .int m.s]
structure Rw where
  p : List Int
  sh : List Int
abbrev iL (l : List Int) : List D := l.map D.int
def addL (c : Int) (a b : List Int) : List Int := List.zipWith (fun x y => x + c * y) a b
def addR (r o : Rw) (c : Int) : Rw := ⟨addL c r.p o.p, addL c r.sh o.sh⟩
/-! ### rows as vectors -/
theorem addL_len {c : Int} {a b : List Int} (h : a.length = b.length) : (addL c a b).length = a.length := by simp [addL, h]
theorem addL_mem {c : Int} : ∀ {a b : List Int} {x : Int}, x ∈ addL c a b → ∃ u ∈ a, ∃ v ∈ b, x = u + c * v
  | [], _, x, h => by simp [addL] at h
  | _ :: _, [], x, h => by simp [addL] at h
  | a :: as, b :: bs, x, h => by
    simp only [addL, List.zipWith_cons_cons, List.mem_cons] at h
    rcases h with rfl | h
    · exact ⟨a, by simp, b, by simp, rfl⟩
    · obtain ⟨u, hu, v, hv, e⟩ := addL_mem (c := c) (a := as) (b := bs) h
      exact ⟨u, by simp [hu], v, by simp [hv], e⟩
def Wf (n k : Nat) (r : Rw) : Prop := r.p.length = n ∧ r.sh.length = k
theorem Wf.add {n k : Nat} {r o : Rw} {c : Int} (h : Wf n k r) (h' : Wf n k o) : Wf n k (addR r o c) := ⟨(addL_len (h.1.trans h'.1.symm)).trans h.1, (addL_len (h.2.trans h'.2.symm)).trans h.2⟩
def BdN (M : Nat) (r : Rw) : Prop := ∀ x, (x ∈ r.p ∨ x ∈ r.sh) → x.natAbs ≤ M
theorem BdN.mono {M N : Nat} {r : Rw} (h : BdN M r) (l : M ≤ N) : BdN N r := fun x hx => Nat.le_trans (h x hx) l
theorem natAbs_add_mul (u c v : Int) {M N : Nat} (h : u.natAbs ≤ M) (h' : v.natAbs ≤ N) : (u + c * v).natAbs ≤ M + c.natAbs * N := by
  have h1 := Int.natAbs_add_le u (c * v)
  rw [Int.natAbs_mul] at h1
  have h2 := Nat.mul_le_mul_left c.natAbs h'
  omega
theorem BdN.add {M N : Nat} {r o : Rw} {c : Int} (h : BdN M r) (h' : BdN N o) : BdN (M + c.natAbs * N) (addR r o c) := by
  rintro x (hx | hx)
  · obtain ⟨u, hu, v, hv, rfl⟩ := addL_mem hx
    exact natAbs_add_mul _ _ _ (h u (.inl hu)) (h' v (.inl hv))
  · obtain ⟨u, hu, v, hv, rfl⟩ := addL_mem hx
    exact natAbs_add_mul _ _ _ (h u (.inr hu)) (h' v (.inr hv))
theorem dg_le {W e : Nat} {x : Int} (h : x.natAbs ≤ W) (hw : W < 16 ^ e) : Dg e x := Nat.lt_of_le_of_lt h hw
/-! ### led -/
/-! ### the shape -/
theorem enum_cons {o : Nat} {d : D} {ds : List D} : enumD o (d :: ds) = .tup [.int (o : Nat), d] :: enumD (o + 1) ds := rfl
/-! ### presses -/
def sv (l : List Int) : FM.Vc := fun j => l.getD j 0
structure Dm2 (a b : Nat) (m : FM.Mv) : Prop where
  x : Dg a m.x
  y : Dg a m.y
  s : Dg b m.s
theorem Dm2.mono {a b c d : Nat} {m : FM.Mv} (h : Dm2 a b m) (h1 : a ≤ c) (h2 : b ≤ d) : Dm2 c d m := ⟨h.x.mono h1, h.y.mono h1, h.s.mono h2⟩
theorem Dm2.pow {a b M : Nat} {m : FM.Mv} {n : Int} (h : Dm2 a b m) (hn : Dg M n) (hM : 1 ≤ M) : Dm2 (M + a) (max (M + b) (M + (M + 1) + a + a) + 1) (FM.pow m n) := by
  have h1 : Dg (M + 1) (n - 1) := (hn.sub (Dg.lit (by decide) (by decide) : Dg 1 (1 : Int))).mono (by omega)
  exact ⟨hn.mul h.x, hn.mul h.y, (hn.mul h.s).add (((hn.mul h1).half.mul h.x).mul h.y)⟩
theorem Dm2.mul {a b c d : Nat} {m k : FM.Mv} (h : Dm2 a b m) (h' : Dm2 c d k) : Dm2 (max a c + 1) (max (max b d + 1) (a + c) + 1) (FM.mul m k) := ⟨h.x.add h'.x, h.y.add h'.y, (h.s.add h'.s).add (h.x.mul h'.y)⟩
theorem pow_spec {m : FM.Mv} {n : Int} {μ : Mu} {Q : D → Mu → Prop} {a b M : Nat} (h : Dm2 a b m) (hn : Dg M n) (ha : a ≤ 15000) (hb : b ≤ 15000) (hM : M ≤ 15000) (h1 : 1 ≤ M) (q : Q (mw (FM.pow m n)) μ) : Ok (m_often_move [mw m, .int n] μ) Q := by
  have d1 : Dg (M + 1) (n - 1) := (hn.sub (Dg.lit (by decide) (by decide) : Dg 1 (1 : Int))).mono (by omega)
  have d2 := (hn.mul d1).half
  unfold m_often_move
  simp_arith
  exact ⟨hn.ok h.x (by omega) (by omega), hn.ok h.y (by omega) (by omega), hn.ok h.s (by omega) (by omega), hn.ok d1 (by omega) (by omega), by decide, d2.ok h.x (by omega) (by omega), (d2.mul h.x).ok h.y (by omega) (by omega), q⟩
theorem mul_spec {m k : FM.Mv} {μ : Mu} {Q : D → Mu → Prop} {a b : Nat} (h : Dg a m.x) (h' : Dg b k.y) (ha : a ≤ 50000) (hb : b ≤ 50000) (q : Q (mw (FM.mul m k)) μ) : Ok (m_then_move [mw m, mw k] μ) Q := by
  unfold m_then_move
  simp_arith
  exact ⟨h.ok h' ha hb, q⟩
/-! ### combined, as in law k21 (greater numbers) -/
/-! ### pairs, areas -/
/-! ### the step -/
theorem Dg.gcd {a b : Nat} {e : Nat} (ha : Dg e (a : Int)) (hb : Dg e (b : Int)) : Dg e ((Nat.gcd a b : Nat) : Int) := by
  by_cases h : a = 0
  · subst h
    rw [Nat.gcd_zero_left]; exact hb
  · have := Nat.gcd_le_left b (Nat.pos_of_ne_zero h)
    exact Nat.lt_of_le_of_lt (show ((Nat.gcd a b : Nat) : Int).natAbs ≤ (a : Int).natAbs by omega) ha
theorem app_get {μ ν : Mu} {j : Nat} {o : MO} (h : μ[j]? = some o) : (μ ++ ν)[j]? = some o := by
  rw [List.getElem?_append_left (List.getElem?_eq_some_iff.mp h).1]; exact h
/-! ### forms -/
def optM : Option FM.Mv → D
  | none => .tup []
  | some m => mw m
abbrev formD (e n : Option FM.Mv) (g : Nat) : D := .tup [optM e, optM n, .int (g : Int)]
structure FormOk (ms : List FM.Mv) (e n : Option FM.Mv) (g : Nat) : Prop where
  gen : ∀ m, FM.Gen ms m ↔ ∃ a b, m.x = (FM.led e n a b).x ∧ m.y = (FM.led e n a b).y ∧ (g : Int) ∣ m.s - (FM.led e n a b).s
  eo : ∀ m, e = some m → 0 < m.x ∧ (g ≠ 0 → 0 ≤ m.s ∧ m.s < g) ∧ Dm2 1201 2600 m ∧ m.x.natAbs ≤ 16 ^ 25
  no : ∀ m, n = some m → m.x = 0 ∧ 0 < m.y ∧ (g ≠ 0 → 0 ≤ m.s ∧ m.s < g) ∧ Dm2 1201 2600 m ∧ m.y.natAbs ≤ 16 ^ 155
  eno : ∀ m k, e = some m → n = some k → 0 ≤ m.y ∧ m.y < k.y
  dg : Dg 1985 (g : Int)
theorem o_eq_tn {μ : Mu} {a b c : Int} {P : D → Prop} : OkO (fEq μ (.tup [.int a, .int b, .int c]) (.tup [])) P = P (.bl false) := id rfl
theorem o_eq_nn {μ : Mu} {P : D → Prop} : OkO (fEq μ (.tup []) (.tup [])) P = P (.bl true) := id rfl
theorem rest_spec {s : Int} {g : Nat} {μ : Mu} {Q : D → Mu → Prop} (q : Q (.int (if g = 0 then s else s.fmod g)) μ) : Ok (m_rest_of [.int s, .int (g : Int)] μ) Q := by
  unfold m_rest_of
  simp_arith
  by_cases h : g = 0
  · subst h
    rw [if_pos rfl] at q
    rw [if_pos (show decide (((0 : Nat) : Int) = 0) = true from rfl)]
    exact q
  · rw [if_neg h] at q
    rw [if_neg (by simpa using (show ¬ (g : Int) = 0 by omega))]
    exact ⟨by omega, q⟩
/-- buttons: one to five, each of at most 10 ** 30 either way -/
structure Btn (ms : List FM.Mv) : Prop where
  ne : ms ≠ []
  le : ms.length ≤ 5
  b : ∀ m ∈ ms, m.x.natAbs ≤ 10 ^ 30 ∧ m.y.natAbs ≤ 10 ^ 30 ∧ m.s.natAbs ≤ 10 ^ 30
theorem p30 : (10 : Nat) ^ 30 < 16 ^ 25 := by decide
theorem Btn.dm {ms : List FM.Mv} (h : Btn ms) : ∀ m ∈ ms, Dm2 25 25 m := fun m hm => ⟨dg_le (h.b m hm).1 p30, dg_le (h.b m hm).2.1 p30, dg_le (h.b m hm).2.2 p30⟩
/-! ### what a form tells -/
theorem fdiv_of {x E : Int} (h0 : 0 < E) (h : x.fmod E = 0) : x.fdiv E * E = x := by
  have := Int.fdiv_mul_add_fmod x E
  omega
theorem fmod_of {x E a : Int} (h0 : 0 < E) (h : x = a * E) : x.fmod E = 0 := by
  rw [h, Int.fmod_eq_emod_of_nonneg _ (by omega), Int.mul_emod_left]
theorem fdiv_mul {a E : Int} (h0 : 0 < E) : (a * E).fdiv E = a := by
  rw [Int.fdiv_eq_ediv_of_nonneg _ (by omega), Int.mul_ediv_cancel _ (by omega)]
/-- the shares that come to the steps of a move, if any; then how far the area is off -/
structure ShRes (e n : Option FM.Mv) (x y : Int) (r : Option (Int × Int)) : Prop where
  so : ∀ a b, r = some (a, b) → x = (FM.led e n a b).x ∧ y = (FM.led e n a b).y ∧ (∀ a' b', x = (FM.led e n a' b').x → y = (FM.led e n a' b').y → FM.led e n a' b' = FM.led e n a b)
  no : r = none → ∀ a b, ¬ (x = (FM.led e n a b).x ∧ y = (FM.led e n a b).y)
def shrD : Option (Int × Int) → D
  | none => .non
  | some p => .tup [.int p.1, .int p.2]
theorem led_nn {a b : Int} : FM.led none none a b = FM.one := by simp [FM.led, FM.pow, FM.mul, FM.one]
theorem led_en {m : FM.Mv} {a b : Int} : FM.led (some m) none a b = FM.pow m a := by
  refine FM.Mv.ext' ?_ ?_ ?_ <;> simp [FM.led, FM.pow, FM.mul, FM.one]
theorem led_ne {m : FM.Mv} {a b : Int} : FM.led none (some m) a b = FM.pow m b := by
  refine FM.Mv.ext' ?_ ?_ ?_ <;> simp [FM.led, FM.pow, FM.mul, FM.one]
theorem shares_spec {ms : List FM.Mv} {e n : Option FM.Mv} {g c : Nat} {x y : Int} {μ : Mu} {Q : D → Mu → Prop} (f : FormOk ms e n g) (hx : Dg c x) (hy : Dg c y) (hc : c ≤ 5000)
    (q : ∀ r, ShRes e n x y r → (∀ a b, r = some (a, b) → Dg c a ∧ Dg (c + 1202) b) → Q (shrD r) μ) : Ok (m_shares_of [formD e n g, .int x, .int y] μ) Q := by
  have z1 : ∀ k : Nat, Dg k (0 : Int) := fun k => by unfold Dg; exact Nat.pow_pos (by decide)
  unfold m_shares_of
  cases e with
  | none =>
    cases n with
    | none =>
      simp_arith [optM, ↓o_eq_nn]
      by_cases h : x = 0
      · subst h
        try simp_arith
        by_cases h2 : y = 0
        · subst h2
          have := q (some (0, 0)) ⟨fun a b h => ⟨by rw [led_nn]; rfl, by rw [led_nn]; rfl, fun _ _ _ _ => by rw [led_nn, led_nn]⟩, fun h => by cases h⟩ fun a b h => by cases h; exact ⟨z1 _, z1 _⟩
          try simp_arith
          exact this
        · have d : decide (y = 0) = false := decide_eq_false h2
          simp_arith [d]
          refine q none ⟨fun a b h => (by cases h), fun _ a b h => ?_⟩ fun a b h => by cases h
          rw [led_nn] at h
          exact h2 h.2
      · have d : decide (x = 0) = false := decide_eq_false h
        simp_arith [d]
        refine q none ⟨fun a b h => (by cases h), fun _ a b h' => ?_⟩ fun a b h => by cases h
        rw [led_nn] at h'
        exact h h'.1
    | some k =>
      obtain ⟨k1, k2, k3, k4, k5⟩ := f.no k rfl
      simp_arith [optM, ↓o_eq_nn, ↓o_eq_tn]
      by_cases h : x = 0
      · subst h
        have fk := fdOk_dg (k4.y) (by decide) (show k.y ≠ 0 by omega)
        try simp_arith
        refine ⟨by omega, ?_⟩
        by_cases h2 : y.fmod k.y = 0
        · have d2 : decide (y.fmod k.y = 0) = true := decide_eq_true h2
          simp_arith [d2]
          have e1 := fdiv_of k2 h2
          refine ⟨fk, q (some (0, y.fdiv k.y)) ⟨fun a b h => ?_, fun h => by cases h⟩ fun a b h => by cases h; exact ⟨z1 _, (hy.fdiv k2).mono (by omega)⟩⟩
          cases h
          refine ⟨by rw [led_ne]; simp [FM.pow, k1], by rw [led_ne]; simp [FM.pow, e1], fun a' b' ha hb => ?_⟩
          rw [led_ne] at ha hb
          rw [led_ne, led_ne]
          have : b' = y.fdiv k.y := by rw [hb]; exact (fdiv_mul k2).symm
          rw [this]
        · have d2 : decide (y.fmod k.y = 0) = false := decide_eq_false h2
          simp_arith [d2]
          refine q none ⟨fun a b h => (by cases h), fun _ a b h => ?_⟩ fun a b h => by cases h
          rw [led_ne] at h
          exact h2 (fmod_of k2 h.2)
      · have d : decide (x = 0) = false := decide_eq_false h
        simp_arith [d]
        refine q none ⟨fun a b h => (by cases h), fun _ a b h' => ?_⟩ fun a b h => by cases h
        rw [led_ne] at h'
        exact h (h'.1.trans (by simp [FM.pow, k1]))
  | some m =>
    obtain ⟨m1, m2, m3, m4⟩ := f.eo m rfl
    have fm := fdOk_dg (dg_le m4 (show 16 ^ 25 < 16 ^ 26 by decide)) (by decide) (show m.x ≠ 0 by omega)
    cases n with
    | none =>
      simp_arith [optM, ↓o_eq_nn, ↓o_eq_tn]
      refine ⟨by omega, ?_⟩
      by_cases h : x.fmod m.x = 0
      · have d1 : decide (x.fmod m.x = 0) = true := decide_eq_true h
        simp_arith [d1]
        have e1 := fdiv_of m1 h
        have da := hx.fdiv m1
        refine ⟨fm, da.ok m3.y (by omega) (by decide), ?_⟩
        by_cases h2 : y - x.fdiv m.x * m.y = 0
        · have d2 : decide (y - x.fdiv m.x * m.y = 0) = true := decide_eq_true h2
          simp_arith [d2]
          refine q (some (x.fdiv m.x, 0)) ⟨fun a b h => ?_, fun h => by cases h⟩ fun a b h => by cases h; exact ⟨da, z1 _⟩
          cases h
          refine ⟨by rw [led_en]; simp [FM.pow, e1], by rw [led_en]; simp only [FM.pow]; omega, fun a' b' ha hb => ?_⟩
          rw [led_en] at ha hb
          rw [led_en, led_en]
          have : a' = x.fdiv m.x := by rw [ha]; exact (fdiv_mul m1).symm
          rw [this]
        · have d2 : decide (y - x.fdiv m.x * m.y = 0) = false := decide_eq_false h2
          simp_arith [d2]
          refine q none ⟨fun a b h => (by cases h), fun _ a b h => ?_⟩ fun a b h => by cases h
          rw [led_en] at h
          have e2 : x.fdiv m.x = a := by rw [h.1]; exact fdiv_mul m1
          rw [e2] at h2
          have := h.2
          simp only [FM.pow] at this
          omega
      · have d1 : decide (x.fmod m.x = 0) = false := decide_eq_false h
        simp_arith [d1]
        refine q none ⟨fun a b h => (by cases h), fun _ a b h' => ?_⟩ fun a b h => by cases h
        rw [led_en] at h'
        exact h (fmod_of m1 h'.1)
    | some k =>
      obtain ⟨k1, k2, k3, k4, k5⟩ := f.no k rfl
      have fk := fdOk_dg (k4.y) (by decide) (show k.y ≠ 0 by omega)
      have lx : ∀ a b, (FM.led (some m) (some k) a b).x = a * m.x := fun a b => by simp [FM.led, FM.mul, FM.pow, k1]
      have ly : ∀ a b, (FM.led (some m) (some k) a b).y = a * m.y + b * k.y := fun a b => by simp [FM.led, FM.mul, FM.pow]
      simp_arith [optM, ↓o_eq_nn, ↓o_eq_tn]
      refine ⟨by omega, ?_⟩
      by_cases h : x.fmod m.x = 0
      · have d1 : decide (x.fmod m.x = 0) = true := decide_eq_true h
        simp_arith [d1]
        have e1 := fdiv_of m1 h
        have da := hx.fdiv m1
        have db : Dg (c + 1202) (y - x.fdiv m.x * m.y) := (hy.sub (da.mul m3.y)).mono (by omega)
        refine ⟨fm, da.ok m3.y (by omega) (by decide), by omega, ?_⟩
        by_cases h2 : (y - x.fdiv m.x * m.y).fmod k.y = 0
        · have d2 : decide ((y - x.fdiv m.x * m.y).fmod k.y = 0) = true := decide_eq_true h2
          simp_arith [d2]
          have e2 := fdiv_of k2 h2
          refine ⟨fk, q (some (x.fdiv m.x, (y - x.fdiv m.x * m.y).fdiv k.y)) ⟨fun a b h => ?_, fun h => by cases h⟩ fun a b h => by cases h; exact ⟨da, db.fdiv k2⟩⟩
          cases h
          refine ⟨by rw [lx]; exact e1.symm, by rw [ly, e2]; omega, fun a' b' ha hb => ?_⟩
          rw [lx] at ha
          rw [ly] at hb
          have a1 : a' = x.fdiv m.x := by rw [ha]; exact (fdiv_mul m1).symm
          have b1 : b' = (y - x.fdiv m.x * m.y).fdiv k.y := by
            rw [← a1, hb, show a' * m.y + b' * k.y - a' * m.y = b' * k.y by omega]
            exact (fdiv_mul k2).symm
          rw [← a1, b1, ← a1]
        · have d2 : decide ((y - x.fdiv m.x * m.y).fmod k.y = 0) = false := decide_eq_false h2
          simp_arith [d2]
          refine q none ⟨fun a b h => (by cases h), fun _ a b h => ?_⟩ fun a b h => by cases h
          rw [lx, ly] at h
          have e2 : x.fdiv m.x = a := by rw [h.1]; exact fdiv_mul m1
          rw [e2] at h2
          exact h2 (fmod_of k2 (show y - a * m.y = b * k.y by omega))
      · have d1 : decide (x.fmod m.x = 0) = false := decide_eq_false h
        simp_arith [d1]
        refine q none ⟨fun a b h => (by cases h), fun _ a b h' => ?_⟩ fun a b h => by cases h
        rw [lx] at h'
        exact h (fmod_of m1 h'.1)
theorem ledto_spec {ms : List FM.Mv} {e n : Option FM.Mv} {g c d : Nat} {a b : Int} {μ : Mu} {Q : D → Mu → Prop} (f : FormOk ms e n g) (ha : Dg c a) (hb : Dg d b) (hc : 1 ≤ c) (hd : 1 ≤ d) (hc2 : c ≤ 10000) (hd2 : d ≤ 10000) (q : Q (mw (FM.led e n a b)) μ) : Ok (m_led_to [formD e n g, .tup [.int a, .int b]] μ) Q := by
  unfold m_led_to
  cases e with
  | none =>
    cases n with
    | none =>
      simp_arith [optM, ↓o_eq_nn]
      rw [led_nn] at q
      exact q
    | some k =>
      simp_arith [optM, ↓o_eq_nn, ↓o_eq_tn]
      refine pow_spec (f.no k rfl).2.2.2.1 hb (by decide) (by decide) (by omega) hd ?_
      refine mul_spec (m := FM.one) (a := 1) (Dg.lit (by decide) (by decide)) (hb.mul (f.no k rfl).2.2.2.1.y) (by decide) (by omega) ?_
      rw [FM.one_mul]
      rw [led_ne] at q
      try simp_arith
      exact q
  | some m =>
    have hm := (f.eo m rfl).2.2.1
    cases n with
    | none =>
      simp_arith [optM, ↓o_eq_nn, ↓o_eq_tn]
      refine pow_spec hm ha (by decide) (by decide) (by omega) hc ?_
      rw [led_en] at q
      try simp_arith [↓o_eq_nn, ↓o_eq_tn]
      exact q
    | some k =>
      have hk := (f.no k rfl).2.2.2.1
      simp_arith [optM, ↓o_eq_nn, ↓o_eq_tn]
      refine pow_spec hm ha (by decide) (by decide) (by omega) hc ?_
      try simp_arith [↓o_eq_nn, ↓o_eq_tn]
      refine pow_spec hk hb (by decide) (by decide) (by omega) hd (mul_spec (ha.mul hm.x) (hb.mul hk.y) (by omega) (by omega) ?_)
      try simp_arith
      exact q
theorem tells_spec {ms : List FM.Mv} {e n : Option FM.Mv} {g c : Nat} {m : FM.Mv} {μ : Mu} {Q : D → Mu → Prop} (f : FormOk ms e n g) (hx : Dg c m.x) (hy : Dg c m.y) (hc : c ≤ 5000) (h1 : 1 ≤ c)
    (q : ∀ b : Bool, (b = true ↔ FM.Gen ms m) → Q (.bl b) μ) : Ok (m_tells [formD e n g, mw m] μ) Q := by
  unfold m_tells
  simp_arith
  refine shares_spec f hx hy hc fun r hr hd => ?_
  cases r with
  | none =>
    simp_arith [shrD]
    refine q false ⟨fun h => (by cases h), fun h => ?_⟩
    obtain ⟨a, b, h1, h2, _⟩ := (f.gen m).mp h
    exact absurd ⟨h1, h2⟩ (hr.no rfl a b)
  | some p =>
    obtain ⟨a, b⟩ := p
    obtain ⟨da, db⟩ := hd a b rfl
    simp_arith [shrD]
    refine ledto_spec f da db h1 (by omega) (by omega) (by omega) ?_
    simp_arith
    refine rest_spec ?_
    try simp_arith
    refine q _ ?_
    obtain ⟨r1, r2, r3⟩ := hr.so a b rfl
    rw [decide_eq_true_iff, f.gen m]
    constructor
    · intro h
      refine ⟨a, b, r1, r2, ?_⟩
      by_cases hg : g = 0
      · rw [if_pos hg] at h
        rw [h]
        exact ⟨0, by simp⟩
      · rw [if_neg hg] at h
        exact Int.dvd_of_fmod_eq_zero h
    · rintro ⟨a', b', h1, h2, h3⟩
      rw [r3 a' b' h1 h2] at h3
      by_cases hg : g = 0
      · rw [if_pos hg]
        subst hg
        obtain ⟨k, hk⟩ := h3
        simp at hk
        omega
      · rw [if_neg hg]
        exact Int.fmod_eq_zero_of_dvd h3
/-! ### lots -/
abbrev lotD (ms : List FM.Mv) : D := .slt "Lot" [.tup (ms.map mw)]
theorem isnum_spec {i : Int} {μ : Mu} {Q : D → Mu → Prop} (q : Q (.bl true) μ) : Ok (m_is_integer [.int i] μ) Q := by
  unfold m_is_integer
  simp_arith
  exact q
theorem ismv_spec {t : FM.Mv} {μ : Mu} {Q : D → Mu → Prop} (q : Q (.bl true) μ) : Ok (m_is_move [mw t] μ) Q := by
  unfold m_is_move
  simp_arith [↓ok_lcConsY, ↓ok_lcNil]
  refine isnum_spec ?_
  refine isnum_spec ?_
  refine isnum_spec ?_
  simp_arith
  exact q
theorem isbutton_spec {t : FM.Mv} {μ : Mu} {Q : D → Mu → Prop} (h : t.x.natAbs ≤ 10 ^ 30 ∧ t.y.natAbs ≤ 10 ^ 30 ∧ t.s.natAbs ≤ 10 ^ 30) (q : Q (.bl true) μ) : Ok (m_is_button [mw t] μ) Q := by
  have hx : ∀ x : Int, x.natAbs ≤ 10 ^ 30 → decide ((if x < 0 then -x else x) ≤ 1000000000000000000000000000000) = true := fun x hx => decide_eq_true (by split <;> omega)
  unfold m_is_button
  simp_arith
  refine ismv_spec ?_
  simp_arith [↓ok_lcConsY, ↓ok_lcNil, hx _ h.1, hx _ h.2.1, hx _ h.2.2]
  exact q
theorem wrong_loop {g0 : Option D} : ∀ (ms : List FM.Mv) (o : Nat) {x1 x2 : Option D} {μ : Mu} {N B C : Gam → Mu → Prop} {T : D → Mu → Prop}, o + ms.length ≤ 5 → (∀ m ∈ ms, m.x.natAbs ≤ 10 ^ 30 ∧ m.y.natAbs ≤ 10 ^ 30 ∧ m.s.natAbs ≤ 10 ^ 30) → (∀ x1 x2, N [g0, x1, x2] μ) →
    OkS (forL (dgTup 2 (dgCons (dgName 1) (dgCons (dgName 2) (dgNil)))) (dIfS (dOr (dTest (dBin fEq (dVar 1) (dC (.int 5)))) (dNot (dTru (dCall m_is_button (daCons (dVar 2) (daNil)))))) (dRet (dVar 1)) (dsNext)) (enumD o (ms.map mw)) [g0, x1, x2] μ) N B C T
  | [], _, x1, x2, μ, N, B, C, T, _, _, q => q x1 x2
  | m :: ms, o, x1, x2, μ, N, B, C, T, hl, hb, q => by
    rw [List.map_cons, enum_cons, oks_forCons]
    simp only [List.length_cons] at hl
    have d : decide ((o : Int) = 5) = false := decide_eq_false (by omega)
    simp_arith [d]
    refine isbutton_spec (hb m (by simp)) ?_
    try simp_arith
    exact wrong_loop ms (o + 1) (by omega) (fun m hm => hb m (by simp [hm])) q
theorem wrong_spec {ms : List FM.Mv} {μ : Mu} {Q : D → Mu → Prop} (h : Btn ms) (q : Q .non μ) : Ok (m_wrong_button [.tup (ms.map mw)] μ) Q := by
  have hl : 0 < ms.length := List.length_pos_iff.mpr h.ne
  unfold m_wrong_button
  simp_arith [List.length_map]
  have d : decide ((ms.length : Int) = 0) = false := decide_eq_false (by omega)
  simp_arith [d]
  refine wrong_loop ms 0 (by have := h.le; omega) h.b fun x1 x2 => ?_
  try simp_arith
  exact q
end A46

set_option Elab.async false
set_option linter.all false
set_option maxRecDepth 100000
set_option maxHeartbeats 1000000
set_option exponentiation.threshold 10000
namespace A46
open PySem PySem.Spec PyProof.Rows L2 Ar TL
local macro_rules | `(tactic| simp_arith) => `(tactic| simp -implicitDefEqProofs only [↓ok_ok, ↓ok_stk, ↓ok_exc, ↓ok_bind, ↓ok_nox, ↓ok_of, ↓ok_lenO, ↓ok_propO, ↓ok_txtO, ↓ok_clsM, ↓ok_tupRg, ↓ok_lstRg, ↓oko_some, ↓oko_none, ↓oko_ite, ↓oko_map, ↓ok_ite, ↓oks_nx, ↓oks_stk, ↓oks_exc, ↓oks_bk, ↓oks_ct, ↓oks_rt, ↓oks_then, ↓oks_thenN, ↓ok_var0, ↓ok_varS, ↓ok_c, ↓ok_bin, ↓ok_un, ↓okb, ↓ok_test, ↓ok_tru, ↓ok_and, ↓ok_or, ↓ok_not, ↓ok_andV, ↓ok_orV, ↓ok_notV, ↓ok_if, ↓ok_ifT, ↓ok_fld, ↓ok_slt, ↓o_slt0, ↓ok_make, ↓ok_makeS, ↓o_isaC, ↓o_isn_ins, ↓o_is_ins, ↓ok_izip, ↓zipR_ll, ↓zipR_tl, ↓zipR_tt, ↓o_parts, ↓o_shares, ↓o_east, ↓o_north, ↓o_rests, zip2, zip3, ↓ok_nil, ↓ok_cons, ↓ok_star, ↓seqA_tup, ↓seqA_lst, ↓ok_revL, ↓ok_revLM, ↓ok_cmp2, ↓ok_tup, ↓ok_lst, ↓ok_lstM, ↓ok_fn, ↓ok_call, ↓ok_callK, ↓ok_noPart, ↓oki, ↓ok_part, ↓ok_sl, ↓oks_next, ↓oks_seq, ↓oks_drop, ↓oks_ret, ↓oks_retN, ↓oks_break, ↓oks_cont, ↓oks_never, ↓oks_if, ↓oks_try, ↓oks_asg, ↓oks_set, ↓ok_gName, ↓ok_gNil, ↓ok_gCons, ↓ok_gTup, ↓ok_gUnl, ↓ok_gSub, ↓okl2, ↓okl3, ↓oks_par, ↓oks_par3, ↓okv0, ↓okvS, ↓oks_aug, ↓ok_append, ↓ok_extend, ↓seqL_lst, ↓ok_strM, ↓ok_def, ↓ok_iSeq, ↓oki1, ↓oki2, ↓ok_range1, ↓ok_range2, ↓oks_for, ↓ok_lc, ↓ok_finL, ↓ok_finM, ↓ok_yes, ↓setg0, ↓setgS, ↓unsetg0, ↓unsetgS, ↓wipeg0, ↓wipegS, ↓initg0, ↓initgN, ↓initgS, ↓lenis0, ↓lenisS, ↓lenle0, ↓lenleS, ↓seqI_lst, ↓seqIE_lst, ↓seqIE_tup, ↓seqIE_scr, ↓seqI_str, ↓okt, ↓ok_kIx, ↓ok_kGet, ↓ok_revS, ↓okd, ↓ok_dGet, ↓o_mulS, ↓seqI_tup, ↓seqI_scr, ↓o_ne_mv, ↓o_eq_mv, ↓ok_enum, ↓okl1, ↓o_mul_rep, ↓o_mul_iiF, cut_2of3, ↓o_ne_2, ↓o_eq_2, ↓o_ne_bb, ↓o_eq_bb, ↓o_tru_b, ↓o_tru_i, ↓o_tru_t, ↓o_tru_l, ↓o_tru_n, ↓o_isn_non, ↓o_isn_int, ↓o_isn_tup, ↓o_isn_lst, ↓o_isn_str, ↓o_is_non, ↓o_is_int, ↓o_is_tup, ↓o_is_lst, ↓o_is_str, ↓o_eq_ii, ↓o_ne_ii, ↓o_add_ii, ↓o_sub_ii, ↓o_mul_ii, ↓o_div_ii, ↓o_mod_ii, ↓o_lt_ii, ↓o_le_ii, ↓o_gt_ii, ↓o_ge_ii, ↓o_add_tt, ↓o_add_ll, ↓o_add_ss, ↓o_divmod_ii, ↓o_neg_i, ↓o_int_i, ↓o_abs_i, ↓o_max_ii, ↓o_max1_3, ↓o_min1_3, ↓o_min_ii, ↓o_len_tup, ↓o_len_lst, ↓o_len_scr, ↓o_slc_lst, ↓o_slc_scr, ↓o_slc_tup, ↓o_tuple_lst, ↓o_tuple_tup, ↓o_tuple_scr, ↓o_list_tup, ↓o_list_lst, ↓o_bool_b, ↓o_isa_int_int, ↓o_isa_int_bool, ↓o_isa_int_tup, ↓o_isa_int_str, ↓o_isa_int_lst, ↓o_isa_bl_int, ↓o_isa_bl_bool, ↓o_isa_tup_tup, ↓o_isa_tup_int, ↓o_isa_tup_lst, ↓o_isa_tup_str, ↓o_isa_str_str, ↓o_isa_str_int, ↓o_isa_str_tup, ↓o_isa_lst_lst, ↓o_isa_lst_tup, ↓o_isa_lst_int, ↓o_isa_non_int, ↓o_isa_non_tup, ↓o_sum_3, ↓o_all_3, ↓o_atI_0, ↓o_atI_1, ↓o_atI_2, ↓o_atI_3, ↓o_atI_4, ↓o_atI_5, ↓o_ixN_30, ↓o_ixN_31, ↓o_ixN_32, ↓o_fix_tup, ↓o_fix_lst, ↓o_fix_scr, ↓o_pow_6, ↓o_pow_18, pick_0, pick_01, pick_10, pick_012, pick_021, pick_102, pick_120, pick_201, pick_210, eq_self, List.cons_append, List.nil_append, List.append_nil, List.set_set, List.set_cons_zero, List.set_cons_succ, List.length_cons, List.length_nil, Nat.zero_add, Nat.reduceAdd, Nat.reduceLeDiff, castN, natabsN, mulOkL, mulOkR, Bool.true_or, Nat.reducePow, Nat.reduceLT, ne_eq, not_true_eq_false, not_false_eq_true, rng_3, rng_2, Int.reduceEq, Int.reduceLT, Int.reduceLE, Int.reduceAdd, Int.reduceSub, Int.reduceMul, Int.reduceNeg, true_and, and_true, if_true, if_false, Bool.false_eq_true, Bool.true_eq_false, decide_true, decide_false, Bool.not_true, Bool.not_false, Bool.and_true, Bool.true_and, Bool.and_false, Bool.false_and])
local macro_rules | `(tactic| simp_arith [$ts,*]) => `(tactic| simp -implicitDefEqProofs only [↓ok_ok, ↓ok_stk, ↓ok_exc, ↓ok_bind, ↓ok_nox, ↓ok_of, ↓ok_lenO, ↓ok_propO, ↓ok_txtO, ↓ok_clsM, ↓ok_tupRg, ↓ok_lstRg, ↓oko_some, ↓oko_none, ↓oko_ite, ↓oko_map, ↓ok_ite, ↓oks_nx, ↓oks_stk, ↓oks_exc, ↓oks_bk, ↓oks_ct, ↓oks_rt, ↓oks_then, ↓oks_thenN, ↓ok_var0, ↓ok_varS, ↓ok_c, ↓ok_bin, ↓ok_un, ↓okb, ↓ok_test, ↓ok_tru, ↓ok_and, ↓ok_or, ↓ok_not, ↓ok_andV, ↓ok_orV, ↓ok_notV, ↓ok_if, ↓ok_ifT, ↓ok_fld, ↓ok_slt, ↓o_slt0, ↓ok_make, ↓ok_makeS, ↓o_isaC, ↓o_isn_ins, ↓o_is_ins, ↓ok_izip, ↓zipR_ll, ↓zipR_tl, ↓zipR_tt, ↓o_parts, ↓o_shares, ↓o_east, ↓o_north, ↓o_rests, zip2, zip3, ↓ok_nil, ↓ok_cons, ↓ok_star, ↓seqA_tup, ↓seqA_lst, ↓ok_revL, ↓ok_revLM, ↓ok_cmp2, ↓ok_tup, ↓ok_lst, ↓ok_lstM, ↓ok_fn, ↓ok_call, ↓ok_callK, ↓ok_noPart, ↓oki, ↓ok_part, ↓ok_sl, ↓oks_next, ↓oks_seq, ↓oks_drop, ↓oks_ret, ↓oks_retN, ↓oks_break, ↓oks_cont, ↓oks_never, ↓oks_if, ↓oks_try, ↓oks_asg, ↓oks_set, ↓ok_gName, ↓ok_gNil, ↓ok_gCons, ↓ok_gTup, ↓ok_gUnl, ↓ok_gSub, ↓okl2, ↓okl3, ↓oks_par, ↓oks_par3, ↓okv0, ↓okvS, ↓oks_aug, ↓ok_append, ↓ok_extend, ↓seqL_lst, ↓ok_strM, ↓ok_def, ↓ok_iSeq, ↓oki1, ↓oki2, ↓ok_range1, ↓ok_range2, ↓oks_for, ↓ok_lc, ↓ok_finL, ↓ok_finM, ↓ok_yes, ↓setg0, ↓setgS, ↓unsetg0, ↓unsetgS, ↓wipeg0, ↓wipegS, ↓initg0, ↓initgN, ↓initgS, ↓lenis0, ↓lenisS, ↓lenle0, ↓lenleS, ↓seqI_lst, ↓seqIE_lst, ↓seqIE_tup, ↓seqIE_scr, ↓seqI_str, ↓okt, ↓ok_kIx, ↓ok_kGet, ↓ok_revS, ↓okd, ↓ok_dGet, ↓o_mulS, ↓seqI_tup, ↓seqI_scr, ↓o_ne_mv, ↓o_eq_mv, ↓ok_enum, ↓okl1, ↓o_mul_rep, ↓o_mul_iiF, cut_2of3, ↓o_ne_2, ↓o_eq_2, ↓o_ne_bb, ↓o_eq_bb, ↓o_tru_b, ↓o_tru_i, ↓o_tru_t, ↓o_tru_l, ↓o_tru_n, ↓o_isn_non, ↓o_isn_int, ↓o_isn_tup, ↓o_isn_lst, ↓o_isn_str, ↓o_is_non, ↓o_is_int, ↓o_is_tup, ↓o_is_lst, ↓o_is_str, ↓o_eq_ii, ↓o_ne_ii, ↓o_add_ii, ↓o_sub_ii, ↓o_mul_ii, ↓o_div_ii, ↓o_mod_ii, ↓o_lt_ii, ↓o_le_ii, ↓o_gt_ii, ↓o_ge_ii, ↓o_add_tt, ↓o_add_ll, ↓o_add_ss, ↓o_divmod_ii, ↓o_neg_i, ↓o_int_i, ↓o_abs_i, ↓o_max_ii, ↓o_max1_3, ↓o_min1_3, ↓o_min_ii, ↓o_len_tup, ↓o_len_lst, ↓o_len_scr, ↓o_slc_lst, ↓o_slc_scr, ↓o_slc_tup, ↓o_tuple_lst, ↓o_tuple_tup, ↓o_tuple_scr, ↓o_list_tup, ↓o_list_lst, ↓o_bool_b, ↓o_isa_int_int, ↓o_isa_int_bool, ↓o_isa_int_tup, ↓o_isa_int_str, ↓o_isa_int_lst, ↓o_isa_bl_int, ↓o_isa_bl_bool, ↓o_isa_tup_tup, ↓o_isa_tup_int, ↓o_isa_tup_lst, ↓o_isa_tup_str, ↓o_isa_str_str, ↓o_isa_str_int, ↓o_isa_str_tup, ↓o_isa_lst_lst, ↓o_isa_lst_tup, ↓o_isa_lst_int, ↓o_isa_non_int, ↓o_isa_non_tup, ↓o_sum_3, ↓o_all_3, ↓o_atI_0, ↓o_atI_1, ↓o_atI_2, ↓o_atI_3, ↓o_atI_4, ↓o_atI_5, ↓o_ixN_30, ↓o_ixN_31, ↓o_ixN_32, ↓o_fix_tup, ↓o_fix_lst, ↓o_fix_scr, ↓o_pow_6, ↓o_pow_18, pick_0, pick_01, pick_10, pick_012, pick_021, pick_102, pick_120, pick_201, pick_210, eq_self, List.cons_append, List.nil_append, List.append_nil, List.set_set, List.set_cons_zero, List.set_cons_succ, List.length_cons, List.length_nil, Nat.zero_add, Nat.reduceAdd, Nat.reduceLeDiff, castN, natabsN, mulOkL, mulOkR, Bool.true_or, Nat.reducePow, Nat.reduceLT, ne_eq, not_true_eq_false, not_false_eq_true, rng_3, rng_2, Int.reduceEq, Int.reduceLT, Int.reduceLE, Int.reduceAdd, Int.reduceSub, Int.reduceMul, Int.reduceNeg, true_and, and_true, if_true, if_false, Bool.false_eq_true, Bool.true_eq_false, decide_true, decide_false, Bool.not_true, Bool.not_false, Bool.and_true, Bool.true_and, Bool.and_false, Bool.false_and, $ts,*])
theorem o_in_dig {c : Nat} {μ : Mu} {P : D → Prop} (h : 48 ≤ c ∧ c ≤ 57) : OkO (fIn false μ (.str ⟨#[c]⟩) (.str "0123456789")) P = P (.bl true) := by
  have e : tl ("0123456789" : Str) = [48, 49, 50, 51, 52, 53, 54, 55, 56, 57] := by decide
  have m : c ∈ tl ("0123456789" : Str) := by rw [e]; simp only [List.mem_cons, List.not_mem_nil, or_false]; omega
  show OkO (some (D.bl (decide (c ∈ tl ("0123456789" : Str))))) P = _
  rw [decide_eq_true m]
  rfl
theorem dig_lc {g0 g1 : Option D} : ∀ (cs : List Nat) {μ : Mu} {QL : List D → Mu → Prop}, NumText.AllDigits cs → QL (cs.map fun _ => D.bl true) μ →
    Ok (lcL (dgName 2) dYes (dBin (fIn false) (dVar 2) (dC (.str "0123456789"))) [g0, g1, none] (cs.map fun c => D.str ⟨#[c]⟩) μ) QL
  | [], μ, QL, h, q => by rw [List.map_nil, ok_lcNil]; exact q
  | c :: cs, μ, QL, h, q => by
    rw [List.map_cons, ok_lcConsY]
    simp_arith [↓o_in_dig h.head]
    exact dig_lc cs h.tail q
theorem o_len_s {μ : Mu} {z : Str} {P : D → Prop} (h : z.length ≤ 1000000) : OkO (fLen μ [.str z]) P = P (.int z.length) := by
  unfold fLen
  simp [h, OkO]
theorem o_str_i {n : Int} {μ : Mu} {P : D → Prop} (h : n.natAbs < 10 ^ 500) : OkO (fStr2 μ [.int n]) P = P (.str (FT.iT n)) := by
  have hl : n.natAbs.log2 < 1920 := by
    by_cases h0 : n.natAbs = 0
    · rw [h0]; decide
    · rw [Nat.log2_lt h0]
      exact Nat.lt_trans h (by decide)
  have e1 : fStr μ [.int n] = some (.str (FT.iT n)) := if_pos hl
  have e : fStr2 μ [.int n] = some (.str (FT.iT n)) := by
    unfold fStr2 orC
    rw [e1]
  rw [e]; rfl
theorem o_all_tt {μ : Mu} {P : D → Prop} : ∀ (cs : List Nat), P (.bl true) → OkO (fAll μ [.lst (cs.map fun _ => D.bl true)]) P := fun cs q => all_true (fun d hd => by
  obtain ⟨_, _, e⟩ := List.mem_map.mp hd
  exact e.symm) q
theorem written_tail {n : Int} {d : Str} {g0 : Option D} {μ : Mu} {Q : D → Mu → Prop} (h : n.natAbs < 10 ^ 500) (hd : NumText.AllDigits (tl d)) (hne : tl d ≠ []) (hl : (tl d).length ≤ 640) (q : Q (.int n) μ) :
    if (d == Str.ofString "") = true then Q D.non μ else
      OkO (fLen μ [D.str d]) fun z => OkO (fGt μ z (D.int 4000)) fun z => OkB z fun b => if b = true then Q D.non μ else
        LenLe (List.map (fun c => D.str { cps := #[c] }) d.cps.toList) 1000000 (Ok (lcL (dgName 2) dYes (dBin (fIn false) (dVar 2) (dC (D.str (Str.ofString "0123456789")))) [g0, some (D.str d), none] (List.map (fun c => D.str { cps := #[c] }) d.cps.toList) μ)
          fun ys μ2 => OkO (fAll μ2 [D.lst ys]) fun z => OkO (truD μ2 z) fun b => if (!b) = true then Q D.non μ2 else
            OkO (fInt μ2 [D.str (FT.iT n)]) fun z => OkO (fStr2 μ2 [z]) fun z => OkO (fEq μ2 z (D.str (FT.iT n))) fun z => OkB z fun b => if b = true then OkO (fInt μ2 [D.str (FT.iT n)]) fun z => Q z μ2 else Q D.non μ2) := by
  have e0 : (d == Str.ofString "") = false := by
    rw [FT.str_eq]
    exact decide_eq_false hne
  have l1 := len_tl d
  rw [e0, if_neg (by simp), o_len_s (by omega)]
  simp_arith
  rw [if_neg (by simp; omega)]
  refine ⟨by rw [List.length_map]; show (tl d).length ≤ _; omega, dig_lc (tl d) hd (o_all_tt _ ?_)⟩
  have nl : (numL n.natAbs).length ≤ 500 := numL_len (by decide) h
  have li : (FT.iL n).length ≤ 640 := by
    unfold FT.iL
    split <;> (try rw [List.length_cons]) <;> omega
  have hn := FT.int_iT li
  have hl2 : (FT.iT n).length ≤ 640 := by rw [len_tl, FT.tl_iT]; exact li
  have e3 : (FT.iT n == FT.iT n) = true := by rw [FT.str_eq]; exact decide_eq_true rfl
  simp_arith [↓FT.o_int_s hn hl2, ↓o_str_i h, ↓FT.o_eq_ss, e3]
  exact q
theorem written_spec {n : Int} {μ : Mu} {Q : D → Mu → Prop} (h : n.natAbs < 10 ^ 500) (q : Q (.int n) μ) : Ok (m_written_integer [.str (FT.iT n)] μ) Q := by
  have nl : (numL n.natAbs).length ≤ 500 := numL_len (by decide) h
  have ti := FT.tl_iT n
  unfold FT.iL at ti
  have ll : (FT.iT n).length ≤ 1000000 := by
    rw [len_tl, ti]
    split <;> (try rw [List.length_cons]) <;> omega
  unfold m_written_integer
  simp_arith [↓FT.o_slc_str, ↓FT.o_eq_ss]
  refine ⟨ll, ?_⟩
  have c1 : tl (cutS (FT.iT n) none (some 1)) = (tl (FT.iT n)).take 1 := FT.tl_cut_to (k := 1)
  have c2 : tl (cutS (FT.iT n) (some 1) none) = (tl (FT.iT n)).drop 1 := FT.tl_cut_from (k := 1)
  have dash : tl (Str.ofString "-") = [45] := by decide
  by_cases h0 : n < 0
  · rw [if_pos h0] at ti
    rw [if_pos (by rw [FT.str_eq, c1, ti, dash]; rfl)]
    have e2 : tl (cutS (FT.iT n) (some 1) none) = numL n.natAbs := by rw [c2, ti]; rfl
    exact ⟨ll, written_tail h (by rw [e2]; exact numL_digits _) (by rw [e2]; exact numL_ne _) (by rw [e2]; omega) q⟩
  · rw [if_neg h0] at ti
    have hd := numL_digits n.natAbs
    have hne := numL_ne n.natAbs
    rw [if_neg (by
      rw [FT.str_eq, c1, ti, dash, decide_eq_true_iff]
      intro e
      cases hn : numL n.natAbs with
      | nil => exact hne hn
      | cons c r =>
        rw [hn] at e hd
        have := hd.head
        have : c = 45 := by simpa using e
        omega)]
    exact written_tail h (by rw [ti]; exact hd) (by rw [ti]; exact hne) (by rw [ti]; omega) q
/-! ### texts of moves -/
def mT (m : FM.Mv) : Str := Txt.join " " [FT.iT m.x, FT.iT m.y, FT.iT m.s]
def Rb (m : FM.Mv) : Prop := m.x.natAbs < 10 ^ 500 ∧ m.y.natAbs < 10 ^ 500 ∧ m.s.natAbs < 10 ^ 500
theorem mT_split (m : FM.Mv) : Txt.split (mT m) " " = [FT.iT m.x, FT.iT m.y, FT.iT m.s] := by
  refine split_join (s := 32) (S := []) (by decide) (by decide +kernel) (by simp) fun p hp => ?_
  simp only [List.mem_cons, List.not_mem_nil, or_false] at hp
  rcases hp with rfl | rfl | rfl <;> (rw [FT.tl_iT]; exact FT.iL_free (by omega))
theorem iL_len {n : Int} (h : n.natAbs < 10 ^ 500) : (FT.iL n).length ≤ 501 := by
  have nl : (numL n.natAbs).length ≤ 500 := numL_len (by decide) h
  unfold FT.iL
  split <;> (try rw [List.length_cons]) <;> omega
theorem iT_len {n : Int} (h : n.natAbs < 10 ^ 500) : (FT.iT n).length ≤ 501 := by rw [len_tl, FT.tl_iT]; exact iL_len h
theorem tl_mT (m : FM.Mv) : tl (mT m) = FT.iL m.x ++ ([32] ++ (FT.iL m.y ++ ([32] ++ FT.iL m.s))) := by
  unfold mT
  rw [join_eq, tl_join]
  show tl (FT.iT m.x) ++ (tl (" " : Str) ++ (tl (FT.iT m.y) ++ (tl (" " : Str) ++ tl (FT.iT m.s)))) = _
  rw [FT.tl_iT, FT.tl_iT, FT.tl_iT, show tl (" " : Str) = [32] by decide]
theorem mT_len {m : FM.Mv} (h : Rb m) : (mT m).length ≤ 1600 := by
  rw [len_tl, tl_mT]
  have a := iL_len h.1
  have b := iL_len h.2.1
  have c := iL_len h.2.2
  simp only [List.length_append, List.length_cons, List.length_nil]
  omega
theorem o_split {μ : Mu} {a b : Str} {P : D → Prop} (h1 : b.length ≠ 0) (h2 : a.length ≤ 1000000) : OkO (fSplit μ (.str a) (.str b)) P = P (.lst ((Txt.split a b).map .str)) := by
  unfold fSplit
  simp [h1, h2, OkO]
theorem o_nin3 {μ : Mu} {a b c : Int} {P : D → Prop} : OkO (fIn true μ .non (.tup [.int a, .int b, .int c])) P = P (.bl true) := rfl
theorem textmove_spec {m : FM.Mv} {μ : Mu} {Q : D → Mu → Prop} (h : Rb m) (q : Q (mw m) μ) : Ok (m_text_move [.str (mT m)] μ) Q := by
  have hl := mT_len h
  unfold m_text_move
  simp_arith [↓o_split (show ((" " : Str).length ≠ 0) by decide) (show (mT m).length ≤ 1000000 by omega), mT_split, List.map_cons, List.map_nil]
  refine ⟨rfl, ?_⟩
  simp_arith [↓ok_lcConsY, ↓ok_lcNil]
  refine written_spec h.1 ?_
  try simp_arith [↓ok_lcConsY, ↓ok_lcNil]
  refine written_spec h.2.1 ?_
  try simp_arith [↓ok_lcConsY, ↓ok_lcNil]
  refine written_spec h.2.2 ?_
  try simp_arith [↓ok_lcConsY, ↓ok_lcNil, ↓o_nin3]
  exact q
/-! ### texts of lots -/
def lineT (m : FM.Mv) : Str := Str.ofString "button " ++ mT m
def lotT (ms : List FM.Mv) : Str := Txt.join "\n" (ms.map lineT)
theorem tl_line (m : FM.Mv) : tl (lineT m) = [98, 117, 116, 116, 111, 110, 32] ++ tl (mT m) := by
  unfold lineT
  rw [tl_append, show tl (Str.ofString "button ") = [98, 117, 116, 116, 111, 110, 32] by decide +kernel]
theorem line_free (m : FM.Mv) : 10 ∉ tl (lineT m) := by
  rw [tl_line, tl_mT]
  have f : ∀ n : Int, 10 ∉ FT.iL n := fun n => FT.iL_free (by omega)
  simp [f]
theorem lotT_split {ms : List FM.Mv} (h : ms ≠ []) : Txt.split (lotT ms) "\n" = ms.map lineT := by
  refine split_join (s := 10) (S := []) (by decide) (by decide +kernel) (by simpa using h) fun p hp => ?_
  obtain ⟨m, _, rfl⟩ := List.mem_map.mp hp
  exact line_free m
theorem line_word (m : FM.Mv) : cutS (lineT m) none (some 7) = Str.ofString "button " := by
  refine ext_tl ?_
  rw [show (7 : Int) = ((7 : Nat) : Int) from rfl, FT.tl_cut_to, tl_line, show tl (Str.ofString "button ") = [98, 117, 116, 116, 111, 110, 32] by decide +kernel]
  rfl
theorem join_len {y : Str} {L : Nat} : ∀ parts : List Str, (∀ p ∈ parts, p.length ≤ L) → (Str.join y parts).length ≤ parts.length * (L + y.length)
  | [], _ => by simp [Str.join, Str.empty, Str.length]
  | [x], h => by
    have := h x (List.mem_cons_self ..)
    show x.length ≤ 1 * (L + y.length)
    omega
  | x :: z :: r, h => by
    have h1 := h x (List.mem_cons_self ..)
    have h2 := join_len (y := y) (L := L) (z :: r) fun p hp => h p (List.mem_cons_of_mem _ hp)
    have e : (Str.join y (x :: z :: r)).length = x.length + (y.length + (Str.join y (z :: r)).length) := by
      show (x ++ y ++ Str.join y (z :: r)).length = _
      rw [len_tl, tl_append, tl_append, List.length_append, List.length_append, len_tl x, len_tl y, len_tl (Str.join y (z :: r))]
      omega
    rw [e, List.length_cons, Nat.add_mul]
    omega
theorem line_len {m : FM.Mv} (h : Rb m) : (lineT m).length ≤ 1607 := by
  have := mT_len h
  rw [len_tl] at this ⊢
  rw [tl_line, List.length_append]
  show 7 + _ ≤ _
  omega
theorem lotT_len {ms : List FM.Mv} (h5 : ms.length ≤ 5) (h : ∀ m ∈ ms, Rb m) : (lotT ms).length ≤ 100000 := by
  unfold lotT
  rw [join_eq]
  have := join_len (y := Str.ofString "\n") (L := 1607) (ms.map lineT) fun p hp => by
    obtain ⟨m, hm, rfl⟩ := List.mem_map.mp hp
    exact line_len (h m hm)
  rw [List.length_map] at this
  have l1 : (Str.ofString "\n").length = 1 := by decide +kernel
  rw [l1] at this
  omega
theorem line_rest (m : FM.Mv) : cutS (lineT m) (some 7) none = mT m := by
  refine ext_tl ?_
  rw [show (7 : Int) = ((7 : Nat) : Int) from rfl, FT.tl_cut_from, tl_line]
  rfl
theorem words_lc {g0 g1 g2 : Option D} : ∀ (ms : List FM.Mv) {μ : Mu} {QL : List D → Mu → Prop}, (∀ m ∈ ms, Rb m) → QL (ms.map fun _ => D.bl true) μ →
    Ok (lcL (dgName 3) dYes (dBin fEq (dSl (dVar 3) (dNoPart) (dPart (dFn fLen (daCons (dC (.str "button ")) (daNil))))) (dC (.str "button "))) [g0, g1, g2, none] (ms.map fun m => D.str (lineT m)) μ) QL
  | [], μ, QL, h, q => by rw [List.map_nil, ok_lcNil]; exact q
  | m :: ms, μ, QL, h, q => by
    have hl := line_len (h m (List.mem_cons_self ..))
    have l7 : (Str.ofString "button ").length = 7 := by decide +kernel
    have e : (Str.ofString "button " == Str.ofString "button ") = true := by rw [FT.str_eq]; exact decide_eq_true rfl
    rw [List.map_cons, ok_lcConsY]
    simp_arith [↓o_len_s (show (Str.ofString "button ").length ≤ 1000000 by rw [l7]; decide), l7, ↓FT.o_slc_str, ↓FT.o_eq_ss]
    refine ⟨by omega, ?_⟩
    rw [line_word, e]
    exact words_lc ms (fun m hm => h m (List.mem_cons_of_mem _ hm)) q
theorem moves_lc {g0 g1 g2 : Option D} : ∀ (ms : List FM.Mv) {μ : Mu} {QL : List D → Mu → Prop}, (∀ m ∈ ms, Rb m) → QL (ms.map mw) μ →
    Ok (lcL (dgName 3) dYes (dCall m_text_move (daCons (dSl (dVar 3) (dPart (dFn fLen (daCons (dC (.str "button ")) (daNil)))) (dNoPart)) (daNil))) [g0, g1, g2, none] (ms.map fun m => D.str (lineT m)) μ) QL
  | [], μ, QL, h, q => by rw [List.map_nil, ok_lcNil]; exact q
  | m :: ms, μ, QL, h, q => by
    have hl := line_len (h m (List.mem_cons_self ..))
    have l7 : (Str.ofString "button ").length = 7 := by decide +kernel
    rw [List.map_cons, ok_lcConsY]
    simp_arith [↓o_len_s (show (Str.ofString "button ").length ≤ 1000000 by rw [l7]; decide), l7, ↓FT.o_slc_str]
    refine ⟨by omega, ?_⟩
    rw [line_rest]
    exact textmove_spec (h m (List.mem_cons_self ..)) (moves_lc ms (fun m hm => h m (List.mem_cons_of_mem _ hm)) q)
theorem btn_rb {ms : List FM.Mv} (hb : Btn ms) : ∀ m ∈ ms, Rb m := fun m hm => by
  have p : 10 ^ 30 < 10 ^ 500 := by decide
  obtain ⟨a, b, c⟩ := hb.b m hm
  exact ⟨Nat.lt_of_le_of_lt a p, Nat.lt_of_le_of_lt b p, Nat.lt_of_le_of_lt c p⟩
theorem textlot_spec {ms : List FM.Mv} {μ : Mu} {Q : D → Mu → Prop} (hb : Btn ms) (q : Q (lotD ms) μ) : Ok (m_text_lot [.str (lotT ms)] μ) Q := by
  have rb := btn_rb hb
  have hl := lotT_len hb.le rb
  unfold m_text_lot
  simp_arith [↓o_split (show ((Str.ofString "\n").length ≠ 0) by decide +kernel) (show (lotT ms).length ≤ 1000000 by omega), lotT_split hb.ne, List.map_map]
  refine ⟨rfl, by rw [List.length_map]; have := hb.le; omega, words_lc ms rb (all_true (fun d hd => ?_) ?_)⟩
  · obtain ⟨_, _, e⟩ := List.mem_map.mp hd
    exact e.symm
  try simp_arith
  refine ⟨by rw [List.length_map]; have := hb.le; omega, moves_lc ms rb ?_⟩
  try simp_arith
  refine wrong_spec hb ?_
  try simp_arith
  exact wrong_spec hb ⟨rfl, q⟩

end A46

set_option Elab.async false
set_option linter.all false
set_option maxRecDepth 100000
set_option maxHeartbeats 1000000
set_option exponentiation.threshold 10000
namespace A46
open PySem PySem.Spec PyProof.Rows L2 Ar TL
local macro_rules | `(tactic| simp_arith) => `(tactic| simp -implicitDefEqProofs only [↓ok_ok, ↓ok_stk, ↓ok_exc, ↓ok_bind, ↓ok_nox, ↓ok_of, ↓ok_lenO, ↓ok_propO, ↓ok_txtO, ↓ok_clsM, ↓ok_tupRg, ↓ok_lstRg, ↓oko_some, ↓oko_none, ↓oko_ite, ↓oko_map, ↓ok_ite, ↓oks_nx, ↓oks_stk, ↓oks_exc, ↓oks_bk, ↓oks_ct, ↓oks_rt, ↓oks_then, ↓oks_thenN, ↓ok_var0, ↓ok_varS, ↓ok_c, ↓ok_bin, ↓ok_un, ↓okb, ↓ok_test, ↓ok_tru, ↓ok_and, ↓ok_or, ↓ok_not, ↓ok_andV, ↓ok_orV, ↓ok_notV, ↓ok_if, ↓ok_ifT, ↓ok_fld, ↓ok_slt, ↓o_slt0, ↓ok_make, ↓ok_makeS, ↓o_isaC, ↓o_isn_ins, ↓o_is_ins, ↓ok_izip, ↓zipR_ll, ↓zipR_tl, ↓zipR_tt, ↓o_parts, ↓o_shares, ↓o_east, ↓o_north, ↓o_rests, zip2, zip3, ↓ok_nil, ↓ok_cons, ↓ok_star, ↓seqA_tup, ↓seqA_lst, ↓ok_revL, ↓ok_revLM, ↓ok_cmp2, ↓ok_tup, ↓ok_lst, ↓ok_lstM, ↓ok_fn, ↓ok_call, ↓ok_callK, ↓ok_noPart, ↓oki, ↓ok_part, ↓ok_sl, ↓oks_next, ↓oks_seq, ↓oks_drop, ↓oks_ret, ↓oks_retN, ↓oks_break, ↓oks_cont, ↓oks_never, ↓oks_if, ↓oks_try, ↓oks_asg, ↓oks_set, ↓ok_gName, ↓ok_gNil, ↓ok_gCons, ↓ok_gTup, ↓ok_gUnl, ↓ok_gSub, ↓okl2, ↓okl3, ↓oks_par, ↓oks_par3, ↓okv0, ↓okvS, ↓oks_aug, ↓ok_append, ↓ok_extend, ↓seqL_lst, ↓ok_strM, ↓ok_def, ↓ok_iSeq, ↓oki1, ↓oki2, ↓ok_range1, ↓ok_range2, ↓oks_for, ↓ok_lc, ↓ok_finL, ↓ok_finM, ↓ok_yes, ↓setg0, ↓setgS, ↓unsetg0, ↓unsetgS, ↓wipeg0, ↓wipegS, ↓initg0, ↓initgN, ↓initgS, ↓lenis0, ↓lenisS, ↓lenle0, ↓lenleS, ↓seqI_lst, ↓seqIE_lst, ↓seqIE_tup, ↓seqIE_scr, ↓seqI_str, ↓okt, ↓ok_kIx, ↓ok_kGet, ↓ok_revS, ↓okd, ↓ok_dGet, ↓o_mulS, ↓seqI_tup, ↓seqI_scr, ↓o_ne_mv, ↓o_eq_mv, ↓ok_enum, ↓okl1, ↓o_mul_rep, ↓o_mul_iiF, cut_2of3, ↓o_ne_2, ↓o_eq_2, ↓o_ne_bb, ↓o_eq_bb, ↓o_tru_b, ↓o_tru_i, ↓o_tru_t, ↓o_tru_l, ↓o_tru_n, ↓o_isn_non, ↓o_isn_int, ↓o_isn_tup, ↓o_isn_lst, ↓o_isn_str, ↓o_is_non, ↓o_is_int, ↓o_is_tup, ↓o_is_lst, ↓o_is_str, ↓o_eq_ii, ↓o_ne_ii, ↓o_add_ii, ↓o_sub_ii, ↓o_mul_ii, ↓o_div_ii, ↓o_mod_ii, ↓o_lt_ii, ↓o_le_ii, ↓o_gt_ii, ↓o_ge_ii, ↓o_add_tt, ↓o_add_ll, ↓o_add_ss, ↓o_divmod_ii, ↓o_neg_i, ↓o_int_i, ↓o_abs_i, ↓o_max_ii, ↓o_max1_3, ↓o_min1_3, ↓o_min_ii, ↓o_len_tup, ↓o_len_lst, ↓o_len_scr, ↓o_slc_lst, ↓o_slc_scr, ↓o_slc_tup, ↓o_tuple_lst, ↓o_tuple_tup, ↓o_tuple_scr, ↓o_list_tup, ↓o_list_lst, ↓o_bool_b, ↓o_isa_int_int, ↓o_isa_int_bool, ↓o_isa_int_tup, ↓o_isa_int_str, ↓o_isa_int_lst, ↓o_isa_bl_int, ↓o_isa_bl_bool, ↓o_isa_tup_tup, ↓o_isa_tup_int, ↓o_isa_tup_lst, ↓o_isa_tup_str, ↓o_isa_str_str, ↓o_isa_str_int, ↓o_isa_str_tup, ↓o_isa_lst_lst, ↓o_isa_lst_tup, ↓o_isa_lst_int, ↓o_isa_non_int, ↓o_isa_non_tup, ↓o_sum_3, ↓o_all_3, ↓o_atI_0, ↓o_atI_1, ↓o_atI_2, ↓o_atI_3, ↓o_atI_4, ↓o_atI_5, ↓o_ixN_30, ↓o_ixN_31, ↓o_ixN_32, ↓o_fix_tup, ↓o_fix_lst, ↓o_fix_scr, ↓o_pow_6, ↓o_pow_18, pick_0, pick_01, pick_10, pick_012, pick_021, pick_102, pick_120, pick_201, pick_210, eq_self, List.cons_append, List.nil_append, List.append_nil, List.set_set, List.set_cons_zero, List.set_cons_succ, List.length_cons, List.length_nil, Nat.zero_add, Nat.reduceAdd, Nat.reduceLeDiff, castN, natabsN, mulOkL, mulOkR, Bool.true_or, Nat.reducePow, Nat.reduceLT, ne_eq, not_true_eq_false, not_false_eq_true, rng_3, rng_2, Int.reduceEq, Int.reduceLT, Int.reduceLE, Int.reduceAdd, Int.reduceSub, Int.reduceMul, Int.reduceNeg, true_and, and_true, if_true, if_false, Bool.false_eq_true, Bool.true_eq_false, decide_true, decide_false, Bool.not_true, Bool.not_false, Bool.and_true, Bool.true_and, Bool.and_false, Bool.false_and])
local macro_rules | `(tactic| simp_arith [$ts,*]) => `(tactic| simp -implicitDefEqProofs only [↓ok_ok, ↓ok_stk, ↓ok_exc, ↓ok_bind, ↓ok_nox, ↓ok_of, ↓ok_lenO, ↓ok_propO, ↓ok_txtO, ↓ok_clsM, ↓ok_tupRg, ↓ok_lstRg, ↓oko_some, ↓oko_none, ↓oko_ite, ↓oko_map, ↓ok_ite, ↓oks_nx, ↓oks_stk, ↓oks_exc, ↓oks_bk, ↓oks_ct, ↓oks_rt, ↓oks_then, ↓oks_thenN, ↓ok_var0, ↓ok_varS, ↓ok_c, ↓ok_bin, ↓ok_un, ↓okb, ↓ok_test, ↓ok_tru, ↓ok_and, ↓ok_or, ↓ok_not, ↓ok_andV, ↓ok_orV, ↓ok_notV, ↓ok_if, ↓ok_ifT, ↓ok_fld, ↓ok_slt, ↓o_slt0, ↓ok_make, ↓ok_makeS, ↓o_isaC, ↓o_isn_ins, ↓o_is_ins, ↓ok_izip, ↓zipR_ll, ↓zipR_tl, ↓zipR_tt, ↓o_parts, ↓o_shares, ↓o_east, ↓o_north, ↓o_rests, zip2, zip3, ↓ok_nil, ↓ok_cons, ↓ok_star, ↓seqA_tup, ↓seqA_lst, ↓ok_revL, ↓ok_revLM, ↓ok_cmp2, ↓ok_tup, ↓ok_lst, ↓ok_lstM, ↓ok_fn, ↓ok_call, ↓ok_callK, ↓ok_noPart, ↓oki, ↓ok_part, ↓ok_sl, ↓oks_next, ↓oks_seq, ↓oks_drop, ↓oks_ret, ↓oks_retN, ↓oks_break, ↓oks_cont, ↓oks_never, ↓oks_if, ↓oks_try, ↓oks_asg, ↓oks_set, ↓ok_gName, ↓ok_gNil, ↓ok_gCons, ↓ok_gTup, ↓ok_gUnl, ↓ok_gSub, ↓okl2, ↓okl3, ↓oks_par, ↓oks_par3, ↓okv0, ↓okvS, ↓oks_aug, ↓ok_append, ↓ok_extend, ↓seqL_lst, ↓ok_strM, ↓ok_def, ↓ok_iSeq, ↓oki1, ↓oki2, ↓ok_range1, ↓ok_range2, ↓oks_for, ↓ok_lc, ↓ok_finL, ↓ok_finM, ↓ok_yes, ↓setg0, ↓setgS, ↓unsetg0, ↓unsetgS, ↓wipeg0, ↓wipegS, ↓initg0, ↓initgN, ↓initgS, ↓lenis0, ↓lenisS, ↓lenle0, ↓lenleS, ↓seqI_lst, ↓seqIE_lst, ↓seqIE_tup, ↓seqIE_scr, ↓seqI_str, ↓okt, ↓ok_kIx, ↓ok_kGet, ↓ok_revS, ↓okd, ↓ok_dGet, ↓o_mulS, ↓seqI_tup, ↓seqI_scr, ↓o_ne_mv, ↓o_eq_mv, ↓ok_enum, ↓okl1, ↓o_mul_rep, ↓o_mul_iiF, cut_2of3, ↓o_ne_2, ↓o_eq_2, ↓o_ne_bb, ↓o_eq_bb, ↓o_tru_b, ↓o_tru_i, ↓o_tru_t, ↓o_tru_l, ↓o_tru_n, ↓o_isn_non, ↓o_isn_int, ↓o_isn_tup, ↓o_isn_lst, ↓o_isn_str, ↓o_is_non, ↓o_is_int, ↓o_is_tup, ↓o_is_lst, ↓o_is_str, ↓o_eq_ii, ↓o_ne_ii, ↓o_add_ii, ↓o_sub_ii, ↓o_mul_ii, ↓o_div_ii, ↓o_mod_ii, ↓o_lt_ii, ↓o_le_ii, ↓o_gt_ii, ↓o_ge_ii, ↓o_add_tt, ↓o_add_ll, ↓o_add_ss, ↓o_divmod_ii, ↓o_neg_i, ↓o_int_i, ↓o_abs_i, ↓o_max_ii, ↓o_max1_3, ↓o_min1_3, ↓o_min_ii, ↓o_len_tup, ↓o_len_lst, ↓o_len_scr, ↓o_slc_lst, ↓o_slc_scr, ↓o_slc_tup, ↓o_tuple_lst, ↓o_tuple_tup, ↓o_tuple_scr, ↓o_list_tup, ↓o_list_lst, ↓o_bool_b, ↓o_isa_int_int, ↓o_isa_int_bool, ↓o_isa_int_tup, ↓o_isa_int_str, ↓o_isa_int_lst, ↓o_isa_bl_int, ↓o_isa_bl_bool, ↓o_isa_tup_tup, ↓o_isa_tup_int, ↓o_isa_tup_lst, ↓o_isa_tup_str, ↓o_isa_str_str, ↓o_isa_str_int, ↓o_isa_str_tup, ↓o_isa_lst_lst, ↓o_isa_lst_tup, ↓o_isa_lst_int, ↓o_isa_non_int, ↓o_isa_non_tup, ↓o_sum_3, ↓o_all_3, ↓o_atI_0, ↓o_atI_1, ↓o_atI_2, ↓o_atI_3, ↓o_atI_4, ↓o_atI_5, ↓o_ixN_30, ↓o_ixN_31, ↓o_ixN_32, ↓o_fix_tup, ↓o_fix_lst, ↓o_fix_scr, ↓o_pow_6, ↓o_pow_18, pick_0, pick_01, pick_10, pick_012, pick_021, pick_102, pick_120, pick_201, pick_210, eq_self, List.cons_append, List.nil_append, List.append_nil, List.set_set, List.set_cons_zero, List.set_cons_succ, List.length_cons, List.length_nil, Nat.zero_add, Nat.reduceAdd, Nat.reduceLeDiff, castN, natabsN, mulOkL, mulOkR, Bool.true_or, Nat.reducePow, Nat.reduceLT, ne_eq, not_true_eq_false, not_false_eq_true, rng_3, rng_2, Int.reduceEq, Int.reduceLT, Int.reduceLE, Int.reduceAdd, Int.reduceSub, Int.reduceMul, Int.reduceNeg, true_and, and_true, if_true, if_false, Bool.false_eq_true, Bool.true_eq_false, decide_true, decide_false, Bool.not_true, Bool.not_false, Bool.and_true, Bool.true_and, Bool.and_false, Bool.false_and, $ts,*])
def Wm (n : Nat) (μ : Mu) : Prop := ∃ a b c : Int, 0 ≤ a ∧ a < 2147483629 ∧ 0 ≤ c ∧ μ[n]? = some (.lst [.int a, .int b, .int c])
theorem Wm.lt {n : Nat} {μ : Mu} (h : Wm n μ) : n < μ.length := by
  obtain ⟨a, b, c, _, _, _, e⟩ := h
  exact (List.getElem?_eq_some_iff.mp e).1
theorem Wm.gr {n m : Nat} {μ μ' : Mu} (h : Wm n μ) (g : Gr m μ μ') (hm : n ≠ m) : Wm n μ' := by
  obtain ⟨a, b, c, h1, h2, h3, e⟩ := h
  exact ⟨a, b, c, h1, h2, h3, g.at_ n _ hm e⟩
theorem draw_spec {n : Nat} {μ : Mu} {s : Int} {Q : D → Mu → Prop} (h : Wm n μ) (h0 : 0 < s) (h1 : fdOk s = true) (q : ∀ d μ', Wm n μ' → Gr n μ μ' → 0 ≤ d → d < s → Q (.int d) μ') : Ok (m__law_draw [.loc n, .int s] μ) Q := by
  obtain ⟨a, b, c, ha, ha2, hc, e⟩ := h
  have e1 := fun o => set_new (o := o) e
  unfold m__law_draw
  simp_arith [↓o_fix_loc e, ↓o_place e, ↓o_fix_loc (e1 _), ↓o_place (e1 _)]
  by_cases hp : 0 < c
  · rw [if_pos (decide_eq_true hp)]
    exact ⟨⟨h0, h1⟩, q _ _ ⟨_, _, _, ha, ha2, Int.ediv_nonneg hc (by omega), e1 _⟩ Gr.set (Int.emod_nonneg _ (by omega)) (Int.emod_lt_of_pos _ h0)⟩
  · rw [if_neg (by simpa using hp)]
    refine ⟨by decide, by omega, q _ _ ⟨_, _, _, Int.fmod_nonneg_of_pos _ (by decide), Int.fmod_lt_of_pos _ (by decide), hc, e1 _⟩ Gr.set (Int.fmod_nonneg_of_pos _ h0) (Int.fmod_lt_of_pos _ h0)⟩
theorem well_spec {ns : List Int} {t : Int} {μ : Mu} {Q : D → Mu → Prop} (h0 : 0 ≤ t) (ht63 : t ≤ 63) (hn : ns.length ≤ 63) (q : ∀ μ', Wm μ.length μ' → Gr μ.length μ μ' → Q (.loc μ.length) μ') : Ok (m__law_well [.scr (ns.map .int), .int t] μ) Q := by
  have hl : (cutL (List.map D.int ns) none (some 4)).length + (cutL (List.map D.int ns) (some t) (some (t + 1))).length ≤ 1000000 := by
    have h1 := cut_len (xs := List.map D.int ns) (lo := none) (hi := some 4)
    have h2 := cut_len (xs := List.map D.int ns) (lo := some t) (hi := some (t + 1))
    rw [List.length_map] at h1 h2
    omega
  have items : ∀ d ∈ cutL (List.map D.int ns) none (some 4) ++ cutL (List.map D.int ns) (some t) (some (t + 1)), ∃ i, d = D.int i := fun d hd => by
    rcases List.mem_append.mp hd with h | h
    · exact int_mem (cut_mem h)
    · exact int_mem (cut_mem h)
  unfold m__law_well
  simp_arith
  refine ⟨hl, ?_⟩
  refine oks_forInv (fun pre rest Γ μ' => μ' = μ ∧ (∀ d ∈ rest, ∃ i, d = D.int i) ∧ ∃ x y, Γ = [some (D.scr (ns.map D.int)), some (D.int t), some (D.int x), y, none] ∧ 0 ≤ x ∧ x < 2147483629) _ [] _ _ ⟨rfl, items, _, _, rfl, by omega, by omega⟩ ?_ ?_
  · rintro pre d rest Γ μ' ⟨rfl, hi, x, y, rfl, hx⟩
    obtain ⟨i, rfl⟩ := hi d List.mem_cons_self
    simp_arith
    refine ⟨fun d hd => hi d (List.mem_cons_of_mem _ hd), _, _, rfl, Int.fmod_nonneg_of_pos _ (by decide), ?_⟩
    have := Int.fmod_lt_of_pos (x * 36013 + i + 59) (show (0 : Int) < 2147483579 by decide)
    omega
  · rintro pre Γ μ' ⟨rfl, hi, x, y, rfl, hx0, hx⟩
    have fin : ∀ c : Int, 0 ≤ c → Q (D.loc (List.length μ')) (μ' ++ [MO.lst [D.int x, D.int 0, D.int c]]) := fun c hc => q _ ⟨x, 0, c, hx0, hx, hc, app_new⟩ Gr.app
    simp_arith [List.length_map]
    by_cases ht : t < ns.length
    · obtain ⟨z, hz⟩ := int_at h0 ht
      rw [if_pos (decide_eq_true ht), hz]
      try simp_arith
      repeat' split
      all_goals exact fin _ (by first | omega | decide)
    · rw [if_neg (by simpa using ht)]
      try simp_arith
      repeat' split
      all_goals exact fin _ (by first | omega | decide)
theorem pick_spec {n : Nat} {μ : Mu} {xs : List D} {Q : D → Mu → Prop} (h : Wm n μ) (h0 : xs ≠ []) (h1 : xs.length ≤ 1000000) (q : ∀ x ∈ xs, ∀ μ', Wm n μ' → Gr n μ μ' → Q x μ') : Ok (m__law_pick [.loc n, .lst xs] μ) Q := by
  have hl : 0 < xs.length := List.length_pos_iff.mpr h0
  unfold m__law_pick
  simp_arith
  refine draw_spec h (by omega) (fdOk_small (by omega) (by omega)) fun d μ' h1 g1 d0 d1 => ?_
  obtain ⟨x, e, m⟩ := atI_map (xs := xs) d0 d1
  simp_arith [e]
  exact q x m μ' h1 g1

theorem great_spec {n : Nat} {μ : Mu} {Q : D → Mu → Prop} (h : Wm n μ) (q : ∀ d μ', Wm n μ' → Gr n μ μ' → 0 ≤ d → d < 10 ^ 27 → Q (.int d) μ') : Ok (m__law_great [.loc n] μ) Q := by
  unfold m__law_great
  simp_arith
  refine draw_spec h (by decide) (by decide) fun k μ1 h1 g1 k0 k1 => ?_
  try simp_arith
  refine ⟨by omega, ?_⟩
  refine oks_forInv (fun pre rest Γ μ' => Wm n μ' ∧ Gr n μ μ' ∧ pre.length + rest.length ≤ 9 ∧ ∃ (f : Int) (y : Option D), Γ = [some (D.loc n), some (D.int f), y] ∧ 0 ≤ f ∧ f < 1000 ^ pre.length) _ [] _ _ ⟨h1, g1, by rw [rngD_len]; simp only [List.length_nil]; omega, _, _, rfl, by decide, by decide⟩ ?_ ?_
  · rintro pre d rest Γ μ' ⟨hw, hg, hl, f, y, rfl, hf0, hf1⟩
    simp_arith
    refine draw_spec hw (by decide) (by decide) fun d2 μ3 h3 g3 d0 d1 => ⟨h3, hg.trans g3, by simp only [List.length_append, List.length_cons, List.length_nil] at hl ⊢; omega, _, _, rfl, by omega, ?_⟩
    rw [List.length_append, List.length_singleton, Int.pow_succ]
    omega
  · rintro pre Γ μ' ⟨hw, hg, hl, f, y, rfl, hf0, hf1⟩
    have hf : f < 10 ^ 27 := by
      have hp : (1000 : Int) ^ pre.length ≤ 1000 ^ 9 := by
        have := Nat.pow_le_pow_right (show 1000 > 0 by decide) (show pre.length ≤ 9 by simp only [List.length_nil] at hl; omega)
        have h2 : ((1000 ^ pre.length : Nat) : Int) ≤ ((1000 ^ 9 : Nat) : Int) := Int.ofNat_le.mpr this
        simpa using h2
      have p9 : (1000 : Int) ^ 9 = 10 ^ 27 := by decide
      omega
    simp_arith
    exact q _ _ hw hg hf0 hf

end A46

set_option Elab.async false
set_option linter.all false
set_option maxRecDepth 100000
set_option maxHeartbeats 1000000
set_option exponentiation.threshold 10000
namespace A46
open PySem PySem.Spec PyProof.Rows L2 Ar TL
local macro_rules | `(tactic| simp_arith) => `(tactic| simp -implicitDefEqProofs only [↓ok_ok, ↓ok_stk, ↓ok_exc, ↓ok_bind, ↓ok_nox, ↓ok_of, ↓ok_lenO, ↓ok_propO, ↓ok_txtO, ↓ok_clsM, ↓ok_tupRg, ↓ok_lstRg, ↓oko_some, ↓oko_none, ↓oko_ite, ↓oko_map, ↓ok_ite, ↓oks_nx, ↓oks_stk, ↓oks_exc, ↓oks_bk, ↓oks_ct, ↓oks_rt, ↓oks_then, ↓oks_thenN, ↓ok_var0, ↓ok_varS, ↓ok_c, ↓ok_bin, ↓ok_un, ↓okb, ↓ok_test, ↓ok_tru, ↓ok_and, ↓ok_or, ↓ok_not, ↓ok_andV, ↓ok_orV, ↓ok_notV, ↓ok_if, ↓ok_ifT, ↓ok_fld, ↓ok_slt, ↓o_slt0, ↓ok_make, ↓ok_makeS, ↓o_isaC, ↓o_isn_ins, ↓o_is_ins, ↓ok_izip, ↓zipR_ll, ↓zipR_tl, ↓zipR_tt, ↓o_parts, ↓o_shares, ↓o_east, ↓o_north, ↓o_rests, zip2, zip3, ↓ok_nil, ↓ok_cons, ↓ok_star, ↓seqA_tup, ↓seqA_lst, ↓ok_revL, ↓ok_revLM, ↓ok_cmp2, ↓ok_tup, ↓ok_lst, ↓ok_lstM, ↓ok_fn, ↓ok_call, ↓ok_callK, ↓ok_noPart, ↓oki, ↓ok_part, ↓ok_sl, ↓oks_next, ↓oks_seq, ↓oks_drop, ↓oks_ret, ↓oks_retN, ↓oks_break, ↓oks_cont, ↓oks_never, ↓oks_if, ↓oks_try, ↓oks_asg, ↓oks_set, ↓ok_gName, ↓ok_gNil, ↓ok_gCons, ↓ok_gTup, ↓ok_gUnl, ↓ok_gSub, ↓okl2, ↓okl3, ↓oks_par, ↓oks_par3, ↓okv0, ↓okvS, ↓oks_aug, ↓ok_append, ↓ok_extend, ↓seqL_lst, ↓ok_strM, ↓ok_def, ↓ok_iSeq, ↓oki1, ↓oki2, ↓ok_range1, ↓ok_range2, ↓oks_for, ↓ok_lc, ↓ok_finL, ↓ok_finM, ↓ok_yes, ↓setg0, ↓setgS, ↓unsetg0, ↓unsetgS, ↓wipeg0, ↓wipegS, ↓initg0, ↓initgN, ↓initgS, ↓lenis0, ↓lenisS, ↓lenle0, ↓lenleS, ↓seqI_lst, ↓seqIE_lst, ↓seqIE_tup, ↓seqIE_scr, ↓seqI_str, ↓okt, ↓ok_kIx, ↓ok_kGet, ↓ok_revS, ↓okd, ↓ok_dGet, ↓o_mulS, ↓seqI_tup, ↓seqI_scr, ↓o_ne_mv, ↓o_eq_mv, ↓ok_enum, ↓okl1, ↓o_mul_rep, ↓o_mul_iiF, cut_2of3, ↓o_ne_2, ↓o_eq_2, ↓o_ne_bb, ↓o_eq_bb, ↓o_tru_b, ↓o_tru_i, ↓o_tru_t, ↓o_tru_l, ↓o_tru_n, ↓o_isn_non, ↓o_isn_int, ↓o_isn_tup, ↓o_isn_lst, ↓o_isn_str, ↓o_is_non, ↓o_is_int, ↓o_is_tup, ↓o_is_lst, ↓o_is_str, ↓o_eq_ii, ↓o_ne_ii, ↓o_add_ii, ↓o_sub_ii, ↓o_mul_ii, ↓o_div_ii, ↓o_mod_ii, ↓o_lt_ii, ↓o_le_ii, ↓o_gt_ii, ↓o_ge_ii, ↓o_add_tt, ↓o_add_ll, ↓o_add_ss, ↓o_divmod_ii, ↓o_neg_i, ↓o_int_i, ↓o_abs_i, ↓o_max_ii, ↓o_max1_3, ↓o_min1_3, ↓o_min_ii, ↓o_len_tup, ↓o_len_lst, ↓o_len_scr, ↓o_slc_lst, ↓o_slc_scr, ↓o_slc_tup, ↓o_tuple_lst, ↓o_tuple_tup, ↓o_tuple_scr, ↓o_list_tup, ↓o_list_lst, ↓o_bool_b, ↓o_isa_int_int, ↓o_isa_int_bool, ↓o_isa_int_tup, ↓o_isa_int_str, ↓o_isa_int_lst, ↓o_isa_bl_int, ↓o_isa_bl_bool, ↓o_isa_tup_tup, ↓o_isa_tup_int, ↓o_isa_tup_lst, ↓o_isa_tup_str, ↓o_isa_str_str, ↓o_isa_str_int, ↓o_isa_str_tup, ↓o_isa_lst_lst, ↓o_isa_lst_tup, ↓o_isa_lst_int, ↓o_isa_non_int, ↓o_isa_non_tup, ↓o_sum_3, ↓o_all_3, ↓o_atI_0, ↓o_atI_1, ↓o_atI_2, ↓o_atI_3, ↓o_atI_4, ↓o_atI_5, ↓o_ixN_30, ↓o_ixN_31, ↓o_ixN_32, ↓o_fix_tup, ↓o_fix_lst, ↓o_fix_scr, ↓o_pow_6, ↓o_pow_18, pick_0, pick_01, pick_10, pick_012, pick_021, pick_102, pick_120, pick_201, pick_210, eq_self, List.cons_append, List.nil_append, List.append_nil, List.set_set, List.set_cons_zero, List.set_cons_succ, List.length_cons, List.length_nil, Nat.zero_add, Nat.reduceAdd, Nat.reduceLeDiff, castN, natabsN, mulOkL, mulOkR, Bool.true_or, Nat.reducePow, Nat.reduceLT, ne_eq, not_true_eq_false, not_false_eq_true, rng_3, rng_2, Int.reduceEq, Int.reduceLT, Int.reduceLE, Int.reduceAdd, Int.reduceSub, Int.reduceMul, Int.reduceNeg, true_and, and_true, if_true, if_false, Bool.false_eq_true, Bool.true_eq_false, decide_true, decide_false, Bool.not_true, Bool.not_false, Bool.and_true, Bool.true_and, Bool.and_false, Bool.false_and])
local macro_rules | `(tactic| simp_arith [$ts,*]) => `(tactic| simp -implicitDefEqProofs only [↓ok_ok, ↓ok_stk, ↓ok_exc, ↓ok_bind, ↓ok_nox, ↓ok_of, ↓ok_lenO, ↓ok_propO, ↓ok_txtO, ↓ok_clsM, ↓ok_tupRg, ↓ok_lstRg, ↓oko_some, ↓oko_none, ↓oko_ite, ↓oko_map, ↓ok_ite, ↓oks_nx, ↓oks_stk, ↓oks_exc, ↓oks_bk, ↓oks_ct, ↓oks_rt, ↓oks_then, ↓oks_thenN, ↓ok_var0, ↓ok_varS, ↓ok_c, ↓ok_bin, ↓ok_un, ↓okb, ↓ok_test, ↓ok_tru, ↓ok_and, ↓ok_or, ↓ok_not, ↓ok_andV, ↓ok_orV, ↓ok_notV, ↓ok_if, ↓ok_ifT, ↓ok_fld, ↓ok_slt, ↓o_slt0, ↓ok_make, ↓ok_makeS, ↓o_isaC, ↓o_isn_ins, ↓o_is_ins, ↓ok_izip, ↓zipR_ll, ↓zipR_tl, ↓zipR_tt, ↓o_parts, ↓o_shares, ↓o_east, ↓o_north, ↓o_rests, zip2, zip3, ↓ok_nil, ↓ok_cons, ↓ok_star, ↓seqA_tup, ↓seqA_lst, ↓ok_revL, ↓ok_revLM, ↓ok_cmp2, ↓ok_tup, ↓ok_lst, ↓ok_lstM, ↓ok_fn, ↓ok_call, ↓ok_callK, ↓ok_noPart, ↓oki, ↓ok_part, ↓ok_sl, ↓oks_next, ↓oks_seq, ↓oks_drop, ↓oks_ret, ↓oks_retN, ↓oks_break, ↓oks_cont, ↓oks_never, ↓oks_if, ↓oks_try, ↓oks_asg, ↓oks_set, ↓ok_gName, ↓ok_gNil, ↓ok_gCons, ↓ok_gTup, ↓ok_gUnl, ↓ok_gSub, ↓okl2, ↓okl3, ↓oks_par, ↓oks_par3, ↓okv0, ↓okvS, ↓oks_aug, ↓ok_append, ↓ok_extend, ↓seqL_lst, ↓ok_strM, ↓ok_def, ↓ok_iSeq, ↓oki1, ↓oki2, ↓ok_range1, ↓ok_range2, ↓oks_for, ↓ok_lc, ↓ok_finL, ↓ok_finM, ↓ok_yes, ↓setg0, ↓setgS, ↓unsetg0, ↓unsetgS, ↓wipeg0, ↓wipegS, ↓initg0, ↓initgN, ↓initgS, ↓lenis0, ↓lenisS, ↓lenle0, ↓lenleS, ↓seqI_lst, ↓seqIE_lst, ↓seqIE_tup, ↓seqIE_scr, ↓seqI_str, ↓okt, ↓ok_kIx, ↓ok_kGet, ↓ok_revS, ↓okd, ↓ok_dGet, ↓o_mulS, ↓seqI_tup, ↓seqI_scr, ↓o_ne_mv, ↓o_eq_mv, ↓ok_enum, ↓okl1, ↓o_mul_rep, ↓o_mul_iiF, cut_2of3, ↓o_ne_2, ↓o_eq_2, ↓o_ne_bb, ↓o_eq_bb, ↓o_tru_b, ↓o_tru_i, ↓o_tru_t, ↓o_tru_l, ↓o_tru_n, ↓o_isn_non, ↓o_isn_int, ↓o_isn_tup, ↓o_isn_lst, ↓o_isn_str, ↓o_is_non, ↓o_is_int, ↓o_is_tup, ↓o_is_lst, ↓o_is_str, ↓o_eq_ii, ↓o_ne_ii, ↓o_add_ii, ↓o_sub_ii, ↓o_mul_ii, ↓o_div_ii, ↓o_mod_ii, ↓o_lt_ii, ↓o_le_ii, ↓o_gt_ii, ↓o_ge_ii, ↓o_add_tt, ↓o_add_ll, ↓o_add_ss, ↓o_divmod_ii, ↓o_neg_i, ↓o_int_i, ↓o_abs_i, ↓o_max_ii, ↓o_max1_3, ↓o_min1_3, ↓o_min_ii, ↓o_len_tup, ↓o_len_lst, ↓o_len_scr, ↓o_slc_lst, ↓o_slc_scr, ↓o_slc_tup, ↓o_tuple_lst, ↓o_tuple_tup, ↓o_tuple_scr, ↓o_list_tup, ↓o_list_lst, ↓o_bool_b, ↓o_isa_int_int, ↓o_isa_int_bool, ↓o_isa_int_tup, ↓o_isa_int_str, ↓o_isa_int_lst, ↓o_isa_bl_int, ↓o_isa_bl_bool, ↓o_isa_tup_tup, ↓o_isa_tup_int, ↓o_isa_tup_lst, ↓o_isa_tup_str, ↓o_isa_str_str, ↓o_isa_str_int, ↓o_isa_str_tup, ↓o_isa_lst_lst, ↓o_isa_lst_tup, ↓o_isa_lst_int, ↓o_isa_non_int, ↓o_isa_non_tup, ↓o_sum_3, ↓o_all_3, ↓o_atI_0, ↓o_atI_1, ↓o_atI_2, ↓o_atI_3, ↓o_atI_4, ↓o_atI_5, ↓o_ixN_30, ↓o_ixN_31, ↓o_ixN_32, ↓o_fix_tup, ↓o_fix_lst, ↓o_fix_scr, ↓o_pow_6, ↓o_pow_18, pick_0, pick_01, pick_10, pick_012, pick_021, pick_102, pick_120, pick_201, pick_210, eq_self, List.cons_append, List.nil_append, List.append_nil, List.set_set, List.set_cons_zero, List.set_cons_succ, List.length_cons, List.length_nil, Nat.zero_add, Nat.reduceAdd, Nat.reduceLeDiff, castN, natabsN, mulOkL, mulOkR, Bool.true_or, Nat.reducePow, Nat.reduceLT, ne_eq, not_true_eq_false, not_false_eq_true, rng_3, rng_2, Int.reduceEq, Int.reduceLT, Int.reduceLE, Int.reduceAdd, Int.reduceSub, Int.reduceMul, Int.reduceNeg, true_and, and_true, if_true, if_false, Bool.false_eq_true, Bool.true_eq_false, decide_true, decide_false, Bool.not_true, Bool.not_false, Bool.and_true, Bool.true_and, Bool.and_false, Bool.false_and, $ts,*])
/-! plans, and what is near to them: values of the known kinds -/
def kd : D → Bool
  | .non | .bl _ | .int _ | .str _ | .tup _ | .lst _ | .dK _ => true
  | _ => false
def isT : D → Bool
  | .tup _ => true
  | _ => false
def isI : D → Bool
  | .int _ => true
  | _ => false
theorem isa_tup {d : D} {μ : Mu} (h : kd d = true) : fIsa μ [d, .ty "tuple"] = some (.bl (isT d)) := by
  cases d <;> first | rfl | (cases h)
theorem isa_int {d : D} {μ : Mu} (h : kd d = true) : ∃ b, fIsa μ [d, .ty "int"] = some (.bl b) ∧ ∃ c, fIsa μ [d, .ty "bool"] = some (.bl c) ∧ (b && !c) = isI d := by
  cases d <;> first | (exact ⟨_, rfl, _, rfl, rfl⟩) | (cases h)
theorem isint_v {d : D} {μ : Mu} {Q : D → Mu → Prop} (h : kd d = true) (q : Q (.bl (isI d)) μ) : Ok (m_is_integer [d] μ) Q := by
  obtain ⟨b, e1, c, e2, e3⟩ := isa_int (μ := μ) h
  unfold m_is_integer
  rw [← e3] at q
  cases b <;> cases c <;> simp_arith [e1, e2] <;> exact q
/-! what they come to -/
def partV (ms : List FM.Mv) (f : D → Option FM.Mv) : D → Option FM.Mv
  | .tup ds => f (.tup ds)
  | .int i => if 0 ≤ i ∧ i < (ms.length : Nat) then some (ms.getD i.toNat FM.one) else none
  | _ => none
def pairV (ms : List FM.Mv) (f : D → Option FM.Mv) : D → Option (FM.Mv × Int)
  | .tup [p, .int n] => if n = 0 then none else (partV ms f p).map fun m => (m, n)
  | _ => none
def goV (g : D → Option (FM.Mv × Int)) : List D → FM.Mv → Option FM.Mv
  | [], a => some a
  | d :: r, a => match g d with
    | none => none
    | some (m, n) => goV g r (FM.mul a (FM.pow m n))
def planV (ms : List FM.Mv) : Nat → D → Option FM.Mv
  | 0, _ => none
  | k + 1, d => match d with
    | .tup ds => goV (pairV ms (planV ms k)) ds FM.one
    | _ => none
def oM : Option FM.Mv → D
  | none => .non
  | some m => mw m
/-! how great they are -/
def PkE (M : Nat) (f : D → Prop) (d : D) : Prop := kd d = true ∧ ∀ p n, d = .tup [p, n] → kd p = true ∧ f p ∧ kd n = true ∧ ∀ i, n = .int i → Dg M i
def Pk (M : Nat) : Nat → D → Prop
  | 0, d => kd d = true
  | k + 1, d => kd d = true ∧ ∀ ds, d = .tup ds → ds.length ≤ 20 ∧ ∀ e ∈ ds, PkE M (Pk M k) e
theorem Pk.kd {M k : Nat} {d : D} (h : Pk M k d) : kd d = true := by
  cases k with
  | zero => exact h
  | succ k => exact h.1
def Ax (M : Nat) : Nat → Nat
  | 0 => 25
  | k + 1 => M + Ax M k + 20
def Bx (M : Nat) : Nat → Nat
  | 0 => 25
  | k + 1 => 2 * M + 2 * Ax M k + Bx M k + 70
theorem Ax_le {M k : Nat} : 25 ≤ Ax M k := by
  induction k with
  | zero => exact Nat.le_refl _
  | succ k ih => unfold Ax; omega
theorem Bx_le {M k : Nat} : 25 ≤ Bx M k := by
  induction k with
  | zero => exact Nat.le_refl _
  | succ k ih => unfold Bx; omega
/-- what one pair comes to -/
theorem pair_dm {M k : Nat} {ms : List FM.Mv} (hm : ∀ m ∈ ms, Dm2 25 25 m) (hf : ∀ d m, Pk M k d → planV ms k d = some m → Dm2 (Ax M k) (Bx M k) m) {d : D} (hd : PkE M (Pk M k) d) {m : FM.Mv} {n : Int} (h : pairV ms (planV ms k) d = some (m, n)) : Dm2 (Ax M k) (Bx M k) m ∧ Dg M n := by
  unfold pairV at h
  split at h
  · rename_i p i
    obtain ⟨h1, h2, h3, h4⟩ := hd.2 p (.int i) rfl
    split at h
    · cases h
    · cases hp : partV ms (planV ms k) p with
      | none => rw [hp] at h; cases h
      | some m2 =>
        rw [hp] at h
        have h : (m2, i) = (m, n) := Option.some.inj h
        cases h
        refine ⟨?_, h4 _ rfl⟩
        unfold partV at hp
        split at hp
        · exact hf _ _ h2 hp
        · split at hp
          · rename_i j hj
            cases hp
            have e : j.toNat < ms.length := by omega
            have : ms.getD j.toNat FM.one = ms[j.toNat] := by simp [List.getD, e]
            rw [this]
            exact (hm _ (List.getElem_mem e)).mono Ax_le Bx_le
          · cases hp
        · cases hp
  · cases h
theorem step_dm {M A B i : Nat} {a m : FM.Mv} {n : Int} (h1 : 1 ≤ M) (hi : i ≤ 20) (ha : Dm2 (M + A + i) (2 * M + 2 * A + B + 30 + 2 * i) a) (hm : Dm2 A B m) (hn : Dg M n) : Dm2 (M + A + (i + 1)) (2 * M + 2 * A + B + 30 + 2 * (i + 1)) (FM.mul a (FM.pow m n)) := (ha.mul (hm.pow hn h1)).mono (by omega) (by omega)
theorem go_dm {M k : Nat} {ms : List FM.Mv} (h1 : 1 ≤ M) (hm : ∀ m ∈ ms, Dm2 25 25 m) (hf : ∀ d m, Pk M k d → planV ms k d = some m → Dm2 (Ax M k) (Bx M k) m) : ∀ (ds : List D) (i : Nat) (a m : FM.Mv), (∀ e ∈ ds, PkE M (Pk M k) e) → i + ds.length ≤ 20 → Dm2 (M + Ax M k + i) (2 * M + 2 * Ax M k + Bx M k + 30 + 2 * i) a →
    goV (pairV ms (planV ms k)) ds a = some m → Dm2 (Ax M (k + 1)) (Bx M (k + 1)) m
  | [], i, a, m, he, hl, ha, h => by
    cases h
    simp only [List.length_nil] at hl
    exact ha.mono (by show M + Ax M k + i ≤ M + Ax M k + 20; omega) (by show 2 * M + 2 * Ax M k + Bx M k + 30 + 2 * i ≤ 2 * M + 2 * Ax M k + Bx M k + 70; omega)
  | d :: ds, i, a, m, he, hl, ha, h => by
    rw [List.length_cons] at hl
    unfold goV at h
    split at h
    · cases h
    · rename_i m2 n hp
      obtain ⟨p1, p2⟩ := pair_dm hm hf (he d List.mem_cons_self) hp
      exact go_dm h1 hm hf ds (i + 1) _ m (fun e h => he e (List.mem_cons_of_mem _ h)) (by omega) (step_dm h1 (by omega) ha p1 p2) h
theorem one_dm {a b : Nat} (ha : 1 ≤ a) (hb : 1 ≤ b) : Dm2 a b FM.one := ⟨Dg.lit (by decide) ha, Dg.lit (by decide) ha, Dg.lit (by decide) hb⟩
theorem plan_dm {M : Nat} {ms : List FM.Mv} (h1 : 1 ≤ M) (hm : ∀ m ∈ ms, Dm2 25 25 m) : ∀ (k : Nat) (d : D) (m : FM.Mv), Pk M k d → planV ms k d = some m → Dm2 (Ax M k) (Bx M k) m
  | 0, d, m, _, h => by cases h
  | k + 1, d, m, hd, h => by
    unfold planV at h
    split at h
    · rename_i ds
      obtain ⟨hl, he⟩ := hd.2 ds rfl
      exact go_dm h1 hm (fun d m hd h => plan_dm h1 hm k d m hd h) ds 0 FM.one m he (by omega) (one_dm (by omega) (by omega)) h
    · cases h
end A46

set_option Elab.async false
set_option linter.all false
set_option maxRecDepth 100000
set_option maxHeartbeats 1000000
set_option exponentiation.threshold 10000
namespace A46
open PySem PySem.Spec PyProof.Rows L2 Ar TL
local macro_rules | `(tactic| simp_arith) => `(tactic| simp -implicitDefEqProofs only [↓ok_ok, ↓ok_stk, ↓ok_exc, ↓ok_bind, ↓ok_nox, ↓ok_of, ↓ok_lenO, ↓ok_propO, ↓ok_txtO, ↓ok_clsM, ↓ok_tupRg, ↓ok_lstRg, ↓oko_some, ↓oko_none, ↓oko_ite, ↓oko_map, ↓ok_ite, ↓oks_nx, ↓oks_stk, ↓oks_exc, ↓oks_bk, ↓oks_ct, ↓oks_rt, ↓oks_then, ↓oks_thenN, ↓ok_var0, ↓ok_varS, ↓ok_c, ↓ok_bin, ↓ok_un, ↓okb, ↓ok_test, ↓ok_tru, ↓ok_and, ↓ok_or, ↓ok_not, ↓ok_andV, ↓ok_orV, ↓ok_notV, ↓ok_if, ↓ok_ifT, ↓ok_fld, ↓ok_slt, ↓o_slt0, ↓ok_make, ↓ok_makeS, ↓o_isaC, ↓o_isn_ins, ↓o_is_ins, ↓ok_izip, ↓zipR_ll, ↓zipR_tl, ↓zipR_tt, ↓o_parts, ↓o_shares, ↓o_east, ↓o_north, ↓o_rests, zip2, zip3, ↓ok_nil, ↓ok_cons, ↓ok_star, ↓seqA_tup, ↓seqA_lst, ↓ok_revL, ↓ok_revLM, ↓ok_cmp2, ↓ok_tup, ↓ok_lst, ↓ok_lstM, ↓ok_fn, ↓ok_call, ↓ok_callK, ↓ok_noPart, ↓oki, ↓ok_part, ↓ok_sl, ↓oks_next, ↓oks_seq, ↓oks_drop, ↓oks_ret, ↓oks_retN, ↓oks_break, ↓oks_cont, ↓oks_never, ↓oks_if, ↓oks_try, ↓oks_asg, ↓oks_set, ↓ok_gName, ↓ok_gNil, ↓ok_gCons, ↓ok_gTup, ↓ok_gUnl, ↓ok_gSub, ↓okl2, ↓okl3, ↓oks_par, ↓oks_par3, ↓okv0, ↓okvS, ↓oks_aug, ↓ok_append, ↓ok_extend, ↓seqL_lst, ↓ok_strM, ↓ok_def, ↓ok_iSeq, ↓oki1, ↓oki2, ↓ok_range1, ↓ok_range2, ↓oks_for, ↓ok_lc, ↓ok_finL, ↓ok_finM, ↓ok_yes, ↓setg0, ↓setgS, ↓unsetg0, ↓unsetgS, ↓wipeg0, ↓wipegS, ↓initg0, ↓initgN, ↓initgS, ↓lenis0, ↓lenisS, ↓lenle0, ↓lenleS, ↓seqI_lst, ↓seqIE_lst, ↓seqIE_tup, ↓seqIE_scr, ↓seqI_str, ↓okt, ↓ok_kIx, ↓ok_kGet, ↓ok_revS, ↓okd, ↓ok_dGet, ↓o_mulS, ↓seqI_tup, ↓seqI_scr, ↓o_ne_mv, ↓o_eq_mv, ↓ok_enum, ↓okl1, ↓o_mul_rep, ↓o_mul_iiF, cut_2of3, ↓o_ne_2, ↓o_eq_2, ↓o_ne_bb, ↓o_eq_bb, ↓o_tru_b, ↓o_tru_i, ↓o_tru_t, ↓o_tru_l, ↓o_tru_n, ↓o_isn_non, ↓o_isn_int, ↓o_isn_tup, ↓o_isn_lst, ↓o_isn_str, ↓o_is_non, ↓o_is_int, ↓o_is_tup, ↓o_is_lst, ↓o_is_str, ↓o_eq_ii, ↓o_ne_ii, ↓o_add_ii, ↓o_sub_ii, ↓o_mul_ii, ↓o_div_ii, ↓o_mod_ii, ↓o_lt_ii, ↓o_le_ii, ↓o_gt_ii, ↓o_ge_ii, ↓o_add_tt, ↓o_add_ll, ↓o_add_ss, ↓o_divmod_ii, ↓o_neg_i, ↓o_int_i, ↓o_abs_i, ↓o_max_ii, ↓o_max1_3, ↓o_min1_3, ↓o_min_ii, ↓o_len_tup, ↓o_len_lst, ↓o_len_scr, ↓o_slc_lst, ↓o_slc_scr, ↓o_slc_tup, ↓o_tuple_lst, ↓o_tuple_tup, ↓o_tuple_scr, ↓o_list_tup, ↓o_list_lst, ↓o_bool_b, ↓o_isa_int_int, ↓o_isa_int_bool, ↓o_isa_int_tup, ↓o_isa_int_str, ↓o_isa_int_lst, ↓o_isa_bl_int, ↓o_isa_bl_bool, ↓o_isa_tup_tup, ↓o_isa_tup_int, ↓o_isa_tup_lst, ↓o_isa_tup_str, ↓o_isa_str_str, ↓o_isa_str_int, ↓o_isa_str_tup, ↓o_isa_lst_lst, ↓o_isa_lst_tup, ↓o_isa_lst_int, ↓o_isa_non_int, ↓o_isa_non_tup, ↓o_sum_3, ↓o_all_3, ↓o_atI_0, ↓o_atI_1, ↓o_atI_2, ↓o_atI_3, ↓o_atI_4, ↓o_atI_5, ↓o_ixN_30, ↓o_ixN_31, ↓o_ixN_32, ↓o_fix_tup, ↓o_fix_lst, ↓o_fix_scr, ↓o_pow_6, ↓o_pow_18, pick_0, pick_01, pick_10, pick_012, pick_021, pick_102, pick_120, pick_201, pick_210, eq_self, List.cons_append, List.nil_append, List.append_nil, List.set_set, List.set_cons_zero, List.set_cons_succ, List.length_cons, List.length_nil, Nat.zero_add, Nat.reduceAdd, Nat.reduceLeDiff, castN, natabsN, mulOkL, mulOkR, Bool.true_or, Nat.reducePow, Nat.reduceLT, ne_eq, not_true_eq_false, not_false_eq_true, rng_3, rng_2, Int.reduceEq, Int.reduceLT, Int.reduceLE, Int.reduceAdd, Int.reduceSub, Int.reduceMul, Int.reduceNeg, true_and, and_true, if_true, if_false, Bool.false_eq_true, Bool.true_eq_false, decide_true, decide_false, Bool.not_true, Bool.not_false, Bool.and_true, Bool.true_and, Bool.and_false, Bool.false_and])
local macro_rules | `(tactic| simp_arith [$ts,*]) => `(tactic| simp -implicitDefEqProofs only [↓ok_ok, ↓ok_stk, ↓ok_exc, ↓ok_bind, ↓ok_nox, ↓ok_of, ↓ok_lenO, ↓ok_propO, ↓ok_txtO, ↓ok_clsM, ↓ok_tupRg, ↓ok_lstRg, ↓oko_some, ↓oko_none, ↓oko_ite, ↓oko_map, ↓ok_ite, ↓oks_nx, ↓oks_stk, ↓oks_exc, ↓oks_bk, ↓oks_ct, ↓oks_rt, ↓oks_then, ↓oks_thenN, ↓ok_var0, ↓ok_varS, ↓ok_c, ↓ok_bin, ↓ok_un, ↓okb, ↓ok_test, ↓ok_tru, ↓ok_and, ↓ok_or, ↓ok_not, ↓ok_andV, ↓ok_orV, ↓ok_notV, ↓ok_if, ↓ok_ifT, ↓ok_fld, ↓ok_slt, ↓o_slt0, ↓ok_make, ↓ok_makeS, ↓o_isaC, ↓o_isn_ins, ↓o_is_ins, ↓ok_izip, ↓zipR_ll, ↓zipR_tl, ↓zipR_tt, ↓o_parts, ↓o_shares, ↓o_east, ↓o_north, ↓o_rests, zip2, zip3, ↓ok_nil, ↓ok_cons, ↓ok_star, ↓seqA_tup, ↓seqA_lst, ↓ok_revL, ↓ok_revLM, ↓ok_cmp2, ↓ok_tup, ↓ok_lst, ↓ok_lstM, ↓ok_fn, ↓ok_call, ↓ok_callK, ↓ok_noPart, ↓oki, ↓ok_part, ↓ok_sl, ↓oks_next, ↓oks_seq, ↓oks_drop, ↓oks_ret, ↓oks_retN, ↓oks_break, ↓oks_cont, ↓oks_never, ↓oks_if, ↓oks_try, ↓oks_asg, ↓oks_set, ↓ok_gName, ↓ok_gNil, ↓ok_gCons, ↓ok_gTup, ↓ok_gUnl, ↓ok_gSub, ↓okl2, ↓okl3, ↓oks_par, ↓oks_par3, ↓okv0, ↓okvS, ↓oks_aug, ↓ok_append, ↓ok_extend, ↓seqL_lst, ↓ok_strM, ↓ok_def, ↓ok_iSeq, ↓oki1, ↓oki2, ↓ok_range1, ↓ok_range2, ↓oks_for, ↓ok_lc, ↓ok_finL, ↓ok_finM, ↓ok_yes, ↓setg0, ↓setgS, ↓unsetg0, ↓unsetgS, ↓wipeg0, ↓wipegS, ↓initg0, ↓initgN, ↓initgS, ↓lenis0, ↓lenisS, ↓lenle0, ↓lenleS, ↓seqI_lst, ↓seqIE_lst, ↓seqIE_tup, ↓seqIE_scr, ↓seqI_str, ↓okt, ↓ok_kIx, ↓ok_kGet, ↓ok_revS, ↓okd, ↓ok_dGet, ↓o_mulS, ↓seqI_tup, ↓seqI_scr, ↓o_ne_mv, ↓o_eq_mv, ↓ok_enum, ↓okl1, ↓o_mul_rep, ↓o_mul_iiF, cut_2of3, ↓o_ne_2, ↓o_eq_2, ↓o_ne_bb, ↓o_eq_bb, ↓o_tru_b, ↓o_tru_i, ↓o_tru_t, ↓o_tru_l, ↓o_tru_n, ↓o_isn_non, ↓o_isn_int, ↓o_isn_tup, ↓o_isn_lst, ↓o_isn_str, ↓o_is_non, ↓o_is_int, ↓o_is_tup, ↓o_is_lst, ↓o_is_str, ↓o_eq_ii, ↓o_ne_ii, ↓o_add_ii, ↓o_sub_ii, ↓o_mul_ii, ↓o_div_ii, ↓o_mod_ii, ↓o_lt_ii, ↓o_le_ii, ↓o_gt_ii, ↓o_ge_ii, ↓o_add_tt, ↓o_add_ll, ↓o_add_ss, ↓o_divmod_ii, ↓o_neg_i, ↓o_int_i, ↓o_abs_i, ↓o_max_ii, ↓o_max1_3, ↓o_min1_3, ↓o_min_ii, ↓o_len_tup, ↓o_len_lst, ↓o_len_scr, ↓o_slc_lst, ↓o_slc_scr, ↓o_slc_tup, ↓o_tuple_lst, ↓o_tuple_tup, ↓o_tuple_scr, ↓o_list_tup, ↓o_list_lst, ↓o_bool_b, ↓o_isa_int_int, ↓o_isa_int_bool, ↓o_isa_int_tup, ↓o_isa_int_str, ↓o_isa_int_lst, ↓o_isa_bl_int, ↓o_isa_bl_bool, ↓o_isa_tup_tup, ↓o_isa_tup_int, ↓o_isa_tup_lst, ↓o_isa_tup_str, ↓o_isa_str_str, ↓o_isa_str_int, ↓o_isa_str_tup, ↓o_isa_lst_lst, ↓o_isa_lst_tup, ↓o_isa_lst_int, ↓o_isa_non_int, ↓o_isa_non_tup, ↓o_sum_3, ↓o_all_3, ↓o_atI_0, ↓o_atI_1, ↓o_atI_2, ↓o_atI_3, ↓o_atI_4, ↓o_atI_5, ↓o_ixN_30, ↓o_ixN_31, ↓o_ixN_32, ↓o_fix_tup, ↓o_fix_lst, ↓o_fix_scr, ↓o_pow_6, ↓o_pow_18, pick_0, pick_01, pick_10, pick_012, pick_021, pick_102, pick_120, pick_201, pick_210, eq_self, List.cons_append, List.nil_append, List.append_nil, List.set_set, List.set_cons_zero, List.set_cons_succ, List.length_cons, List.length_nil, Nat.zero_add, Nat.reduceAdd, Nat.reduceLeDiff, castN, natabsN, mulOkL, mulOkR, Bool.true_or, Nat.reducePow, Nat.reduceLT, ne_eq, not_true_eq_false, not_false_eq_true, rng_3, rng_2, Int.reduceEq, Int.reduceLT, Int.reduceLE, Int.reduceAdd, Int.reduceSub, Int.reduceMul, Int.reduceNeg, true_and, and_true, if_true, if_false, Bool.false_eq_true, Bool.true_eq_false, decide_true, decide_false, Bool.not_true, Bool.not_false, Bool.and_true, Bool.true_and, Bool.and_false, Bool.false_and, $ts,*])
noncomputable abbrev PMB (pt : Fn) : DS := (dSeq (dIfS (dOr (dNot (dTru (dFn fIsa (daCons (dVar 4) (daCons (dC (.ty "tuple")) (daNil)))))) (dOr (dTest (dBin fNe (dFn fLen (daCons (dVar 4) (daNil))) (dC (.int 2)))) (dOr (dNot (dTru (dCall m_is_integer (daCons (dBin fIx (dVar 4) (dC (.int 1))) (daNil))))) (dTest (dBin fEq (dBin fIx (dVar 4) (dC (.int 1))) (dC (.int 0))))))) (dRet (dC .non)) (dsNext)) (dSeq (dSet 5 (dCall pt (daCons (dVar 0) (daCons (dBin fIx (dVar 4) (dC (.int 0))) (daCons (dVar 2) (daNil)))))) (dSeq (dIfS (dTest (dBin (fIs false) (dVar 5) (dC .non))) (dRet (dC .non)) (dsNext)) (dSet 3 (dCall m_then_move (daCons (dVar 3) (daCons (dCall m_often_move (daCons (dVar 5) (daCons (dBin fIx (dVar 4) (dC (.int 1))) (daNil)))) (daNil))))))))
noncomputable abbrev PMF (pt : Fn) : Fn := dDef 3 6 (dSeq (dIfS (dOr (dNot (dTru (dFn fIsa (daCons (dVar 1) (daCons (dC (.ty "tuple")) (daNil)))))) (dTest (dBin fEq (dVar 2) (dC (.int 0))))) (dRet (dC .non)) (dsNext)) (dSeq (dSet 3 (dC (.tup [.int 0, .int 0, .int 0]))) (dSeq (dFor (diSeq (dVar 1)) (dgName 4) (PMB pt)) (dRet (dVar 3)))))
noncomputable abbrev PTF (pm : Fn) : Fn := dDef 3 3 (dSeq (dIfS (dTru (dFn fIsa (daCons (dVar 1) (daCons (dC (.ty "tuple")) (daNil))))) (dRet (dCall pm (daCons (dVar 0) (daCons (dVar 1) (daCons (dBin fSubI (dVar 2) (dC (.int 1))) (daNil)))))) (dsNext)) (dSeq (dIfS (dOr (dNot (dTru (dCall m_is_integer (daCons (dVar 1) (daNil))))) (dNot (dTest (dCmp2 fLe fLt (dC (.int 0)) (dVar 1) (dLenO "Lot" m_Lot__len (dVar 0)))))) (dRet (dC .non)) (dsNext)) (dRet (dBin fIx (dSlt "Lot" 0 (dVar 0)) (dVar 1)))))

theorem lenlot_spec {ms : List FM.Mv} {μ : Mu} {Q : D → Mu → Prop} (q : Q (.int (ms.length : Nat)) μ) : Ok (m_Lot__len [lotD ms] μ) Q := by
  unfold m_Lot__len
  simp_arith
  rw [List.length_map]
  exact q
theorem partV_int {ms : List FM.Mv} {f : D → Option FM.Mv} {i : Int} : partV ms f (.int i) = if 0 ≤ i ∧ i < (ms.length : Nat) then some (ms.getD i.toNat FM.one) else none := rfl
theorem pairV_two {ms : List FM.Mv} {f : D → Option FM.Mv} {p : D} {n : Int} : pairV ms f (.tup [p, .int n]) = if n = 0 then none else (partV ms f p).map fun m => (m, n) := rfl
theorem pairV_long {ms : List FM.Mv} {f : D → Option FM.Mv} {x y z : D} {r : List D} : pairV ms f (.tup (x :: y :: z :: r)) = none := by
  unfold pairV
  split
  · rename_i h
    cases h
  · rfl
theorem isn_oM {μ : Mu} {o : Option FM.Mv} {P : D → Prop} : OkO (fIs false μ (oM o) .non) P = P (.bl o.isNone) := by
  cases o <;> rfl
theorem at_map {ms : List FM.Mv} {i : Int} (h0 : 0 ≤ i) (h1 : i < (ms.length : Nat)) {P : D → Prop} : OkO (L2.atI (ms.map mw) i) P = P (mw (ms.getD i.toNat FM.one)) := by
  obtain ⟨k, rfl⟩ := Int.eq_ofNat_of_zero_le h0
  have hk : k < ms.length := by omega
  rw [Ar.atI_nat, List.getElem?_map, List.getElem?_eq_getElem hk]
  simp [List.getD, hk, OkO]
/-- what a copy of plan_move does at the depth k -/
def PMS (M : Nat) (pm : Fn) (ms : List FM.Mv) (k : Nat) : Prop := ∀ (d : D) (μ : Mu) (Q : D → Mu → Prop), Pk M k d → Q (oM (planV ms k d)) μ → Ok (pm [lotD ms, d, .int (k : Nat)] μ) Q
def PTS (M : Nat) (pt : Fn) (ms : List FM.Mv) (k : Nat) : Prop := ∀ (d : D) (μ : Mu) (Q : D → Mu → Prop), kd d = true → Pk M k d → Q (oM (partV ms (planV ms k) d)) μ → Ok (pt [lotD ms, d, .int ((k + 1 : Nat) : Int)] μ) Q
theorem sub_one (k : Nat) : ((k + 1 : Nat) : Int) - 1 = (k : Nat) := by omega
theorem pt_step {M k : Nat} {pm : Fn} {ms : List FM.Mv} (h5 : ms.length ≤ 5) (h : PMS M pm ms k) : PTS M (PTF pm) ms k := by
  intro d μ Q hk hp q
  have go : isT d = false → isI d = false → Q .non μ → Ok (PTF pm [lotD ms, d, .int ((k + 1 : Nat) : Int)] μ) Q := fun h1 h2 q => by
    simp_arith [isa_tup hk, h1]
    refine isint_v hk ?_
    rw [h2]
    simp_arith
    exact q
  cases d with
  | tup ds =>
    simp_arith [isa_tup hk, isT]
    rw [sub_one]
    exact h _ _ _ hp q
  | int i =>
    simp_arith
    refine isnum_spec ?_
    simp_arith
    by_cases h0 : 0 ≤ i
    · simp_arith [h0]
      refine ⟨_, rfl, lenlot_spec ⟨_, rfl, by omega, by omega, ?_⟩⟩
      by_cases h1 : i < (ms.length : Nat)
      · simp_arith [h1, ↓at_map h0 h1]
        rw [partV_int, if_pos ⟨h0, h1⟩] at q
        exact q
      · simp_arith [h1]
        rw [partV_int, if_neg (fun z => h1 z.2)] at q
        exact q
    · simp_arith [h0]
      rw [partV_int, if_neg (fun z => h0 z.1)] at q
      exact q
  | non => exact go rfl rfl q
  | bl b => exact go rfl rfl q
  | str z => exact go rfl rfl q
  | lst ds => exact go rfl rfl q
  | dK ds => exact go rfl rfl q
  | _ => cases hk
theorem pm_lp {M k : Nat} {pt : Fn} {ms : List FM.Mv} {g1 : Option D} (h1 : 1 ≤ M) (hb : Ax M (k + 1) ≤ 15000) (hb2 : Bx M (k + 1) ≤ 15000) (hM : M ≤ 15000) (hm : ∀ m ∈ ms, Dm2 25 25 m) (hp : PTS M pt ms k) : ∀ (ds : List D) (i : Nat) (a : FM.Mv) {g4 g5 : Option D} {μ : Mu} {N B C : Gam → Mu → Prop} {T : D → Mu → Prop}, (∀ e ∈ ds, PkE M (Pk M k) e) → i + ds.length ≤ 20 → Dm2 (M + Ax M k + i) (2 * M + 2 * Ax M k + Bx M k + 30 + 2 * i) a →
    (∀ m g4 g5, goV (pairV ms (planV ms k)) ds a = some m → N [some (lotD ms), g1, some (.int ((k + 1 : Nat) : Int)), some (mw m), g4, g5] μ) → (goV (pairV ms (planV ms k)) ds a = none → T .non μ) →
    OkS (forL (dgName 4) (PMB pt) ds [some (lotD ms), g1, some (.int ((k + 1 : Nat) : Int)), some (mw a), g4, g5] μ) N B C T
  | [], i, a, g4, g5, μ, N, B, C, T, he, hl, ha, qn, qt => by
    rw [oks_forNil]
    exact qn a g4 g5 rfl
  | d :: ds, i, a, g4, g5, μ, N, B, C, T, he, hl, ha, qn, qt => by
    rw [List.length_cons] at hl
    have hd := he d List.mem_cons_self
    have hA : Ax M (k + 1) = M + Ax M k + 20 := rfl
    have hB : Bx M (k + 1) = 2 * M + 2 * Ax M k + Bx M k + 70 := rfl
    rw [oks_forCons]
    have bad : pairV ms (planV ms k) d = none → T .non μ := fun z => qt (by unfold goV; rw [z])
    cases d with
    | tup es =>
      rcases es with _ | ⟨p, _ | ⟨n, _ | ⟨z, r⟩⟩⟩
      · simp_arith; exact bad rfl
      · simp_arith; exact bad rfl
      · obtain ⟨kp, pp, kn, gn⟩ := hd.2 p n rfl
        by_cases hi : isI n = true
        · cases n with
          | int j =>
            by_cases h0 : j = 0
            · subst h0
              simp_arith
              refine isnum_spec ?_
              simp_arith
              exact bad rfl
            · simp_arith
              refine isnum_spec ?_
              simp_arith [h0]
              refine hp p _ _ kp pp ?_
              simp_arith [↓isn_oM]
              cases hv : partV ms (planV ms k) p with
              | none =>
                rw [show (none : Option FM.Mv).isNone = true from rfl, if_pos rfl]
                exact bad (by rw [pairV_two, if_neg h0, hv]; rfl)
              | some m =>
                rw [if_neg (by simp)]
                have hpv : pairV ms (planV ms k) (.tup [p, .int j]) = some (m, j) := by rw [pairV_two, if_neg h0, hv]; rfl
                obtain ⟨d1, d2⟩ := pair_dm hm (fun d m hd h => plan_dm h1 hm k d m hd h) hd hpv
                unfold oM
                refine pow_spec d1 d2 (by omega) (by omega) hM h1 ?_
                try simp_arith
                refine mul_spec ha.x (d1.pow d2 h1).y (by omega) (by omega) ?_
                try simp_arith
                refine pm_lp h1 hb hb2 hM hm hp ds (i + 1) _ (fun e h => he e (List.mem_cons_of_mem _ h)) (by omega) (step_dm h1 (by omega) ha d1 d2) (fun m2 g4 g5 e => qn m2 g4 g5 ?_) fun e => qt ?_
                · unfold goV; rw [hpv]; exact e
                · unfold goV; rw [hpv]; exact e
          | _ => cases hi
        · have hi2 : isI n = false := by simpa using hi
          simp_arith
          refine isint_v kn ?_
          rw [hi2]
          simp_arith
          refine bad ?_
          cases n <;> first | rfl | cases hi2
      · have hn : ¬ ((((r.length + 1 + 1 + 1 : Nat)) : Int) = 2) := by omega
        simp_arith [hn]
        exact bad pairV_long
    | non => simp_arith; exact bad rfl
    | bl x => simp_arith [isa_tup hd.1, isT]; exact bad rfl
    | int x => simp_arith; exact bad rfl
    | str x => simp_arith [isa_tup hd.1, isT]; exact bad rfl
    | lst x => simp_arith; exact bad rfl
    | dK x => simp_arith [isa_tup hd.1, isT]; exact bad rfl
    | _ => exact absurd hd.1 (by simp [kd])
theorem pm_zero {M : Nat} {pt : Fn} {ms : List FM.Mv} : PMS M (PMF pt) ms 0 := by
  intro d μ Q hp q
  have hk := hp.kd
  simp_arith [isa_tup hk]
  cases isT d <;> simp_arith <;> exact q
theorem pm_step {M k : Nat} {pt : Fn} {ms : List FM.Mv} (h1 : 1 ≤ M) (hb : Ax M (k + 1) ≤ 15000) (hb2 : Bx M (k + 1) ≤ 15000) (hM : M ≤ 15000) (hm : ∀ m ∈ ms, Dm2 25 25 m) (h : PTS M pt ms k) : PMS M (PMF pt) ms (k + 1) := by
  intro d μ Q hp q
  have hk := hp.kd
  have h0 : ¬ (((k + 1 : Nat) : Int) = 0) := by omega
  have go : isT d = false → Q .non μ → Ok (PMF pt [lotD ms, d, .int ((k + 1 : Nat) : Int)] μ) Q := fun h1 q => by
    simp_arith [isa_tup hk, h1]
    exact q
  cases d with
  | tup ds =>
    obtain ⟨hl, he⟩ := hp.2 ds rfl
    simp_arith [isa_tup hk, isT, h0]
    refine pm_lp h1 hb hb2 hM hm h ds 0 FM.one he (by omega) (one_dm (by omega) (by omega)) (fun m g4 g5 e => ?_) fun e => ?_
    · simp_arith
      have e : planV ms (k + 1) (.tup ds) = some m := e
      rw [e] at q
      exact q
    · have e : planV ms (k + 1) (.tup ds) = none := e
      rw [e] at q
      exact q
  | non => exact go rfl q
  | bl b => exact go rfl q
  | int b => exact go rfl q
  | str z => exact go rfl q
  | lst ds => exact go rfl q
  | dK ds => exact go rfl q
  | _ => cases hk
/-! the law's own -/
theorem pm_2 {M : Nat} {ms : List FM.Mv} : PMS M m_plan_move__2 ms 0 := by
  rw [show m_plan_move__2 = PMF m_part_move__1 from by unfold m_plan_move__2; rfl]
  exact pm_zero
theorem pm_4 {M : Nat} {ms : List FM.Mv} (h1 : 1 ≤ M) (hM : M ≤ 200) (hb : ms.length ≤ 5) (hm : ∀ m ∈ ms, Dm2 25 25 m) : PMS M m_plan_move__4 ms 1 := by
  rw [show m_plan_move__4 = PMF m_part_move__3 from by unfold m_plan_move__4; rfl, show m_part_move__3 = PTF m_plan_move__2 from by unfold m_part_move__3; rfl]
  exact pm_step h1 (by simp only [Ax]; omega) (by simp only [Ax, Bx]; omega) (by omega) hm (pt_step hb pm_2)
theorem pm_6 {M : Nat} {ms : List FM.Mv} (h1 : 1 ≤ M) (hM : M ≤ 200) (hb : ms.length ≤ 5) (hm : ∀ m ∈ ms, Dm2 25 25 m) : PMS M m_plan_move__6 ms 2 := by
  rw [show m_plan_move__6 = PMF m_part_move__5 from by unfold m_plan_move__6; rfl, show m_part_move__5 = PTF m_plan_move__4 from by unfold m_part_move__5; rfl]
  exact pm_step h1 (by simp only [Ax]; omega) (by simp only [Ax, Bx]; omega) (by omega) hm (pt_step hb (pm_4 h1 hM hb hm))
theorem pm_8 {M : Nat} {ms : List FM.Mv} (h1 : 1 ≤ M) (hM : M ≤ 200) (hb : ms.length ≤ 5) (hm : ∀ m ∈ ms, Dm2 25 25 m) : PMS M m_plan_move__8 ms 3 := by
  rw [show m_plan_move__8 = PMF m_part_move__7 from by unfold m_plan_move__8; rfl, show m_part_move__7 = PTF m_plan_move__6 from by unfold m_part_move__7; rfl]
  exact pm_step h1 (by simp only [Ax]; omega) (by simp only [Ax, Bx]; omega) (by omega) hm (pt_step hb (pm_6 h1 hM hb hm))
theorem pm_10 {M : Nat} {ms : List FM.Mv} (h1 : 1 ≤ M) (hM : M ≤ 200) (hb : ms.length ≤ 5) (hm : ∀ m ∈ ms, Dm2 25 25 m) : PMS M m_plan_move__10 ms 4 := by
  rw [show m_plan_move__10 = PMF m_part_move__9 from by unfold m_plan_move__10; rfl, show m_part_move__9 = PTF m_plan_move__8 from by unfold m_part_move__9; rfl]
  exact pm_step h1 (by simp only [Ax]; omega) (by simp only [Ax, Bx]; omega) (by omega) hm (pt_step hb (pm_8 h1 hM hb hm))
theorem pm_12 {M : Nat} {ms : List FM.Mv} (h1 : 1 ≤ M) (hM : M ≤ 200) (hb : ms.length ≤ 5) (hm : ∀ m ∈ ms, Dm2 25 25 m) : PMS M m_plan_move__12 ms 5 := by
  rw [show m_plan_move__12 = PMF m_part_move__11 from by unfold m_plan_move__12; rfl, show m_part_move__11 = PTF m_plan_move__10 from by unfold m_part_move__11; rfl]
  exact pm_step h1 (by simp only [Ax]; omega) (by simp only [Ax, Bx]; omega) (by omega) hm (pt_step hb (pm_10 h1 hM hb hm))

end A46

set_option Elab.async false
set_option linter.all false
set_option maxRecDepth 100000
set_option maxHeartbeats 1000000
set_option exponentiation.threshold 10000
namespace A46
open PySem PySem.Spec PyProof.Rows L2 Ar TL
local macro_rules | `(tactic| simp_arith) => `(tactic| simp -implicitDefEqProofs only [↓ok_ok, ↓ok_stk, ↓ok_exc, ↓ok_bind, ↓ok_nox, ↓ok_of, ↓ok_lenO, ↓ok_propO, ↓ok_txtO, ↓ok_clsM, ↓ok_tupRg, ↓ok_lstRg, ↓oko_some, ↓oko_none, ↓oko_ite, ↓oko_map, ↓ok_ite, ↓oks_nx, ↓oks_stk, ↓oks_exc, ↓oks_bk, ↓oks_ct, ↓oks_rt, ↓oks_then, ↓oks_thenN, ↓ok_var0, ↓ok_varS, ↓ok_c, ↓ok_bin, ↓ok_un, ↓okb, ↓ok_test, ↓ok_tru, ↓ok_and, ↓ok_or, ↓ok_not, ↓ok_andV, ↓ok_orV, ↓ok_notV, ↓ok_if, ↓ok_ifT, ↓ok_fld, ↓ok_slt, ↓o_slt0, ↓ok_make, ↓ok_makeS, ↓o_isaC, ↓o_isn_ins, ↓o_is_ins, ↓ok_izip, ↓zipR_ll, ↓zipR_tl, ↓zipR_tt, ↓o_parts, ↓o_shares, ↓o_east, ↓o_north, ↓o_rests, zip2, zip3, ↓ok_nil, ↓ok_cons, ↓ok_star, ↓seqA_tup, ↓seqA_lst, ↓ok_revL, ↓ok_revLM, ↓ok_cmp2, ↓ok_tup, ↓ok_lst, ↓ok_lstM, ↓ok_fn, ↓ok_call, ↓ok_callK, ↓ok_noPart, ↓oki, ↓ok_part, ↓ok_sl, ↓oks_next, ↓oks_seq, ↓oks_drop, ↓oks_ret, ↓oks_retN, ↓oks_break, ↓oks_cont, ↓oks_never, ↓oks_if, ↓oks_try, ↓oks_asg, ↓oks_set, ↓ok_gName, ↓ok_gNil, ↓ok_gCons, ↓ok_gTup, ↓ok_gUnl, ↓ok_gSub, ↓okl2, ↓okl3, ↓oks_par, ↓oks_par3, ↓okv0, ↓okvS, ↓oks_aug, ↓ok_append, ↓ok_extend, ↓seqL_lst, ↓ok_strM, ↓ok_def, ↓ok_iSeq, ↓oki1, ↓oki2, ↓ok_range1, ↓ok_range2, ↓oks_for, ↓ok_lc, ↓ok_finL, ↓ok_finM, ↓ok_yes, ↓setg0, ↓setgS, ↓unsetg0, ↓unsetgS, ↓wipeg0, ↓wipegS, ↓initg0, ↓initgN, ↓initgS, ↓lenis0, ↓lenisS, ↓lenle0, ↓lenleS, ↓seqI_lst, ↓seqIE_lst, ↓seqIE_tup, ↓seqIE_scr, ↓seqI_str, ↓okt, ↓ok_kIx, ↓ok_kGet, ↓ok_revS, ↓okd, ↓ok_dGet, ↓o_mulS, ↓seqI_tup, ↓seqI_scr, ↓o_ne_mv, ↓o_eq_mv, ↓ok_enum, ↓okl1, ↓o_mul_rep, ↓o_mul_iiF, cut_2of3, ↓o_ne_2, ↓o_eq_2, ↓o_ne_bb, ↓o_eq_bb, ↓o_tru_b, ↓o_tru_i, ↓o_tru_t, ↓o_tru_l, ↓o_tru_n, ↓o_isn_non, ↓o_isn_int, ↓o_isn_tup, ↓o_isn_lst, ↓o_isn_str, ↓o_is_non, ↓o_is_int, ↓o_is_tup, ↓o_is_lst, ↓o_is_str, ↓o_eq_ii, ↓o_ne_ii, ↓o_add_ii, ↓o_sub_ii, ↓o_mul_ii, ↓o_div_ii, ↓o_mod_ii, ↓o_lt_ii, ↓o_le_ii, ↓o_gt_ii, ↓o_ge_ii, ↓o_add_tt, ↓o_add_ll, ↓o_add_ss, ↓o_divmod_ii, ↓o_neg_i, ↓o_int_i, ↓o_abs_i, ↓o_max_ii, ↓o_max1_3, ↓o_min1_3, ↓o_min_ii, ↓o_len_tup, ↓o_len_lst, ↓o_len_scr, ↓o_slc_lst, ↓o_slc_scr, ↓o_slc_tup, ↓o_tuple_lst, ↓o_tuple_tup, ↓o_tuple_scr, ↓o_list_tup, ↓o_list_lst, ↓o_bool_b, ↓o_isa_int_int, ↓o_isa_int_bool, ↓o_isa_int_tup, ↓o_isa_int_str, ↓o_isa_int_lst, ↓o_isa_bl_int, ↓o_isa_bl_bool, ↓o_isa_tup_tup, ↓o_isa_tup_int, ↓o_isa_tup_lst, ↓o_isa_tup_str, ↓o_isa_str_str, ↓o_isa_str_int, ↓o_isa_str_tup, ↓o_isa_lst_lst, ↓o_isa_lst_tup, ↓o_isa_lst_int, ↓o_isa_non_int, ↓o_isa_non_tup, ↓o_sum_3, ↓o_all_3, ↓o_atI_0, ↓o_atI_1, ↓o_atI_2, ↓o_atI_3, ↓o_atI_4, ↓o_atI_5, ↓o_ixN_30, ↓o_ixN_31, ↓o_ixN_32, ↓o_fix_tup, ↓o_fix_lst, ↓o_fix_scr, ↓o_pow_6, ↓o_pow_18, pick_0, pick_01, pick_10, pick_012, pick_021, pick_102, pick_120, pick_201, pick_210, eq_self, List.cons_append, List.nil_append, List.append_nil, List.set_set, List.set_cons_zero, List.set_cons_succ, List.length_cons, List.length_nil, Nat.zero_add, Nat.reduceAdd, Nat.reduceLeDiff, castN, natabsN, mulOkL, mulOkR, Bool.true_or, Nat.reducePow, Nat.reduceLT, ne_eq, not_true_eq_false, not_false_eq_true, rng_3, rng_2, Int.reduceEq, Int.reduceLT, Int.reduceLE, Int.reduceAdd, Int.reduceSub, Int.reduceMul, Int.reduceNeg, true_and, and_true, if_true, if_false, Bool.false_eq_true, Bool.true_eq_false, decide_true, decide_false, Bool.not_true, Bool.not_false, Bool.and_true, Bool.true_and, Bool.and_false, Bool.false_and])
local macro_rules | `(tactic| simp_arith [$ts,*]) => `(tactic| simp -implicitDefEqProofs only [↓ok_ok, ↓ok_stk, ↓ok_exc, ↓ok_bind, ↓ok_nox, ↓ok_of, ↓ok_lenO, ↓ok_propO, ↓ok_txtO, ↓ok_clsM, ↓ok_tupRg, ↓ok_lstRg, ↓oko_some, ↓oko_none, ↓oko_ite, ↓oko_map, ↓ok_ite, ↓oks_nx, ↓oks_stk, ↓oks_exc, ↓oks_bk, ↓oks_ct, ↓oks_rt, ↓oks_then, ↓oks_thenN, ↓ok_var0, ↓ok_varS, ↓ok_c, ↓ok_bin, ↓ok_un, ↓okb, ↓ok_test, ↓ok_tru, ↓ok_and, ↓ok_or, ↓ok_not, ↓ok_andV, ↓ok_orV, ↓ok_notV, ↓ok_if, ↓ok_ifT, ↓ok_fld, ↓ok_slt, ↓o_slt0, ↓ok_make, ↓ok_makeS, ↓o_isaC, ↓o_isn_ins, ↓o_is_ins, ↓ok_izip, ↓zipR_ll, ↓zipR_tl, ↓zipR_tt, ↓o_parts, ↓o_shares, ↓o_east, ↓o_north, ↓o_rests, zip2, zip3, ↓ok_nil, ↓ok_cons, ↓ok_star, ↓seqA_tup, ↓seqA_lst, ↓ok_revL, ↓ok_revLM, ↓ok_cmp2, ↓ok_tup, ↓ok_lst, ↓ok_lstM, ↓ok_fn, ↓ok_call, ↓ok_callK, ↓ok_noPart, ↓oki, ↓ok_part, ↓ok_sl, ↓oks_next, ↓oks_seq, ↓oks_drop, ↓oks_ret, ↓oks_retN, ↓oks_break, ↓oks_cont, ↓oks_never, ↓oks_if, ↓oks_try, ↓oks_asg, ↓oks_set, ↓ok_gName, ↓ok_gNil, ↓ok_gCons, ↓ok_gTup, ↓ok_gUnl, ↓ok_gSub, ↓okl2, ↓okl3, ↓oks_par, ↓oks_par3, ↓okv0, ↓okvS, ↓oks_aug, ↓ok_append, ↓ok_extend, ↓seqL_lst, ↓ok_strM, ↓ok_def, ↓ok_iSeq, ↓oki1, ↓oki2, ↓ok_range1, ↓ok_range2, ↓oks_for, ↓ok_lc, ↓ok_finL, ↓ok_finM, ↓ok_yes, ↓setg0, ↓setgS, ↓unsetg0, ↓unsetgS, ↓wipeg0, ↓wipegS, ↓initg0, ↓initgN, ↓initgS, ↓lenis0, ↓lenisS, ↓lenle0, ↓lenleS, ↓seqI_lst, ↓seqIE_lst, ↓seqIE_tup, ↓seqIE_scr, ↓seqI_str, ↓okt, ↓ok_kIx, ↓ok_kGet, ↓ok_revS, ↓okd, ↓ok_dGet, ↓o_mulS, ↓seqI_tup, ↓seqI_scr, ↓o_ne_mv, ↓o_eq_mv, ↓ok_enum, ↓okl1, ↓o_mul_rep, ↓o_mul_iiF, cut_2of3, ↓o_ne_2, ↓o_eq_2, ↓o_ne_bb, ↓o_eq_bb, ↓o_tru_b, ↓o_tru_i, ↓o_tru_t, ↓o_tru_l, ↓o_tru_n, ↓o_isn_non, ↓o_isn_int, ↓o_isn_tup, ↓o_isn_lst, ↓o_isn_str, ↓o_is_non, ↓o_is_int, ↓o_is_tup, ↓o_is_lst, ↓o_is_str, ↓o_eq_ii, ↓o_ne_ii, ↓o_add_ii, ↓o_sub_ii, ↓o_mul_ii, ↓o_div_ii, ↓o_mod_ii, ↓o_lt_ii, ↓o_le_ii, ↓o_gt_ii, ↓o_ge_ii, ↓o_add_tt, ↓o_add_ll, ↓o_add_ss, ↓o_divmod_ii, ↓o_neg_i, ↓o_int_i, ↓o_abs_i, ↓o_max_ii, ↓o_max1_3, ↓o_min1_3, ↓o_min_ii, ↓o_len_tup, ↓o_len_lst, ↓o_len_scr, ↓o_slc_lst, ↓o_slc_scr, ↓o_slc_tup, ↓o_tuple_lst, ↓o_tuple_tup, ↓o_tuple_scr, ↓o_list_tup, ↓o_list_lst, ↓o_bool_b, ↓o_isa_int_int, ↓o_isa_int_bool, ↓o_isa_int_tup, ↓o_isa_int_str, ↓o_isa_int_lst, ↓o_isa_bl_int, ↓o_isa_bl_bool, ↓o_isa_tup_tup, ↓o_isa_tup_int, ↓o_isa_tup_lst, ↓o_isa_tup_str, ↓o_isa_str_str, ↓o_isa_str_int, ↓o_isa_str_tup, ↓o_isa_lst_lst, ↓o_isa_lst_tup, ↓o_isa_lst_int, ↓o_isa_non_int, ↓o_isa_non_tup, ↓o_sum_3, ↓o_all_3, ↓o_atI_0, ↓o_atI_1, ↓o_atI_2, ↓o_atI_3, ↓o_atI_4, ↓o_atI_5, ↓o_ixN_30, ↓o_ixN_31, ↓o_ixN_32, ↓o_fix_tup, ↓o_fix_lst, ↓o_fix_scr, ↓o_pow_6, ↓o_pow_18, pick_0, pick_01, pick_10, pick_012, pick_021, pick_102, pick_120, pick_201, pick_210, eq_self, List.cons_append, List.nil_append, List.append_nil, List.set_set, List.set_cons_zero, List.set_cons_succ, List.length_cons, List.length_nil, Nat.zero_add, Nat.reduceAdd, Nat.reduceLeDiff, castN, natabsN, mulOkL, mulOkR, Bool.true_or, Nat.reducePow, Nat.reduceLT, ne_eq, not_true_eq_false, not_false_eq_true, rng_3, rng_2, Int.reduceEq, Int.reduceLT, Int.reduceLE, Int.reduceAdd, Int.reduceSub, Int.reduceMul, Int.reduceNeg, true_and, and_true, if_true, if_false, Bool.false_eq_true, Bool.true_eq_false, decide_true, decide_false, Bool.not_true, Bool.not_false, Bool.and_true, Bool.true_and, Bool.and_false, Bool.false_and, $ts,*])
/-- a triple that may be a form -/
abbrev triD (e n : Option FM.Mv) (g : Int) : D := .tup [optM e, optM n, .int g]
theorem isnone_n {μ : Mu} {Q : D → Mu → Prop} (q : Q (.bl true) μ) : Ok (m_is_none [.tup []] μ) Q := by
  unfold m_is_none
  simp_arith
  exact q
theorem isnone_m {m : FM.Mv} {μ : Mu} {Q : D → Mu → Prop} (q : Q (.bl false) μ) : Ok (m_is_none [mw m] μ) Q := by
  unfold m_is_none
  simp_arith
  exact q
def Within (v g : Int) : Prop := g = 0 ∨ (0 ≤ v ∧ v < g)
theorem iswithin_spec {v g : Int} {μ : Mu} {Q : D → Mu → Prop} (q : ∀ b : Bool, (b = true ↔ Within v g) → Q (.bl b) μ) : Ok (m_is_within [.int v, .int g] μ) Q := by
  unfold m_is_within Within at *
  simp_arith
  by_cases h : g = 0
  · rw [decide_eq_true h]
    simp_arith
    exact q true (by simp [h])
  · rw [decide_eq_false h]
    simp_arith
    by_cases h1 : 0 ≤ v
    · rw [decide_eq_true h1]
      simp_arith
      exact q _ (by rw [decide_eq_true_iff]; omega)
    · rw [decide_eq_false h1]
      simp_arith
      exact q false (by simp; omega)
theorem iscount_spec {g : Int} {μ : Mu} {Q : D → Mu → Prop} (q : Q (.bl (decide (0 ≤ g))) μ) : Ok (m_is_count [.int g] μ) Q := by
  unfold m_is_count
  simp_arith
  refine isnum_spec ?_
  try simp_arith
  exact q
def NorthOk (m : FM.Mv) (g : Int) : Prop := m.x = 0 ∧ 0 < m.y ∧ Within m.s g
theorem isnorth_spec {m : FM.Mv} {g : Int} {μ : Mu} {Q : D → Mu → Prop} (q : ∀ b : Bool, (b = true ↔ NorthOk m g) → Q (.bl b) μ) : Ok (m_is_north [mw m, .int g] μ) Q := by
  unfold m_is_north NorthOk at *
  simp_arith
  refine ismv_spec ?_
  simp_arith
  by_cases h : m.x = 0
  · rw [decide_eq_true h]
    simp_arith
    by_cases h1 : 0 < m.y
    · rw [decide_eq_true h1]
      simp_arith
      exact iswithin_spec fun b hb => q b (by simp [h, h1, hb])
    · rw [decide_eq_false h1]
      simp_arith
      exact q false (by simp [h1])
  · rw [decide_eq_false h]
    simp_arith
    exact q false (by simp [h])
def EastOk (m : FM.Mv) (n : Option FM.Mv) (g : Int) : Prop := 1 ≤ m.x ∧ Within m.s g ∧ ∀ k, n = some k → 0 ≤ m.y ∧ m.y < k.y ∧ 0 < g ∧ (m.x * k.y).fmod g = 0
theorem iseast_spec {m : FM.Mv} {n : Option FM.Mv} {e : D} {g : Int} {c : Nat} {μ : Mu} {Q : D → Mu → Prop} (hm : Dg c m.x) (hn : ∀ k, n = some k → Dg c k.y) (hc : c ≤ 5000) (q : ∀ b : Bool, (b = true ↔ EastOk m n g) → Q (.bl b) μ) : Ok (m_is_east [mw m, .tup [e, optM n, .int g]] μ) Q := by
  unfold m_is_east EastOk at *
  simp_arith
  refine ismv_spec ?_
  simp_arith
  by_cases h : m.x < 1
  · rw [decide_eq_true h]
    simp_arith
    exact q false (by simp; omega)
  · rw [decide_eq_false h]
    simp_arith
    refine iswithin_spec fun b hb => ?_
    cases b with
    | false =>
      simp_arith
      have : ¬ Within m.s g := fun z => by simpa using hb.mpr z
      exact q false (by simp [this])
    | true =>
      have hw := hb.mp rfl
      simp_arith
      cases n with
      | none =>
        simp_arith [optM, ↓o_eq_nn]
        exact q true (by simp [hw]; omega)
      | some k =>
        simp_arith [optM, ↓o_eq_tn]
        by_cases h1 : 0 ≤ m.y
        · rw [decide_eq_true h1]
          simp_arith
          by_cases h2 : m.y < k.y
          · rw [decide_eq_true h2]
            simp_arith
            by_cases h3 : 0 < g
            · rw [decide_eq_true h3]
              simp_arith
              exact ⟨hm.ok (hn k rfl) (by omega) (by omega), by omega, q _ (by rw [decide_eq_true_iff]; simp [hw, h1, h2, h3]; omega)⟩
            · rw [decide_eq_false h3]
              simp_arith
              exact q false (by simp [h3])
          · rw [decide_eq_false h2]
            simp_arith
            exact q false (by simp; omega)
        · rw [decide_eq_false h1]
          simp_arith
          exact q false (by simp; omega)
def IsF (e n : Option FM.Mv) (g : Int) : Prop := 0 ≤ g ∧ (∀ k, n = some k → NorthOk k g) ∧ ∀ m, e = some m → EastOk m n g
structure TriOk (x0 c : Nat) (e n : Option FM.Mv) (g : Int) : Prop where
  eb : ∀ m, e = some m → m.x.natAbs ≤ x0 ∧ Dm2 c c m
  nb : ∀ m, n = some m → Dm2 c c m
  gb : Dg c g
theorem isform_spec {e n : Option FM.Mv} {g : Int} {x0 c : Nat} {μ : Mu} {Q : D → Mu → Prop} (t : TriOk x0 c e n g) (hc : c ≤ 5000) (q : ∀ b : Bool, (b = true ↔ IsF e n g) → Q (.bl b) μ) : Ok (m_is_form [triD e n g] μ) Q := by
  unfold m_is_form IsF at *
  simp_arith
  refine iscount_spec ?_
  simp_arith
  by_cases h : 0 ≤ g
  · rw [decide_eq_true h]
    simp_arith
    have rest : (∀ k, n = some k → NorthOk k g) → Ok (m_is_none [optM e] μ) fun c μ1 => OkB c fun b => if b = true then Q (D.bl true) μ1 else Ok (m_is_east [optM e, triD e n g] μ1) Q := fun hk => by
      cases e with
      | none =>
        refine isnone_n ?_
        simp_arith
        exact q true (by simp [h]; exact hk)
      | some m =>
        refine isnone_m ?_
        simp_arith
        exact iseast_spec (t.eb m rfl).2.x (fun k hk => (t.nb k hk).y) hc fun b hb => q b (by simp [h, hb]; exact fun _ => hk)
    cases n with
    | none =>
      refine isnone_n ?_
      simp_arith
      exact rest (by simp)
    | some k =>
      refine isnone_m ?_
      simp_arith
      refine isnorth_spec fun b hb => ?_
      cases b with
      | false =>
        simp_arith
        have : ¬ NorthOk k g := fun z => by simpa using hb.mpr z
        exact q false (by simp [this])
      | true =>
        simp_arith
        exact rest (by simp; exact hb.mp rfl)
  · rw [decide_eq_false h]
    simp_arith
    exact q false (by simp; omega)
end A46

set_option Elab.async false
set_option linter.all false
set_option maxRecDepth 100000
set_option maxHeartbeats 1000000
set_option exponentiation.threshold 10000
namespace A46
open PySem PySem.Spec PyProof.Rows L2 Ar TL
local macro_rules | `(tactic| simp_arith) => `(tactic| simp -implicitDefEqProofs only [↓ok_ok, ↓ok_stk, ↓ok_exc, ↓ok_bind, ↓ok_nox, ↓ok_of, ↓ok_lenO, ↓ok_propO, ↓ok_txtO, ↓ok_clsM, ↓ok_tupRg, ↓ok_lstRg, ↓oko_some, ↓oko_none, ↓oko_ite, ↓oko_map, ↓ok_ite, ↓oks_nx, ↓oks_stk, ↓oks_exc, ↓oks_bk, ↓oks_ct, ↓oks_rt, ↓oks_then, ↓oks_thenN, ↓ok_var0, ↓ok_varS, ↓ok_c, ↓ok_bin, ↓ok_un, ↓okb, ↓ok_test, ↓ok_tru, ↓ok_and, ↓ok_or, ↓ok_not, ↓ok_andV, ↓ok_orV, ↓ok_notV, ↓ok_if, ↓ok_ifT, ↓ok_fld, ↓ok_slt, ↓o_slt0, ↓ok_make, ↓ok_makeS, ↓o_isaC, ↓o_isn_ins, ↓o_is_ins, ↓ok_izip, ↓zipR_ll, ↓zipR_tl, ↓zipR_tt, ↓o_parts, ↓o_shares, ↓o_east, ↓o_north, ↓o_rests, zip2, zip3, ↓ok_nil, ↓ok_cons, ↓ok_star, ↓seqA_tup, ↓seqA_lst, ↓ok_revL, ↓ok_revLM, ↓ok_cmp2, ↓ok_tup, ↓ok_lst, ↓ok_lstM, ↓ok_fn, ↓ok_call, ↓ok_callK, ↓ok_noPart, ↓oki, ↓ok_part, ↓ok_sl, ↓oks_next, ↓oks_seq, ↓oks_drop, ↓oks_ret, ↓oks_retN, ↓oks_break, ↓oks_cont, ↓oks_never, ↓oks_if, ↓oks_try, ↓oks_asg, ↓oks_set, ↓ok_gName, ↓ok_gNil, ↓ok_gCons, ↓ok_gTup, ↓ok_gUnl, ↓ok_gSub, ↓okl2, ↓okl3, ↓oks_par, ↓oks_par3, ↓okv0, ↓okvS, ↓oks_aug, ↓ok_append, ↓ok_extend, ↓seqL_lst, ↓ok_strM, ↓ok_def, ↓ok_iSeq, ↓oki1, ↓oki2, ↓ok_range1, ↓ok_range2, ↓oks_for, ↓ok_lc, ↓ok_finL, ↓ok_finM, ↓ok_yes, ↓setg0, ↓setgS, ↓unsetg0, ↓unsetgS, ↓wipeg0, ↓wipegS, ↓initg0, ↓initgN, ↓initgS, ↓lenis0, ↓lenisS, ↓lenle0, ↓lenleS, ↓seqI_lst, ↓seqIE_lst, ↓seqIE_tup, ↓seqIE_scr, ↓seqI_str, ↓okt, ↓ok_kIx, ↓ok_kGet, ↓ok_revS, ↓okd, ↓ok_dGet, ↓o_mulS, ↓seqI_tup, ↓seqI_scr, ↓o_ne_mv, ↓o_eq_mv, ↓ok_enum, ↓okl1, ↓o_mul_rep, ↓o_mul_iiF, cut_2of3, ↓o_ne_2, ↓o_eq_2, ↓o_ne_bb, ↓o_eq_bb, ↓o_tru_b, ↓o_tru_i, ↓o_tru_t, ↓o_tru_l, ↓o_tru_n, ↓o_isn_non, ↓o_isn_int, ↓o_isn_tup, ↓o_isn_lst, ↓o_isn_str, ↓o_is_non, ↓o_is_int, ↓o_is_tup, ↓o_is_lst, ↓o_is_str, ↓o_eq_ii, ↓o_ne_ii, ↓o_add_ii, ↓o_sub_ii, ↓o_mul_ii, ↓o_div_ii, ↓o_mod_ii, ↓o_lt_ii, ↓o_le_ii, ↓o_gt_ii, ↓o_ge_ii, ↓o_add_tt, ↓o_add_ll, ↓o_add_ss, ↓o_divmod_ii, ↓o_neg_i, ↓o_int_i, ↓o_abs_i, ↓o_max_ii, ↓o_max1_3, ↓o_min1_3, ↓o_min_ii, ↓o_len_tup, ↓o_len_lst, ↓o_len_scr, ↓o_slc_lst, ↓o_slc_scr, ↓o_slc_tup, ↓o_tuple_lst, ↓o_tuple_tup, ↓o_tuple_scr, ↓o_list_tup, ↓o_list_lst, ↓o_bool_b, ↓o_isa_int_int, ↓o_isa_int_bool, ↓o_isa_int_tup, ↓o_isa_int_str, ↓o_isa_int_lst, ↓o_isa_bl_int, ↓o_isa_bl_bool, ↓o_isa_tup_tup, ↓o_isa_tup_int, ↓o_isa_tup_lst, ↓o_isa_tup_str, ↓o_isa_str_str, ↓o_isa_str_int, ↓o_isa_str_tup, ↓o_isa_lst_lst, ↓o_isa_lst_tup, ↓o_isa_lst_int, ↓o_isa_non_int, ↓o_isa_non_tup, ↓o_sum_3, ↓o_all_3, ↓o_atI_0, ↓o_atI_1, ↓o_atI_2, ↓o_atI_3, ↓o_atI_4, ↓o_atI_5, ↓o_ixN_30, ↓o_ixN_31, ↓o_ixN_32, ↓o_fix_tup, ↓o_fix_lst, ↓o_fix_scr, ↓o_pow_6, ↓o_pow_18, pick_0, pick_01, pick_10, pick_012, pick_021, pick_102, pick_120, pick_201, pick_210, eq_self, List.cons_append, List.nil_append, List.append_nil, List.set_set, List.set_cons_zero, List.set_cons_succ, List.length_cons, List.length_nil, Nat.zero_add, Nat.reduceAdd, Nat.reduceLeDiff, castN, natabsN, mulOkL, mulOkR, Bool.true_or, Nat.reducePow, Nat.reduceLT, ne_eq, not_true_eq_false, not_false_eq_true, rng_3, rng_2, Int.reduceEq, Int.reduceLT, Int.reduceLE, Int.reduceAdd, Int.reduceSub, Int.reduceMul, Int.reduceNeg, true_and, and_true, if_true, if_false, Bool.false_eq_true, Bool.true_eq_false, decide_true, decide_false, Bool.not_true, Bool.not_false, Bool.and_true, Bool.true_and, Bool.and_false, Bool.false_and])
local macro_rules | `(tactic| simp_arith [$ts,*]) => `(tactic| simp -implicitDefEqProofs only [↓ok_ok, ↓ok_stk, ↓ok_exc, ↓ok_bind, ↓ok_nox, ↓ok_of, ↓ok_lenO, ↓ok_propO, ↓ok_txtO, ↓ok_clsM, ↓ok_tupRg, ↓ok_lstRg, ↓oko_some, ↓oko_none, ↓oko_ite, ↓oko_map, ↓ok_ite, ↓oks_nx, ↓oks_stk, ↓oks_exc, ↓oks_bk, ↓oks_ct, ↓oks_rt, ↓oks_then, ↓oks_thenN, ↓ok_var0, ↓ok_varS, ↓ok_c, ↓ok_bin, ↓ok_un, ↓okb, ↓ok_test, ↓ok_tru, ↓ok_and, ↓ok_or, ↓ok_not, ↓ok_andV, ↓ok_orV, ↓ok_notV, ↓ok_if, ↓ok_ifT, ↓ok_fld, ↓ok_slt, ↓o_slt0, ↓ok_make, ↓ok_makeS, ↓o_isaC, ↓o_isn_ins, ↓o_is_ins, ↓ok_izip, ↓zipR_ll, ↓zipR_tl, ↓zipR_tt, ↓o_parts, ↓o_shares, ↓o_east, ↓o_north, ↓o_rests, zip2, zip3, ↓ok_nil, ↓ok_cons, ↓ok_star, ↓seqA_tup, ↓seqA_lst, ↓ok_revL, ↓ok_revLM, ↓ok_cmp2, ↓ok_tup, ↓ok_lst, ↓ok_lstM, ↓ok_fn, ↓ok_call, ↓ok_callK, ↓ok_noPart, ↓oki, ↓ok_part, ↓ok_sl, ↓oks_next, ↓oks_seq, ↓oks_drop, ↓oks_ret, ↓oks_retN, ↓oks_break, ↓oks_cont, ↓oks_never, ↓oks_if, ↓oks_try, ↓oks_asg, ↓oks_set, ↓ok_gName, ↓ok_gNil, ↓ok_gCons, ↓ok_gTup, ↓ok_gUnl, ↓ok_gSub, ↓okl2, ↓okl3, ↓oks_par, ↓oks_par3, ↓okv0, ↓okvS, ↓oks_aug, ↓ok_append, ↓ok_extend, ↓seqL_lst, ↓ok_strM, ↓ok_def, ↓ok_iSeq, ↓oki1, ↓oki2, ↓ok_range1, ↓ok_range2, ↓oks_for, ↓ok_lc, ↓ok_finL, ↓ok_finM, ↓ok_yes, ↓setg0, ↓setgS, ↓unsetg0, ↓unsetgS, ↓wipeg0, ↓wipegS, ↓initg0, ↓initgN, ↓initgS, ↓lenis0, ↓lenisS, ↓lenle0, ↓lenleS, ↓seqI_lst, ↓seqIE_lst, ↓seqIE_tup, ↓seqIE_scr, ↓seqI_str, ↓okt, ↓ok_kIx, ↓ok_kGet, ↓ok_revS, ↓okd, ↓ok_dGet, ↓o_mulS, ↓seqI_tup, ↓seqI_scr, ↓o_ne_mv, ↓o_eq_mv, ↓ok_enum, ↓okl1, ↓o_mul_rep, ↓o_mul_iiF, cut_2of3, ↓o_ne_2, ↓o_eq_2, ↓o_ne_bb, ↓o_eq_bb, ↓o_tru_b, ↓o_tru_i, ↓o_tru_t, ↓o_tru_l, ↓o_tru_n, ↓o_isn_non, ↓o_isn_int, ↓o_isn_tup, ↓o_isn_lst, ↓o_isn_str, ↓o_is_non, ↓o_is_int, ↓o_is_tup, ↓o_is_lst, ↓o_is_str, ↓o_eq_ii, ↓o_ne_ii, ↓o_add_ii, ↓o_sub_ii, ↓o_mul_ii, ↓o_div_ii, ↓o_mod_ii, ↓o_lt_ii, ↓o_le_ii, ↓o_gt_ii, ↓o_ge_ii, ↓o_add_tt, ↓o_add_ll, ↓o_add_ss, ↓o_divmod_ii, ↓o_neg_i, ↓o_int_i, ↓o_abs_i, ↓o_max_ii, ↓o_max1_3, ↓o_min1_3, ↓o_min_ii, ↓o_len_tup, ↓o_len_lst, ↓o_len_scr, ↓o_slc_lst, ↓o_slc_scr, ↓o_slc_tup, ↓o_tuple_lst, ↓o_tuple_tup, ↓o_tuple_scr, ↓o_list_tup, ↓o_list_lst, ↓o_bool_b, ↓o_isa_int_int, ↓o_isa_int_bool, ↓o_isa_int_tup, ↓o_isa_int_str, ↓o_isa_int_lst, ↓o_isa_bl_int, ↓o_isa_bl_bool, ↓o_isa_tup_tup, ↓o_isa_tup_int, ↓o_isa_tup_lst, ↓o_isa_tup_str, ↓o_isa_str_str, ↓o_isa_str_int, ↓o_isa_str_tup, ↓o_isa_lst_lst, ↓o_isa_lst_tup, ↓o_isa_lst_int, ↓o_isa_non_int, ↓o_isa_non_tup, ↓o_sum_3, ↓o_all_3, ↓o_atI_0, ↓o_atI_1, ↓o_atI_2, ↓o_atI_3, ↓o_atI_4, ↓o_atI_5, ↓o_ixN_30, ↓o_ixN_31, ↓o_ixN_32, ↓o_fix_tup, ↓o_fix_lst, ↓o_fix_scr, ↓o_pow_6, ↓o_pow_18, pick_0, pick_01, pick_10, pick_012, pick_021, pick_102, pick_120, pick_201, pick_210, eq_self, List.cons_append, List.nil_append, List.append_nil, List.set_set, List.set_cons_zero, List.set_cons_succ, List.length_cons, List.length_nil, Nat.zero_add, Nat.reduceAdd, Nat.reduceLeDiff, castN, natabsN, mulOkL, mulOkR, Bool.true_or, Nat.reducePow, Nat.reduceLT, ne_eq, not_true_eq_false, not_false_eq_true, rng_3, rng_2, Int.reduceEq, Int.reduceLT, Int.reduceLE, Int.reduceAdd, Int.reduceSub, Int.reduceMul, Int.reduceNeg, true_and, and_true, if_true, if_false, Bool.false_eq_true, Bool.true_eq_false, decide_true, decide_false, Bool.not_true, Bool.not_false, Bool.and_true, Bool.true_and, Bool.and_false, Bool.false_and, $ts,*])
def gens (e n : Option FM.Mv) (g : Int) : List FM.Mv := e.toList ++ (n.toList ++ [⟨0, 0, g⟩])
theorem gens_e {e n : Option FM.Mv} {g : Int} : FM.Gen (gens e n g) (e.getD FM.one) := by
  cases e with
  | none => exact (FM.Gen.grp _).o
  | some m => exact FM.Gen.of (by simp [gens])
theorem gens_n {e n : Option FM.Mv} {g : Int} : FM.Gen (gens e n g) (n.getD FM.one) := by
  cases n with
  | none => exact (FM.Gen.grp _).o
  | some m => exact FM.Gen.of (by simp [gens])
theorem told_of {e n : Option FM.Mv} {g : Int} (h : IsF e n g) {m : FM.Mv} : FM.Gen (gens e n g) m ↔ FM.Told e n g.toNat m := by
  obtain ⟨h0, hn, he⟩ := h
  have eg : ((g.toNat : Nat) : Int) = g := by omega
  have n0 : (n.getD FM.one).x = 0 := by
    cases n with
    | none => rfl
    | some k => exact (hn k rfl).1
  have gd : ((g.toNat : Nat) : Int) ∣ (e.getD FM.one).x * (n.getD FM.one).y := by
    rw [eg]
    cases e with
    | none => simp [FM.one]
    | some m =>
      cases n with
      | none => simp [FM.one]
      | some k => exact Int.dvd_of_fmod_eq_zero ((he m rfl).2.2 k rfl).2.2.2
  constructor
  · refine FM.Gen.le (FM.Told.grp n0 gd) fun b hb => ?_
    unfold gens at hb
    rcases List.mem_append.mp hb with hb | hb
    · cases e with
      | none => cases hb
      | some m =>
        have : b = m := by simpa using hb
        subst this
        exact FM.Told.e
    · rcases List.mem_append.mp hb with hb | hb
      · cases n with
        | none => cases hb
        | some m =>
          have : b = m := by simpa using hb
          subst this
          exact FM.Told.n
      · have : b = ⟨0, 0, g⟩ := by simpa using hb
        subst this
        exact FM.Told.z (by rw [eg]; exact Int.dvd_refl _)
  · exact fun h => FM.Told.le gens_e gens_n (by rw [eg]; exact FM.Gen.of (by simp [gens])) h
theorem formOk_of {e n : Option FM.Mv} {g : Int} {c : Nat} (t : TriOk (16 ^ 25) c e n g) (hc : c ≤ 150) (h : IsF e n g) : FormOk (gens e n g) e n g.toNat := by
  have h' := h
  obtain ⟨h0, hn, he⟩ := h'
  have eg : ((g.toNat : Nat) : Int) = g := by omega
  have wi : ∀ {s : Int}, Within s g → g.toNat ≠ 0 → 0 ≤ s ∧ s < (g.toNat : Int) := fun {s} w z => by
    rw [eg]
    rcases w with w | w
    · omega
    · exact w
  have le : (16 : Nat) ^ c ≤ 16 ^ 155 := Nat.pow_le_pow_right (by decide) (by omega)
  refine ⟨fun m => (told_of h).trans Iff.rfl, fun m hm => ?_, fun k hk => ?_, fun m k hm hk => ?_, ?_⟩
  · obtain ⟨a, b, _⟩ := he m hm
    exact ⟨by omega, wi b, (t.eb m hm).2.mono (by omega) (by omega), (t.eb m hm).1⟩
  · obtain ⟨a, b, d⟩ := hn k hk
    exact ⟨a, b, wi d, (t.nb k hk).mono (by omega) (by omega), Nat.le_trans (Nat.le_of_lt (t.nb k hk).y) le⟩
  · obtain ⟨_, _, f⟩ := he m hm
    exact ⟨(f k hk).1, (f k hk).2.1⟩
  · rw [eg]
    exact t.gb.mono (by omega)
theorem tri_form {e n : Option FM.Mv} {g : Int} (h : 0 ≤ g) : formD e n g.toNat = triD e n g := by
  have eg : ((g.toNat : Nat) : Int) = g := by omega
  show D.tup [optM e, optM n, .int ((g.toNat : Nat) : Int)] = _
  rw [eg]
theorem tellst_spec {e n : Option FM.Mv} {g : Int} {c d : Nat} {m : FM.Mv} {μ : Mu} {Q : D → Mu → Prop} (t : TriOk (16 ^ 25) c e n g) (hc : c ≤ 150) (h : IsF e n g) (hx : Dg d m.x) (hy : Dg d m.y) (hd : d ≤ 5000) (h1 : 1 ≤ d)
    (q : ∀ b : Bool, (b = true ↔ FM.Told e n g.toNat m) → Q (.bl b) μ) : Ok (m_tells [triD e n g, mw m] μ) Q := by
  rw [← tri_form h.1]
  exact tells_spec (formOk_of t hc h) hx hy hd h1 fun b hb => q b (hb.trans (told_of h))
/-- a list of truths, one of each move; nothing changes -/
theorem truthp_lc {g : DG} {e : DE} {Γ : Gam} {P : FM.Mv → Prop} {μ : Mu} : ∀ (ms : List FM.Mv) {QL : List D → Mu → Prop}, (∀ m ∈ ms, ∀ Q : D → Mu → Prop, (∀ b : Bool, (b = true ↔ P m) → Q (.bl b) μ) → Ok (g (mw m) Γ μ) fun Γ1 μ2 => Ok (e Γ1 μ2) Q) →
    (∀ bs : List Bool, (bs.all id = true ↔ ∀ m ∈ ms, P m) → QL (bs.map D.bl) μ) → Ok (lcL g dYes e Γ (ms.map mw) μ) QL
  | [], QL, _, q => by
    rw [show ([] : List FM.Mv).map mw = [] from rfl, ok_lcNil]
    exact q [] (by simp)
  | m :: ms, QL, st, q => by
    rw [List.map_cons, ok_lcConsY]
    refine st m (by simp) _ fun b hb => ?_
    refine truthp_lc ms (fun m hm => st m (by simp [hm])) fun bs h => ?_
    exact q (b :: bs) (by simp only [List.all_cons, Bool.and_eq_true, h, List.mem_cons, forall_eq_or_imp]; rw [← hb]; rfl)
theorem bls_map : ∀ bs : List Bool, blsOf (bs.map D.bl) = some bs
  | [] => rfl
  | b :: bs => by
    show (blsOf (bs.map D.bl)).map (b :: ·) = _
    rw [bls_map bs]; rfl
theorem o_all_bls {μ : Mu} {bs : List Bool} {P : D → Prop} : OkO (fAll μ [.lst (bs.map D.bl)]) P = P (.bl (bs.all id)) := by
  have e : fAll μ [.lst (bs.map D.bl)] = some (.bl (bs.all id)) := by
    show (blsOf (bs.map D.bl)).map (fun bs => D.bl (bs.all id)) = _
    rw [bls_map]; rfl
  rw [e]; rfl
/-- that a triple shows a move missed -/
def Shows (ms : List FM.Mv) (a : FM.Mv) (e n : Option FM.Mv) (g : Int) : Prop := IsF e n g ∧ (∀ b ∈ ms, FM.Told e n g.toNat b) ∧ ¬ FM.Told e n g.toNat a
theorem showst_spec {ms : List FM.Mv} {a : FM.Mv} {e n : Option FM.Mv} {g : Int} {c : Nat} {μ : Mu} {Q : D → Mu → Prop} (hb : Btn ms) (t : TriOk (16 ^ 25) c e n g) (hc : c ≤ 150) (ax : Dg 200 a.x) (ay : Dg 200 a.y)
    (q : ∀ b : Bool, (b = true ↔ Shows ms a e n g) → Q (.bl b) μ) : Ok (m_shows_missed [lotD ms, mw a, triD e n g] μ) Q := by
  unfold m_shows_missed Shows at *
  simp_arith
  refine ismv_spec ?_
  simp_arith
  refine isform_spec t (by omega) fun b0 h0 => ?_
  cases b0 with
  | false =>
    simp_arith
    have : ¬ IsF e n g := fun z => by simpa using h0.mpr z
    exact q false (by simp [this])
  | true =>
    have hf := h0.mp rfl
    simp_arith
    refine ⟨by rw [List.length_map]; have := hb.le; omega, ?_⟩
    refine truthp_lc (P := FM.Told e n g.toNat) ms (fun m hm Q2 q2 => ?_) fun bs hP => ?_
    · have d := hb.dm m hm
      simp_arith
      exact tellst_spec t hc hf d.x d.y (by decide) (by decide) q2
    · rw [o_all_bls]
      simp_arith
      cases hall : bs.all id with
      | false =>
        simp_arith
        have : ¬ ∀ m ∈ ms, FM.Told e n g.toNat m := fun z => by rw [hP.mpr z] at hall; cases hall
        exact q false (by simp [this])
      | true =>
        have ht := hP.mp hall
        simp_arith
        refine tellst_spec t hc hf ax ay (by decide) (by decide) fun b hb4 => ?_
        simp_arith
        refine q (!b) ?_
        have : (∀ m ∈ ms, FM.Told e n g.toNat m) := ht
        cases b with
        | false => exact ⟨fun _ => ⟨hf, ht, fun z => by simpa using hb4.mpr z⟩, fun _ => rfl⟩
        | true => exact ⟨fun z => (by simp at z), fun z => absurd (hb4.mp rfl) z.2.2⟩
/-! ### what the law tells -/
end A46

set_option Elab.async false
set_option linter.all false
set_option maxRecDepth 100000
set_option maxHeartbeats 1000000
namespace A46
open PySem PySem.Spec PyProof.Rows L2 Ar
theorem pa_m_written_integer : PaF m_written_integer := by
  unfold m_written_integer
  exact (pa_dDef (pa_dSeq (pa_dSet (pa_dIf (pa_dTest (pa_dBin pa_fEq (pa_dSl pa_dVar pa_dNoPart (pa_dPart (pa_dC fun _ => rfl))) (pa_dC fun _ => rfl))) (pa_dSl pa_dVar (pa_dPart (pa_dC fun _ => rfl)) pa_dNoPart) pa_dVar)) (pa_dSeq (pa_dIfS (pa_dOr (pa_dTest (pa_dBin pa_fEq pa_dVar (pa_dC fun _ => rfl))) (pa_dOr (pa_dTest (pa_dBin pa_fGt (pa_dFn pa_fLen (pa_daCons pa_dVar pa_daNil)) (pa_dC fun _ => rfl))) (pa_dNot (pa_dTru (pa_dFn pa_fAll (pa_daCons (pa_dLcF pa_finL (pa_diSeq pa_dVar) pa_dgName pa_dYes (pa_dBin pa_fIn pa_dVar (pa_dC fun _ => rfl))) pa_daNil)))))) (pa_dRet (pa_dC fun _ => rfl)) pa_dsNext) (pa_dRet (pa_dIf (pa_dTest (pa_dBin pa_fEq (pa_dFn pa_fStr2 (pa_daCons (pa_dFn pa_fInt (pa_daCons pa_dVar pa_daNil)) pa_daNil)) pa_dVar)) (pa_dFn pa_fInt (pa_daCons pa_dVar pa_daNil)) (pa_dC fun _ => rfl))))))
theorem pa_m_text_move : PaF m_text_move := by
  unfold m_text_move
  exact (pa_dDef (pa_dSeq (pa_dSet (pa_dIf (pa_dTru (pa_dFn pa_fIsa (pa_daCons pa_dVar (pa_daCons (pa_dC fun _ => rfl) pa_daNil)))) (pa_dStrM pa_fSplit pa_dVar (pa_dC fun _ => rfl)) (pa_dLst pa_daNil))) (pa_dSeq (pa_dSet (pa_dFn pa_fTuple (pa_daCons (pa_dLcF pa_finL (pa_diSeq pa_dVar) pa_dgName pa_dYes (pa_dCall pa_m_written_integer (pa_daCons pa_dVar pa_daNil))) pa_daNil))) (pa_dRet (pa_dIf (pa_dAnd (pa_dTest (pa_dBin pa_fEq (pa_dFn pa_fLen (pa_daCons pa_dVar pa_daNil)) (pa_dC fun _ => rfl))) (pa_dTest (pa_dBin pa_fIn (pa_dC fun _ => rfl) pa_dVar))) pa_dVar (pa_dC fun _ => rfl))))))
theorem pa_m_is_integer : PaF m_is_integer := by
  unfold m_is_integer
  exact (pa_dDef (pa_dRet (pa_dAndV (pa_dFn pa_fIsa (pa_daCons pa_dVar (pa_daCons (pa_dC fun _ => rfl) pa_daNil))) (pa_dNotV (pa_dFn pa_fIsa (pa_daCons pa_dVar (pa_daCons (pa_dC fun _ => rfl) pa_daNil)))))))
theorem pa_m_is_move : PaF m_is_move := by
  unfold m_is_move
  exact (pa_dDef (pa_dRet (pa_dAndV (pa_dFn pa_fIsa (pa_daCons pa_dVar (pa_daCons (pa_dC fun _ => rfl) pa_daNil))) (pa_dAndV (pa_dBin pa_fEq (pa_dFn pa_fLen (pa_daCons pa_dVar pa_daNil)) (pa_dC fun _ => rfl)) (pa_dFn pa_fAll (pa_daCons (pa_dLcF pa_finL (pa_diSeq pa_dVar) pa_dgName pa_dYes (pa_dCall pa_m_is_integer (pa_daCons pa_dVar pa_daNil))) pa_daNil))))))
theorem pa_m_is_button : PaF m_is_button := by
  unfold m_is_button
  exact (pa_dDef (pa_dRet (pa_dAndV (pa_dCall pa_m_is_move (pa_daCons pa_dVar pa_daNil)) (pa_dFn pa_fAll (pa_daCons (pa_dLcF pa_finL (pa_diSeq pa_dVar) pa_dgName pa_dYes (pa_dBin pa_fLe (pa_dFn pa_fAbs (pa_daCons pa_dVar pa_daNil)) (pa_dC fun _ => rfl))) pa_daNil)))))
theorem pa_m_wrong_button : PaF m_wrong_button := by
  unfold m_wrong_button
  exact (pa_dDef (pa_dSeq (pa_dIfS (pa_dOr (pa_dNot (pa_dTru (pa_dFn pa_fIsa (pa_daCons pa_dVar (pa_daCons (pa_dC fun _ => rfl) pa_daNil))))) (pa_dTest (pa_dBin pa_fEq (pa_dFn pa_fLen (pa_daCons pa_dVar pa_daNil)) (pa_dC fun _ => rfl)))) (pa_dRet (pa_dUn pa_fNeg (pa_dC fun _ => rfl))) pa_dsNext) (pa_dSeq (pa_dFor (pa_diEnum (pa_daCons pa_dVar pa_daNil)) (pa_dgTup (pa_dgCons pa_dgName (pa_dgCons pa_dgName pa_dgNil))) (pa_dIfS (pa_dOr (pa_dTest (pa_dBin pa_fEq pa_dVar (pa_dC fun _ => rfl))) (pa_dNot (pa_dTru (pa_dCall pa_m_is_button (pa_daCons pa_dVar pa_daNil))))) (pa_dRet pa_dVar) pa_dsNext)) (pa_dRet (pa_dC fun _ => rfl)))))
theorem pa_m_text_lot : PaF m_text_lot := by
  unfold m_text_lot
  exact (pa_dDef (pa_dSeq (pa_dSet (pa_dIf (pa_dTru (pa_dFn pa_fIsa (pa_daCons pa_dVar (pa_daCons (pa_dC fun _ => rfl) pa_daNil)))) (pa_dStrM pa_fSplit pa_dVar (pa_dC fun _ => rfl)) (pa_dLst pa_daNil))) (pa_dSeq (pa_dIfS (pa_dNot (pa_dTru (pa_dFn pa_fAll (pa_daCons (pa_dLcF pa_finL (pa_diSeq pa_dVar) pa_dgName pa_dYes (pa_dBin pa_fEq (pa_dSl pa_dVar pa_dNoPart (pa_dPart (pa_dFn pa_fLen (pa_daCons (pa_dC fun _ => rfl) pa_daNil)))) (pa_dC fun _ => rfl))) pa_daNil)))) (pa_dRet (pa_dC fun _ => rfl)) pa_dsNext) (pa_dSeq (pa_dSet (pa_dFn pa_fTuple (pa_daCons (pa_dLcF pa_finL (pa_diSeq pa_dVar) pa_dgName pa_dYes (pa_dCall pa_m_text_move (pa_daCons (pa_dSl pa_dVar (pa_dPart (pa_dFn pa_fLen (pa_daCons (pa_dC fun _ => rfl) pa_daNil))) pa_dNoPart) pa_daNil))) pa_daNil))) (pa_dRet (pa_dIf (pa_dTest (pa_dBin pa_fIs (pa_dCall pa_m_wrong_button (pa_daCons pa_dVar pa_daNil)) (pa_dC fun _ => rfl))) (pa_dMakeS pa_m_wrong_button (pa_daCons pa_dVar pa_daNil)) (pa_dC fun _ => rfl)))))))
end A46

set_option Elab.async false
set_option linter.all false
set_option maxRecDepth 100000
set_option maxHeartbeats 1000000
set_option exponentiation.threshold 10000
namespace A46
open PySem PySem.Spec PyProof.Rows L2 Ar TL
local macro_rules | `(tactic| simp_arith) => `(tactic| simp -implicitDefEqProofs only [↓ok_ok, ↓ok_stk, ↓ok_exc, ↓ok_bind, ↓ok_nox, ↓ok_of, ↓ok_lenO, ↓ok_propO, ↓ok_txtO, ↓ok_clsM, ↓ok_tupRg, ↓ok_lstRg, ↓oko_some, ↓oko_none, ↓oko_ite, ↓oko_map, ↓ok_ite, ↓oks_nx, ↓oks_stk, ↓oks_exc, ↓oks_bk, ↓oks_ct, ↓oks_rt, ↓oks_then, ↓oks_thenN, ↓ok_var0, ↓ok_varS, ↓ok_c, ↓ok_bin, ↓ok_un, ↓okb, ↓ok_test, ↓ok_tru, ↓ok_and, ↓ok_or, ↓ok_not, ↓ok_andV, ↓ok_orV, ↓ok_notV, ↓ok_if, ↓ok_ifT, ↓ok_fld, ↓ok_slt, ↓o_slt0, ↓ok_make, ↓ok_makeS, ↓o_isaC, ↓o_isn_ins, ↓o_is_ins, ↓ok_izip, ↓zipR_ll, ↓zipR_tl, ↓zipR_tt, ↓o_parts, ↓o_shares, ↓o_east, ↓o_north, ↓o_rests, zip2, zip3, ↓ok_nil, ↓ok_cons, ↓ok_star, ↓seqA_tup, ↓seqA_lst, ↓ok_revL, ↓ok_revLM, ↓ok_cmp2, ↓ok_tup, ↓ok_lst, ↓ok_lstM, ↓ok_fn, ↓ok_call, ↓ok_callK, ↓ok_noPart, ↓oki, ↓ok_part, ↓ok_sl, ↓oks_next, ↓oks_seq, ↓oks_drop, ↓oks_ret, ↓oks_retN, ↓oks_break, ↓oks_cont, ↓oks_never, ↓oks_if, ↓oks_try, ↓oks_asg, ↓oks_set, ↓ok_gName, ↓ok_gNil, ↓ok_gCons, ↓ok_gTup, ↓ok_gUnl, ↓ok_gSub, ↓okl2, ↓okl3, ↓oks_par, ↓oks_par3, ↓okv0, ↓okvS, ↓oks_aug, ↓ok_append, ↓ok_extend, ↓seqL_lst, ↓ok_strM, ↓ok_def, ↓ok_iSeq, ↓oki1, ↓oki2, ↓ok_range1, ↓ok_range2, ↓oks_for, ↓ok_lc, ↓ok_finL, ↓ok_finM, ↓ok_yes, ↓setg0, ↓setgS, ↓unsetg0, ↓unsetgS, ↓wipeg0, ↓wipegS, ↓initg0, ↓initgN, ↓initgS, ↓lenis0, ↓lenisS, ↓lenle0, ↓lenleS, ↓seqI_lst, ↓seqIE_lst, ↓seqIE_tup, ↓seqIE_scr, ↓seqI_str, ↓okt, ↓ok_kIx, ↓ok_kGet, ↓ok_revS, ↓okd, ↓ok_dGet, ↓o_mulS, ↓seqI_tup, ↓seqI_scr, ↓o_ne_mv, ↓o_eq_mv, ↓ok_enum, ↓okl1, ↓o_mul_rep, ↓o_mul_iiF, cut_2of3, ↓o_ne_2, ↓o_eq_2, ↓o_ne_bb, ↓o_eq_bb, ↓o_tru_b, ↓o_tru_i, ↓o_tru_t, ↓o_tru_l, ↓o_tru_n, ↓o_isn_non, ↓o_isn_int, ↓o_isn_tup, ↓o_isn_lst, ↓o_isn_str, ↓o_is_non, ↓o_is_int, ↓o_is_tup, ↓o_is_lst, ↓o_is_str, ↓o_eq_ii, ↓o_ne_ii, ↓o_add_ii, ↓o_sub_ii, ↓o_mul_ii, ↓o_div_ii, ↓o_mod_ii, ↓o_lt_ii, ↓o_le_ii, ↓o_gt_ii, ↓o_ge_ii, ↓o_add_tt, ↓o_add_ll, ↓o_add_ss, ↓o_divmod_ii, ↓o_neg_i, ↓o_int_i, ↓o_abs_i, ↓o_max_ii, ↓o_max1_3, ↓o_min1_3, ↓o_min_ii, ↓o_len_tup, ↓o_len_lst, ↓o_len_scr, ↓o_slc_lst, ↓o_slc_scr, ↓o_slc_tup, ↓o_tuple_lst, ↓o_tuple_tup, ↓o_tuple_scr, ↓o_list_tup, ↓o_list_lst, ↓o_bool_b, ↓o_isa_int_int, ↓o_isa_int_bool, ↓o_isa_int_tup, ↓o_isa_int_str, ↓o_isa_int_lst, ↓o_isa_bl_int, ↓o_isa_bl_bool, ↓o_isa_tup_tup, ↓o_isa_tup_int, ↓o_isa_tup_lst, ↓o_isa_tup_str, ↓o_isa_str_str, ↓o_isa_str_int, ↓o_isa_str_tup, ↓o_isa_lst_lst, ↓o_isa_lst_tup, ↓o_isa_lst_int, ↓o_isa_non_int, ↓o_isa_non_tup, ↓o_sum_3, ↓o_all_3, ↓o_atI_0, ↓o_atI_1, ↓o_atI_2, ↓o_atI_3, ↓o_atI_4, ↓o_atI_5, ↓o_ixN_30, ↓o_ixN_31, ↓o_ixN_32, ↓o_fix_tup, ↓o_fix_lst, ↓o_fix_scr, ↓o_pow_6, ↓o_pow_18, pick_0, pick_01, pick_10, pick_012, pick_021, pick_102, pick_120, pick_201, pick_210, eq_self, List.cons_append, List.nil_append, List.append_nil, List.set_set, List.set_cons_zero, List.set_cons_succ, List.length_cons, List.length_nil, Nat.zero_add, Nat.reduceAdd, Nat.reduceLeDiff, castN, natabsN, mulOkL, mulOkR, Bool.true_or, Nat.reducePow, Nat.reduceLT, ne_eq, not_true_eq_false, not_false_eq_true, rng_3, rng_2, Int.reduceEq, Int.reduceLT, Int.reduceLE, Int.reduceAdd, Int.reduceSub, Int.reduceMul, Int.reduceNeg, true_and, and_true, if_true, if_false, Bool.false_eq_true, Bool.true_eq_false, decide_true, decide_false, Bool.not_true, Bool.not_false, Bool.and_true, Bool.true_and, Bool.and_false, Bool.false_and])
local macro_rules | `(tactic| simp_arith [$ts,*]) => `(tactic| simp -implicitDefEqProofs only [↓ok_ok, ↓ok_stk, ↓ok_exc, ↓ok_bind, ↓ok_nox, ↓ok_of, ↓ok_lenO, ↓ok_propO, ↓ok_txtO, ↓ok_clsM, ↓ok_tupRg, ↓ok_lstRg, ↓oko_some, ↓oko_none, ↓oko_ite, ↓oko_map, ↓ok_ite, ↓oks_nx, ↓oks_stk, ↓oks_exc, ↓oks_bk, ↓oks_ct, ↓oks_rt, ↓oks_then, ↓oks_thenN, ↓ok_var0, ↓ok_varS, ↓ok_c, ↓ok_bin, ↓ok_un, ↓okb, ↓ok_test, ↓ok_tru, ↓ok_and, ↓ok_or, ↓ok_not, ↓ok_andV, ↓ok_orV, ↓ok_notV, ↓ok_if, ↓ok_ifT, ↓ok_fld, ↓ok_slt, ↓o_slt0, ↓ok_make, ↓ok_makeS, ↓o_isaC, ↓o_isn_ins, ↓o_is_ins, ↓ok_izip, ↓zipR_ll, ↓zipR_tl, ↓zipR_tt, ↓o_parts, ↓o_shares, ↓o_east, ↓o_north, ↓o_rests, zip2, zip3, ↓ok_nil, ↓ok_cons, ↓ok_star, ↓seqA_tup, ↓seqA_lst, ↓ok_revL, ↓ok_revLM, ↓ok_cmp2, ↓ok_tup, ↓ok_lst, ↓ok_lstM, ↓ok_fn, ↓ok_call, ↓ok_callK, ↓ok_noPart, ↓oki, ↓ok_part, ↓ok_sl, ↓oks_next, ↓oks_seq, ↓oks_drop, ↓oks_ret, ↓oks_retN, ↓oks_break, ↓oks_cont, ↓oks_never, ↓oks_if, ↓oks_try, ↓oks_asg, ↓oks_set, ↓ok_gName, ↓ok_gNil, ↓ok_gCons, ↓ok_gTup, ↓ok_gUnl, ↓ok_gSub, ↓okl2, ↓okl3, ↓oks_par, ↓oks_par3, ↓okv0, ↓okvS, ↓oks_aug, ↓ok_append, ↓ok_extend, ↓seqL_lst, ↓ok_strM, ↓ok_def, ↓ok_iSeq, ↓oki1, ↓oki2, ↓ok_range1, ↓ok_range2, ↓oks_for, ↓ok_lc, ↓ok_finL, ↓ok_finM, ↓ok_yes, ↓setg0, ↓setgS, ↓unsetg0, ↓unsetgS, ↓wipeg0, ↓wipegS, ↓initg0, ↓initgN, ↓initgS, ↓lenis0, ↓lenisS, ↓lenle0, ↓lenleS, ↓seqI_lst, ↓seqIE_lst, ↓seqIE_tup, ↓seqIE_scr, ↓seqI_str, ↓okt, ↓ok_kIx, ↓ok_kGet, ↓ok_revS, ↓okd, ↓ok_dGet, ↓o_mulS, ↓seqI_tup, ↓seqI_scr, ↓o_ne_mv, ↓o_eq_mv, ↓ok_enum, ↓okl1, ↓o_mul_rep, ↓o_mul_iiF, cut_2of3, ↓o_ne_2, ↓o_eq_2, ↓o_ne_bb, ↓o_eq_bb, ↓o_tru_b, ↓o_tru_i, ↓o_tru_t, ↓o_tru_l, ↓o_tru_n, ↓o_isn_non, ↓o_isn_int, ↓o_isn_tup, ↓o_isn_lst, ↓o_isn_str, ↓o_is_non, ↓o_is_int, ↓o_is_tup, ↓o_is_lst, ↓o_is_str, ↓o_eq_ii, ↓o_ne_ii, ↓o_add_ii, ↓o_sub_ii, ↓o_mul_ii, ↓o_div_ii, ↓o_mod_ii, ↓o_lt_ii, ↓o_le_ii, ↓o_gt_ii, ↓o_ge_ii, ↓o_add_tt, ↓o_add_ll, ↓o_add_ss, ↓o_divmod_ii, ↓o_neg_i, ↓o_int_i, ↓o_abs_i, ↓o_max_ii, ↓o_max1_3, ↓o_min1_3, ↓o_min_ii, ↓o_len_tup, ↓o_len_lst, ↓o_len_scr, ↓o_slc_lst, ↓o_slc_scr, ↓o_slc_tup, ↓o_tuple_lst, ↓o_tuple_tup, ↓o_tuple_scr, ↓o_list_tup, ↓o_list_lst, ↓o_bool_b, ↓o_isa_int_int, ↓o_isa_int_bool, ↓o_isa_int_tup, ↓o_isa_int_str, ↓o_isa_int_lst, ↓o_isa_bl_int, ↓o_isa_bl_bool, ↓o_isa_tup_tup, ↓o_isa_tup_int, ↓o_isa_tup_lst, ↓o_isa_tup_str, ↓o_isa_str_str, ↓o_isa_str_int, ↓o_isa_str_tup, ↓o_isa_lst_lst, ↓o_isa_lst_tup, ↓o_isa_lst_int, ↓o_isa_non_int, ↓o_isa_non_tup, ↓o_sum_3, ↓o_all_3, ↓o_atI_0, ↓o_atI_1, ↓o_atI_2, ↓o_atI_3, ↓o_atI_4, ↓o_atI_5, ↓o_ixN_30, ↓o_ixN_31, ↓o_ixN_32, ↓o_fix_tup, ↓o_fix_lst, ↓o_fix_scr, ↓o_pow_6, ↓o_pow_18, pick_0, pick_01, pick_10, pick_012, pick_021, pick_102, pick_120, pick_201, pick_210, eq_self, List.cons_append, List.nil_append, List.append_nil, List.set_set, List.set_cons_zero, List.set_cons_succ, List.length_cons, List.length_nil, Nat.zero_add, Nat.reduceAdd, Nat.reduceLeDiff, castN, natabsN, mulOkL, mulOkR, Bool.true_or, Nat.reducePow, Nat.reduceLT, ne_eq, not_true_eq_false, not_false_eq_true, rng_3, rng_2, Int.reduceEq, Int.reduceLT, Int.reduceLE, Int.reduceAdd, Int.reduceSub, Int.reduceMul, Int.reduceNeg, true_and, and_true, if_true, if_false, Bool.false_eq_true, Bool.true_eq_false, decide_true, decide_false, Bool.not_true, Bool.not_false, Bool.and_true, Bool.true_and, Bool.and_false, Bool.false_and, $ts,*])
/-! ### values that may be asked -/
def lfB : D → Bool
  | .non | .bl _ | .str _ | .lst _ | .dK _ => true
  | .int i => decide (i.natAbs ≤ 10 ^ 29)
  | _ => false
def Bd : Nat → D → Prop
  | 0, d => lfB d = true
  | j + 1, d => lfB d = true ∨ ∃ ds, d = .tup ds ∧ ds.length ≤ 20 ∧ ∀ e ∈ ds, Bd j e
theorem dg29 {n : Int} (h : n.natAbs ≤ 10 ^ 29) : Dg 25 n := Nat.lt_of_le_of_lt h (by decide)
theorem lf_kd {d : D} (h : lfB d = true) : kd d = true := by cases d <;> first | rfl | cases h
theorem bd_kd {j : Nat} {d : D} (h : Bd j d) : kd d = true := by
  cases j with
  | zero => exact lf_kd h
  | succ j =>
    rcases h with h | ⟨ds, rfl, _⟩
    · exact lf_kd h
    · rfl
theorem bd_int {j : Nat} {i : Int} (h : Bd j (.int i)) : i.natAbs ≤ 10 ^ 29 := by
  have : lfB (.int i) = true := by
    cases j with
    | zero => exact h
    | succ j =>
      rcases h with h | ⟨ds, e, _⟩
      · exact h
      · cases e
  exact of_decide_eq_true this
theorem bd_tup {j : Nat} {ds : List D} (h : Bd j (.tup ds)) : ∃ i, j = i + 1 ∧ ds.length ≤ 20 ∧ ∀ e ∈ ds, Bd i e := by
  cases j with
  | zero => cases h
  | succ i =>
    rcases h with h | ⟨ds', e, hl, he⟩
    · cases h
    · cases e; exact ⟨i, rfl, hl, he⟩
theorem bd_pk : ∀ (k j : Nat) (d : D), Bd j d → Pk 25 k d
  | 0, j, d, h => bd_kd h
  | k + 1, j, d, h => by
    refine ⟨bd_kd h, fun ds e => ?_⟩
    subst e
    obtain ⟨i, rfl, hl, he⟩ := bd_tup h
    refine ⟨hl, fun e hm => ⟨bd_kd (he e hm), fun p n e2 => ?_⟩⟩
    subst e2
    obtain ⟨i', rfl, _, he2⟩ := bd_tup (he _ hm)
    have hp := he2 p (by simp)
    have hn := he2 n (by simp)
    exact ⟨bd_kd hp, bd_pk k i' p hp, bd_kd hn, fun i e3 => by subst e3; exact dg29 (bd_int hn)⟩
/-! ### moves, forms -/
def mvB : D → Bool
  | .tup [.int _, .int _, .int _] => true
  | _ => false
theorem mvB_mw {d : D} (h : mvB d = true) : ∃ m, d = mw m := by
  unfold mvB at h
  split at h
  · exact ⟨⟨_, _, _⟩, rfl⟩
  · cases h
theorem all_bools {μ : Mu} {P : D → Prop} (bs : List Bool) : OkO (fAll μ [.lst (bs.map D.bl)]) P = P (.bl (bs.all id)) := o_all_bls
theorem isint_lc {g0 : Option D} : ∀ (ds : List D) {μ : Mu} {QL : List D → Mu → Prop}, (∀ e ∈ ds, kd e = true) → QL ((ds.map isI).map D.bl) μ → Ok (lcL (dgName 1) dYes (dCall m_is_integer (daCons (dVar 1) (daNil))) [g0, none] ds μ) QL
  | [], μ, QL, h, q => q
  | d :: ds, μ, QL, h, q => by
    rw [ok_lcConsY]
    simp_arith
    refine isint_v (h d List.mem_cons_self) ?_
    exact isint_lc ds (QL := fun ys μ4 => QL (D.bl (isI d) :: ys) μ4) (fun e he => h e (List.mem_cons_of_mem _ he)) q
theorem ismv_v {j : Nat} {d : D} {μ : Mu} {Q : D → Mu → Prop} (h : Bd j d) (q : Q (.bl (mvB d)) μ) : Ok (m_is_move [d] μ) Q := by
  have hk := bd_kd h
  unfold m_is_move
  simp_arith [isa_tup hk]
  cases d with
  | tup ds =>
    obtain ⟨i, rfl, hl, he⟩ := bd_tup h
    simp_arith [isT]
    by_cases h3 : ds.length = 3
    · have h3i : ((ds.length : Nat) : Int) = 3 := by omega
      simp_arith [h3i]
      refine ⟨by omega, isint_lc ds (fun e hm => bd_kd (he e hm)) ?_⟩
      rw [all_bools]
      match ds, h3 with
      | [a, b, c], _ =>
        have e : ([a, b, c].map isI).all id = mvB (.tup [a, b, c]) := by
          cases a <;> cases b <;> cases c <;> rfl
        rw [e]; exact q
    · have h3i : ¬ ((ds.length : Nat) : Int) = 3 := by omega
      simp_arith [h3i]
      have e : mvB (.tup ds) = false := by
        unfold mvB
        split
        · rename_i hh; cases hh; simp at h3
        · rfl
      rw [e] at q
      exact q
  | non => exact q
  | bl x => exact q
  | int x => exact q
  | str x => exact q
  | lst x => exact q
  | dK x => exact q
  | _ => cases hk
theorem isnone_v {j : Nat} {d : D} {μ : Mu} {Q : D → Mu → Prop} (h : Bd j d) (q : ∀ b, (b = true → d = .tup []) → Q (.bl b) μ) : Ok (m_is_none [d] μ) Q := by
  have hk := bd_kd h
  unfold m_is_none
  simp_arith [isa_tup hk]
  cases d with
  | tup ds =>
    simp_arith [isT]
    refine q _ fun hb => ?_
    have := of_decide_eq_true hb
    have : ds.length = 0 := by omega
    rw [List.length_eq_zero_iff.mp this]
  | non => exact q false (fun z => by cases z)
  | bl x => exact q false (fun z => by cases z)
  | int x => exact q false (fun z => by cases z)
  | str x => exact q false (fun z => by cases z)
  | lst x => exact q false (fun z => by cases z)
  | dK x => exact q false (fun z => by cases z)
  | _ => cases hk
theorem iscount_v {j : Nat} {d : D} {μ : Mu} {Q : D → Mu → Prop} (h : Bd j d) (q : ∀ b, (b = true → ∃ g : Int, d = .int g ∧ 0 ≤ g) → Q (.bl b) μ) : Ok (m_is_count [d] μ) Q := by
  have hk := bd_kd h
  unfold m_is_count
  simp_arith
  refine isint_v hk ?_
  cases d with
  | int g =>
    simp_arith [isI]
    exact q _ fun hb => ⟨g, rfl, of_decide_eq_true hb⟩
  | _ =>
    simp_arith [isI]
    exact q false (fun z => by cases z)
/-- a move's numbers, as great as those that are asked -/
def Mz (m : FM.Mv) : Prop := m.x.natAbs ≤ 10 ^ 29 ∧ m.y.natAbs ≤ 10 ^ 29 ∧ m.s.natAbs ≤ 10 ^ 29
theorem bd_mw {j : Nat} {m : FM.Mv} (h : Bd j (mw m)) : Mz m := by
  obtain ⟨i, rfl, _, he⟩ := bd_tup h
  exact ⟨bd_int (he _ (by simp)), bd_int (he _ (by simp)), bd_int (he _ (by simp))⟩
theorem Mz.dm {m : FM.Mv} (h : Mz m) : Dm2 25 25 m := ⟨dg29 h.1, dg29 h.2.1, dg29 h.2.2⟩
theorem isnorth_v {j : Nat} {d : D} {g : Int} {μ : Mu} {Q : D → Mu → Prop} (h : Bd j d) (q : ∀ b, (b = true → ∃ k, d = mw k ∧ NorthOk k g) → Q (.bl b) μ) : Ok (m_is_north [d, .int g] μ) Q := by
  cases hm : mvB d with
  | true =>
    obtain ⟨k, rfl⟩ := mvB_mw hm
    exact isnorth_spec fun b hb => q b fun z => ⟨k, rfl, hb.mp z⟩
  | false =>
    unfold m_is_north
    simp_arith
    refine ismv_v h ?_
    rw [hm]
    simp_arith
    exact q false (fun z => by cases z)
theorem iseast_v {j : Nat} {d e : D} {n : Option FM.Mv} {g : Int} {μ : Mu} {Q : D → Mu → Prop} (h : Bd j d) (hn : ∀ k, n = some k → Mz k) (q : ∀ b, (b = true → ∃ m, d = mw m ∧ EastOk m n g) → Q (.bl b) μ) : Ok (m_is_east [d, .tup [e, optM n, .int g]] μ) Q := by
  cases hm : mvB d with
  | true =>
    obtain ⟨k, rfl⟩ := mvB_mw hm
    exact iseast_spec (c := 25) (bd_mw h).dm.x (fun k hk => (hn k hk).dm.y) (by decide) fun b hb => q b fun z => ⟨k, rfl, hb.mp z⟩
  | false =>
    unfold m_is_east
    simp_arith
    refine ismv_v h ?_
    rw [hm]
    simp_arith
    exact q false (fun z => by cases z)
theorem isform_v {j : Nat} {d : D} {μ : Mu} {Q : D → Mu → Prop} (h : Bd j d) (q : ∀ b, (b = true → ∃ e n g, d = triD e n g ∧ TriOk (16 ^ 25) 104 e n g ∧ IsF e n g) → Q (.bl b) μ) : Ok (m_is_form [d] μ) Q := by
  have hk := bd_kd h
  have no : Q (.bl false) μ := q false (fun z => by cases z)
  unfold m_is_form
  simp_arith [isa_tup hk]
  cases d with
  | tup ds =>
    obtain ⟨i, rfl, hl, he⟩ := bd_tup h
    simp_arith [isT]
    by_cases h3 : ds.length = 3
    · match ds, h3 with
      | [x, y, z], _ =>
        have bx := he x (by simp)
        have by_ := he y (by simp)
        have bz := he z (by simp)
        simp_arith
        refine iscount_v bz fun b hb => ?_
        cases b with
        | false => simp_arith; exact no
        | true =>
          obtain ⟨g, rfl, g0⟩ := hb rfl
          have gz := bd_int bz
          simp_arith
          have fin : ∀ n : Option FM.Mv, y = optM n → (∀ k, n = some k → NorthOk k g ∧ Mz k) → Ok (m_is_none [x] μ) fun c μ1 => OkB c fun b => if b = true then Q (.bl true) μ1 else Ok (m_is_east [x, .tup [x, y, .int g]] μ1) Q := fun n en hn => by
            subst en
            refine isnone_v bx fun b hb => ?_
            cases b with
            | true =>
              have hx := hb rfl
              subst hx
              show Q (.bl true) μ
              exact q true fun _ => ⟨none, n, g, rfl, ⟨fun m hm => (by cases hm), fun m hm => ⟨(hn m hm).2.dm.x.mono (by decide), (hn m hm).2.dm.y.mono (by decide), (hn m hm).2.dm.s.mono (by decide)⟩, (dg29 gz).mono (by decide)⟩, g0, fun k hk => (hn k hk).1, fun m hm => (by cases hm)⟩
            | false =>
              show Ok (m_is_east [x, .tup [x, optM n, .int g]] μ) Q
              refine iseast_v bx (fun k hk => (hn k hk).2) fun b hb => q b fun z => ?_
              obtain ⟨m, rfl, hm⟩ := hb z
              have mz := bd_mw bx
              refine ⟨some m, n, g, rfl, ⟨fun m' hm' => ?_, fun m hm => ⟨(hn m hm).2.dm.x.mono (by decide), (hn m hm).2.dm.y.mono (by decide), (hn m hm).2.dm.s.mono (by decide)⟩, (dg29 gz).mono (by decide)⟩, g0, fun k hk => (hn k hk).1, fun m' hm' => ?_⟩
              · cases hm'
                exact ⟨Nat.le_trans mz.1 (by decide), mz.dm.x.mono (by decide), mz.dm.y.mono (by decide), mz.dm.s.mono (by decide)⟩
              · cases hm'; exact hm
          refine isnone_v by_ fun b hb => ?_
          cases b with
          | true =>
            have hy := hb rfl
            simp_arith
            exact fin none hy (fun k hk => by cases hk)
          | false =>
            simp_arith
            refine isnorth_v by_ fun b hb => ?_
            cases b with
            | false => simp_arith; exact no
            | true =>
              obtain ⟨k, hy, nk⟩ := hb rfl
              simp_arith
              refine fin (some k) hy fun k' hk' => ?_
              cases hk'
              exact ⟨nk, bd_mw (hy ▸ by_)⟩
    · have h3i : ¬ ((ds.length : Nat) : Int) = 3 := by omega
      simp_arith [h3i]
      exact no
  | non => exact no
  | bl x => exact no
  | int x => exact no
  | str x => exact no
  | lst x => exact no
  | dK x => exact no
  | _ => cases hk
end A46

set_option Elab.async false
set_option linter.all false
set_option maxRecDepth 100000
set_option maxHeartbeats 1000000
set_option exponentiation.threshold 10000
namespace A46
open PySem PySem.Spec PyProof.Rows L2 Ar TL
local macro_rules | `(tactic| simp_arith) => `(tactic| simp -implicitDefEqProofs only [↓ok_ok, ↓ok_stk, ↓ok_exc, ↓ok_bind, ↓ok_nox, ↓ok_of, ↓ok_lenO, ↓ok_propO, ↓ok_txtO, ↓ok_clsM, ↓ok_tupRg, ↓ok_lstRg, ↓oko_some, ↓oko_none, ↓oko_ite, ↓oko_map, ↓ok_ite, ↓oks_nx, ↓oks_stk, ↓oks_exc, ↓oks_bk, ↓oks_ct, ↓oks_rt, ↓oks_then, ↓oks_thenN, ↓ok_var0, ↓ok_varS, ↓ok_c, ↓ok_bin, ↓ok_un, ↓okb, ↓ok_test, ↓ok_tru, ↓ok_and, ↓ok_or, ↓ok_not, ↓ok_andV, ↓ok_orV, ↓ok_notV, ↓ok_if, ↓ok_ifT, ↓ok_fld, ↓ok_slt, ↓o_slt0, ↓ok_make, ↓ok_makeS, ↓o_isaC, ↓o_isn_ins, ↓o_is_ins, ↓ok_izip, ↓zipR_ll, ↓zipR_tl, ↓zipR_tt, ↓o_parts, ↓o_shares, ↓o_east, ↓o_north, ↓o_rests, zip2, zip3, ↓ok_nil, ↓ok_cons, ↓ok_star, ↓seqA_tup, ↓seqA_lst, ↓ok_revL, ↓ok_revLM, ↓ok_cmp2, ↓ok_tup, ↓ok_lst, ↓ok_lstM, ↓ok_fn, ↓ok_call, ↓ok_callK, ↓ok_noPart, ↓oki, ↓ok_part, ↓ok_sl, ↓oks_next, ↓oks_seq, ↓oks_drop, ↓oks_ret, ↓oks_retN, ↓oks_break, ↓oks_cont, ↓oks_never, ↓oks_if, ↓oks_try, ↓oks_asg, ↓oks_set, ↓ok_gName, ↓ok_gNil, ↓ok_gCons, ↓ok_gTup, ↓ok_gUnl, ↓ok_gSub, ↓okl2, ↓okl3, ↓oks_par, ↓oks_par3, ↓okv0, ↓okvS, ↓oks_aug, ↓ok_append, ↓ok_extend, ↓seqL_lst, ↓ok_strM, ↓ok_def, ↓ok_iSeq, ↓oki1, ↓oki2, ↓ok_range1, ↓ok_range2, ↓oks_for, ↓ok_lc, ↓ok_finL, ↓ok_finM, ↓ok_yes, ↓setg0, ↓setgS, ↓unsetg0, ↓unsetgS, ↓wipeg0, ↓wipegS, ↓initg0, ↓initgN, ↓initgS, ↓lenis0, ↓lenisS, ↓lenle0, ↓lenleS, ↓seqI_lst, ↓seqIE_lst, ↓seqIE_tup, ↓seqIE_scr, ↓seqI_str, ↓okt, ↓ok_kIx, ↓ok_kGet, ↓ok_revS, ↓okd, ↓ok_dGet, ↓o_mulS, ↓seqI_tup, ↓seqI_scr, ↓o_ne_mv, ↓o_eq_mv, ↓ok_enum, ↓okl1, ↓o_mul_rep, ↓o_mul_iiF, cut_2of3, ↓o_ne_2, ↓o_eq_2, ↓o_ne_bb, ↓o_eq_bb, ↓o_tru_b, ↓o_tru_i, ↓o_tru_t, ↓o_tru_l, ↓o_tru_n, ↓o_isn_non, ↓o_isn_int, ↓o_isn_tup, ↓o_isn_lst, ↓o_isn_str, ↓o_is_non, ↓o_is_int, ↓o_is_tup, ↓o_is_lst, ↓o_is_str, ↓o_eq_ii, ↓o_ne_ii, ↓o_add_ii, ↓o_sub_ii, ↓o_mul_ii, ↓o_div_ii, ↓o_mod_ii, ↓o_lt_ii, ↓o_le_ii, ↓o_gt_ii, ↓o_ge_ii, ↓o_add_tt, ↓o_add_ll, ↓o_add_ss, ↓o_divmod_ii, ↓o_neg_i, ↓o_int_i, ↓o_abs_i, ↓o_max_ii, ↓o_max1_3, ↓o_min1_3, ↓o_min_ii, ↓o_len_tup, ↓o_len_lst, ↓o_len_scr, ↓o_slc_lst, ↓o_slc_scr, ↓o_slc_tup, ↓o_tuple_lst, ↓o_tuple_tup, ↓o_tuple_scr, ↓o_list_tup, ↓o_list_lst, ↓o_bool_b, ↓o_isa_int_int, ↓o_isa_int_bool, ↓o_isa_int_tup, ↓o_isa_int_str, ↓o_isa_int_lst, ↓o_isa_bl_int, ↓o_isa_bl_bool, ↓o_isa_tup_tup, ↓o_isa_tup_int, ↓o_isa_tup_lst, ↓o_isa_tup_str, ↓o_isa_str_str, ↓o_isa_str_int, ↓o_isa_str_tup, ↓o_isa_lst_lst, ↓o_isa_lst_tup, ↓o_isa_lst_int, ↓o_isa_non_int, ↓o_isa_non_tup, ↓o_sum_3, ↓o_all_3, ↓o_atI_0, ↓o_atI_1, ↓o_atI_2, ↓o_atI_3, ↓o_atI_4, ↓o_atI_5, ↓o_ixN_30, ↓o_ixN_31, ↓o_ixN_32, ↓o_fix_tup, ↓o_fix_lst, ↓o_fix_scr, ↓o_pow_6, ↓o_pow_18, pick_0, pick_01, pick_10, pick_012, pick_021, pick_102, pick_120, pick_201, pick_210, eq_self, List.cons_append, List.nil_append, List.append_nil, List.set_set, List.set_cons_zero, List.set_cons_succ, List.length_cons, List.length_nil, Nat.zero_add, Nat.reduceAdd, Nat.reduceLeDiff, castN, natabsN, mulOkL, mulOkR, Bool.true_or, Nat.reducePow, Nat.reduceLT, ne_eq, not_true_eq_false, not_false_eq_true, rng_3, rng_2, Int.reduceEq, Int.reduceLT, Int.reduceLE, Int.reduceAdd, Int.reduceSub, Int.reduceMul, Int.reduceNeg, true_and, and_true, if_true, if_false, Bool.false_eq_true, Bool.true_eq_false, decide_true, decide_false, Bool.not_true, Bool.not_false, Bool.and_true, Bool.true_and, Bool.and_false, Bool.false_and])
local macro_rules | `(tactic| simp_arith [$ts,*]) => `(tactic| simp -implicitDefEqProofs only [↓ok_ok, ↓ok_stk, ↓ok_exc, ↓ok_bind, ↓ok_nox, ↓ok_of, ↓ok_lenO, ↓ok_propO, ↓ok_txtO, ↓ok_clsM, ↓ok_tupRg, ↓ok_lstRg, ↓oko_some, ↓oko_none, ↓oko_ite, ↓oko_map, ↓ok_ite, ↓oks_nx, ↓oks_stk, ↓oks_exc, ↓oks_bk, ↓oks_ct, ↓oks_rt, ↓oks_then, ↓oks_thenN, ↓ok_var0, ↓ok_varS, ↓ok_c, ↓ok_bin, ↓ok_un, ↓okb, ↓ok_test, ↓ok_tru, ↓ok_and, ↓ok_or, ↓ok_not, ↓ok_andV, ↓ok_orV, ↓ok_notV, ↓ok_if, ↓ok_ifT, ↓ok_fld, ↓ok_slt, ↓o_slt0, ↓ok_make, ↓ok_makeS, ↓o_isaC, ↓o_isn_ins, ↓o_is_ins, ↓ok_izip, ↓zipR_ll, ↓zipR_tl, ↓zipR_tt, ↓o_parts, ↓o_shares, ↓o_east, ↓o_north, ↓o_rests, zip2, zip3, ↓ok_nil, ↓ok_cons, ↓ok_star, ↓seqA_tup, ↓seqA_lst, ↓ok_revL, ↓ok_revLM, ↓ok_cmp2, ↓ok_tup, ↓ok_lst, ↓ok_lstM, ↓ok_fn, ↓ok_call, ↓ok_callK, ↓ok_noPart, ↓oki, ↓ok_part, ↓ok_sl, ↓oks_next, ↓oks_seq, ↓oks_drop, ↓oks_ret, ↓oks_retN, ↓oks_break, ↓oks_cont, ↓oks_never, ↓oks_if, ↓oks_try, ↓oks_asg, ↓oks_set, ↓ok_gName, ↓ok_gNil, ↓ok_gCons, ↓ok_gTup, ↓ok_gUnl, ↓ok_gSub, ↓okl2, ↓okl3, ↓oks_par, ↓oks_par3, ↓okv0, ↓okvS, ↓oks_aug, ↓ok_append, ↓ok_extend, ↓seqL_lst, ↓ok_strM, ↓ok_def, ↓ok_iSeq, ↓oki1, ↓oki2, ↓ok_range1, ↓ok_range2, ↓oks_for, ↓ok_lc, ↓ok_finL, ↓ok_finM, ↓ok_yes, ↓setg0, ↓setgS, ↓unsetg0, ↓unsetgS, ↓wipeg0, ↓wipegS, ↓initg0, ↓initgN, ↓initgS, ↓lenis0, ↓lenisS, ↓lenle0, ↓lenleS, ↓seqI_lst, ↓seqIE_lst, ↓seqIE_tup, ↓seqIE_scr, ↓seqI_str, ↓okt, ↓ok_kIx, ↓ok_kGet, ↓ok_revS, ↓okd, ↓ok_dGet, ↓o_mulS, ↓seqI_tup, ↓seqI_scr, ↓o_ne_mv, ↓o_eq_mv, ↓ok_enum, ↓okl1, ↓o_mul_rep, ↓o_mul_iiF, cut_2of3, ↓o_ne_2, ↓o_eq_2, ↓o_ne_bb, ↓o_eq_bb, ↓o_tru_b, ↓o_tru_i, ↓o_tru_t, ↓o_tru_l, ↓o_tru_n, ↓o_isn_non, ↓o_isn_int, ↓o_isn_tup, ↓o_isn_lst, ↓o_isn_str, ↓o_is_non, ↓o_is_int, ↓o_is_tup, ↓o_is_lst, ↓o_is_str, ↓o_eq_ii, ↓o_ne_ii, ↓o_add_ii, ↓o_sub_ii, ↓o_mul_ii, ↓o_div_ii, ↓o_mod_ii, ↓o_lt_ii, ↓o_le_ii, ↓o_gt_ii, ↓o_ge_ii, ↓o_add_tt, ↓o_add_ll, ↓o_add_ss, ↓o_divmod_ii, ↓o_neg_i, ↓o_int_i, ↓o_abs_i, ↓o_max_ii, ↓o_max1_3, ↓o_min1_3, ↓o_min_ii, ↓o_len_tup, ↓o_len_lst, ↓o_len_scr, ↓o_slc_lst, ↓o_slc_scr, ↓o_slc_tup, ↓o_tuple_lst, ↓o_tuple_tup, ↓o_tuple_scr, ↓o_list_tup, ↓o_list_lst, ↓o_bool_b, ↓o_isa_int_int, ↓o_isa_int_bool, ↓o_isa_int_tup, ↓o_isa_int_str, ↓o_isa_int_lst, ↓o_isa_bl_int, ↓o_isa_bl_bool, ↓o_isa_tup_tup, ↓o_isa_tup_int, ↓o_isa_tup_lst, ↓o_isa_tup_str, ↓o_isa_str_str, ↓o_isa_str_int, ↓o_isa_str_tup, ↓o_isa_lst_lst, ↓o_isa_lst_tup, ↓o_isa_lst_int, ↓o_isa_non_int, ↓o_isa_non_tup, ↓o_sum_3, ↓o_all_3, ↓o_atI_0, ↓o_atI_1, ↓o_atI_2, ↓o_atI_3, ↓o_atI_4, ↓o_atI_5, ↓o_ixN_30, ↓o_ixN_31, ↓o_ixN_32, ↓o_fix_tup, ↓o_fix_lst, ↓o_fix_scr, ↓o_pow_6, ↓o_pow_18, pick_0, pick_01, pick_10, pick_012, pick_021, pick_102, pick_120, pick_201, pick_210, eq_self, List.cons_append, List.nil_append, List.append_nil, List.set_set, List.set_cons_zero, List.set_cons_succ, List.length_cons, List.length_nil, Nat.zero_add, Nat.reduceAdd, Nat.reduceLeDiff, castN, natabsN, mulOkL, mulOkR, Bool.true_or, Nat.reducePow, Nat.reduceLT, ne_eq, not_true_eq_false, not_false_eq_true, rng_3, rng_2, Int.reduceEq, Int.reduceLT, Int.reduceLE, Int.reduceAdd, Int.reduceSub, Int.reduceMul, Int.reduceNeg, true_and, and_true, if_true, if_false, Bool.false_eq_true, Bool.true_eq_false, decide_true, decide_false, Bool.not_true, Bool.not_false, Bool.and_true, Bool.true_and, Bool.and_false, Bool.false_and, $ts,*])
theorem o_eq_mvv {μ : Mu} {v a : FM.Mv} {P : D → Prop} : OkO (fEq μ (mw v) (mw a)) P = P (.bl (decide (v = a))) := by
  have e : OkO (fEq μ (mw v) (mw a)) P = P (.bl (decide (v.x = a.x) && (decide (v.y = a.y) && (decide (v.s = a.s) && true)))) := id rfl
  rw [e]
  congr 2
  rw [Bool.eq_iff_iff]
  simp only [Bool.and_eq_true, decide_eq_true_eq, and_true]
  exact ⟨fun ⟨h1, h2, h3⟩ => FM.Mv.ext' h1 h2 h3, fun h => by rw [h]; exact ⟨rfl, rfl, rfl⟩⟩
/-! ### what shows a claim -/
def mvO : D → Option FM.Mv
  | .tup [.int a, .int b, .int c] => some ⟨a, b, c⟩
  | _ => none
theorem mvO_some {d : D} {m : FM.Mv} (h : mvO d = some m) : d = mw m := by
  unfold mvO at h
  split at h
  · cases h; rfl
  · cases h
theorem mvB_O {d : D} : mvB d = (mvO d).isSome := by
  unfold mvB
  split
  · rfl
  · rename_i hn
    unfold mvO
    split
    · exact (hn _ _ _ rfl).elim
    · rfl
theorem o_eq_oM {μ : Mu} {o : Option FM.Mv} {a : FM.Mv} {P : D → Prop} : OkO (fEq μ (oM o) (mw a)) P = P (.bl (decide (o = some a))) := by
  cases o with
  | none => rfl
  | some m =>
    show OkO (fEq μ (mw m) (mw a)) P = _
    rw [o_eq_mvv]
    congr 2
    rw [Bool.eq_iff_iff, decide_eq_true_iff, decide_eq_true_iff]
    exact ⟨fun h => by rw [h], fun h => by injection h⟩
theorem plan_v {ms : List FM.Mv} (hb : Btn ms) {j : Nat} {d : D} (h : Bd j d) {μ : Mu} {Q : D → Mu → Prop} (q : Q (oM (planV ms 5 d)) μ) : Ok (m_plan_move__12 [lotD ms, d, .int 5] μ) Q := pm_12 (M := 25) (by decide) (by decide) hb.le hb.dm d μ Q (bd_pk 5 j d h) q
def madeV (ms : List FM.Mv) (mv p : D) : Bool := match mvO mv with
  | some t => decide (planV ms 5 p = some t)
  | none => false
theorem made_v {ms : List FM.Mv} (hb : Btn ms) {i j : Nat} {mv p : D} (hm : Bd i mv) (hp : Bd j p) {μ : Mu} {Q : D → Mu → Prop} (q : Q (.bl (madeV ms mv p)) μ) : Ok (m_shows_made [lotD ms, mv, p] μ) Q := by
  unfold m_shows_made
  simp_arith
  refine ismv_v hm ?_
  rw [mvB_O]
  unfold madeV at q
  cases ho : mvO mv with
  | none =>
    rw [ho] at q
    simp_arith
    exact q
  | some t =>
    rw [ho] at q
    have := mvO_some ho
    subst this
    simp_arith
    refine plan_v hb hp ?_
    rw [o_eq_oM]
    exact q
theorem missed_v {ms : List FM.Mv} (hb : Btn ms) {i j : Nat} {mv p : D} (hm : Bd i mv) (hp : Bd j p) {μ : Mu} {Q : D → Mu → Prop} (q : ∀ b, (b = true → (mvO mv).isSome = true ∧ ∃ e n g, p = triD e n g) → Q (.bl b) μ) : Ok (m_shows_missed [lotD ms, mv, p] μ) Q := by
  cases ho : mvO mv with
  | none =>
    unfold m_shows_missed
    simp_arith
    refine ismv_v hm ?_
    rw [mvB_O, ho]
    simp_arith
    exact q false (fun z => by cases z)
  | some t =>
    have := mvO_some ho
    subst this
    by_cases hc : ∃ e n g, p = triD e n g ∧ TriOk (16 ^ 25) 104 e n g ∧ IsF e n g
    · obtain ⟨e, n, g, rfl, t1, hf⟩ := hc
      have mz := (bd_mw hm).dm
      exact showst_spec hb t1 (by decide) (mz.x.mono (by decide)) (mz.y.mono (by decide)) fun b _ => q b fun _ => ⟨by rw [ho]; rfl, e, n, g, rfl⟩
    · unfold m_shows_missed
      simp_arith
      refine ismv_v hm ?_
      rw [mvB_O, ho]
      simp_arith
      refine isform_v hp fun b hb' => ?_
      cases b with
      | true => exact absurd (hb' rfl) hc
      | false =>
        simp_arith
        exact q false (fun z => by cases z)
def zipV (ms : List FM.Mv) : List D → List FM.Mv → List Bool
  | d :: ds, t :: ts => decide (planV ms 5 d = some t) :: zipV ms ds ts
  | _, _ => []
def allV (ms ts : List FM.Mv) : D → Bool
  | .tup ds => decide (ds.length = ts.length) && (zipV ms ds ts).all id
  | _ => false
theorem zip_lc {ms : List FM.Mv} (hb : Btn ms) {j : Nat} {g1 g2 : Option D} {μ : Mu} : ∀ (ds : List D) (ts : List FM.Mv) {QL : List D → Mu → Prop}, (∀ d ∈ ds, Bd j d) → QL ((zipV ms ds ts).map D.bl) μ →
    Ok (lcL (dgTup 2 (dgCons (dgName 3) (dgCons (dgName 4) dgNil))) dYes (dBin fEq (dCall m_plan_move__12 (daCons (dVar 0) (daCons (dVar 3) (daCons (dC (.int 5)) (daNil))))) (dVar 4)) [some (lotD ms), g1, g2, none, none] (zipD ds (ts.map mw)) μ) QL
  | [], ts, QL, _, q => by cases ts <;> exact q
  | d :: ds, [], QL, _, q => q
  | d :: ds, t :: ts, QL, h, q => by
    show Ok (lcL _ _ _ _ (.tup [d, mw t] :: zipD ds (ts.map mw)) μ) QL
    rw [ok_lcConsY]
    simp_arith
    refine plan_v hb (h d List.mem_cons_self) ?_
    rw [o_eq_oM]
    exact zip_lc hb ds ts (QL := fun ys μ4 => QL (D.bl (decide (planV ms 5 d = some t)) :: ys) μ4) (fun e he => h e (List.mem_cons_of_mem _ he)) q
theorem all_v {ms ts : List FM.Mv} (hb : Btn ms) {j : Nat} {p gd : D} (hg : gd = .tup (ts.map mw) ∨ gd = .lst (ts.map mw)) (hp : Bd j p) {μ : Mu} {Q : D → Mu → Prop} (q : Q (.bl (allV ms ts p)) μ) : Ok (m_shows_all [lotD ms, gd, p] μ) Q := by
  have hk := bd_kd hp
  have hgl : ∀ P : D → Prop, OkO (fLen μ [gd]) P = P (.int (ts.length : Nat)) := fun P => by
    rcases hg with rfl | rfl
    · show P (.int ((ts.map mw).length : Nat)) = _
      rw [List.length_map]
    · show P (.int ((ts.map mw).length : Nat)) = _
      rw [List.length_map]
  unfold m_shows_all
  simp_arith [isa_tup hk]
  cases p with
  | tup ds =>
    obtain ⟨i, rfl, hl, he⟩ := bd_tup hp
    simp_arith [isT, ↓hgl]
    by_cases h3 : ds.length = ts.length
    · have h3i : ((ds.length : Nat) : Int) = (ts.length : Nat) := by omega
      have ev : allV ms ts (.tup ds) = (zipV ms ds ts).all id := by
        show (decide _ && _) = _
        rw [decide_eq_true h3, Bool.true_and]
      rw [ev] at q
      rcases hg with rfl | rfl
      · simp_arith [h3i]
        refine ⟨by rw [zipD_len, List.length_map]; omega, ?_⟩
        refine zip_lc hb ds ts he ?_
        rw [o_all_bls]
        exact q
      · simp_arith [h3i]
        refine ⟨by rw [zipD_len, List.length_map]; omega, ?_⟩
        refine zip_lc hb ds ts he ?_
        rw [o_all_bls]
        exact q
    · have h3i : ¬ ((ds.length : Nat) : Int) = (ts.length : Nat) := by omega
      have ev : allV ms ts (.tup ds) = false := by
        show (decide _ && _) = _
        rw [decide_eq_false h3, Bool.false_and]
      simp_arith [h3i]
      rw [ev] at q
      exact q
  | non => exact q
  | bl x => exact q
  | int x => exact q
  | str x => exact q
  | lst x => exact q
  | dK x => exact q
  | _ => cases hk
theorem undone_spec {m : FM.Mv} {a b : Nat} {μ : Mu} {Q : D → Mu → Prop} (h : Dg a m.x) (h' : Dg b m.y) (ha : a ≤ 15000) (hb : b ≤ 15000) (q : Q (mw (FM.inv m)) μ) : Ok (m_undone_move [mw m] μ) Q := by
  unfold m_undone_move
  simp_arith
  exact ⟨h.ok h' (by omega) (by omega), q⟩
def arnd (a m : FM.Mv) : FM.Mv := ⟨m.x, m.y, m.s + a.x * m.y - a.y * m.x⟩
theorem around_spec {t m : FM.Mv} {a b c d : Nat} {μ : Mu} {Q : D → Mu → Prop} (ha : Dm2 a b t) (hm : Dm2 c d m) (h1 : a ≤ 1000) (h2 : c ≤ 1000) (q : Q (mw (arnd t m)) μ) : Ok (m_around_move [mw t, mw m] μ) Q := by
  unfold m_around_move
  simp_arith
  exact ⟨ha.x.ok hm.y (by omega) (by omega), ha.y.ok hm.x (by omega) (by omega), q⟩
def sameV (ms ks : List FM.Mv) : D → Bool
  | .tup [p, r] => allV ms ks p && allV ks ms r
  | _ => false
theorem same_v {ms ks : List FM.Mv} (hb : Btn ms) (hk : Btn ks) {j : Nat} {p : D} (hp : Bd j p) {μ : Mu} {Q : D → Mu → Prop} (q : Q (.bl (sameV ms ks p)) μ) : Ok (m_shows_same [lotD ms, lotD ks, p] μ) Q := by
  have hkd := bd_kd hp
  unfold m_shows_same
  simp_arith [isa_tup hkd]
  cases p with
  | tup ds =>
    obtain ⟨i, rfl, hl, he⟩ := bd_tup hp
    simp_arith [isT]
    by_cases h2 : ds.length = 2
    · match ds, h2 with
      | [x, y], _ =>
        simp_arith
        refine all_v hb (.inl rfl) (he x (by simp)) ?_
        have ev : sameV ms ks (.tup [x, y]) = (allV ms ks x && allV ks ms y) := rfl
        rw [ev] at q
        cases h1 : allV ms ks x with
        | false =>
          rw [h1] at q
          simp_arith
          exact q
        | true =>
          rw [h1] at q
          simp_arith
          exact all_v hk (.inl rfl) (he y (by simp)) q
    · have h2i : ¬ ((ds.length : Nat) : Int) = 2 := by omega
      simp_arith [h2i]
      have ev : sameV ms ks (.tup ds) = false := by
        unfold sameV
        split
        · rename_i hh; cases hh; simp at h2
        · rfl
      rw [ev] at q
      exact q
  | non => exact q
  | bl x => exact q
  | int x => exact q
  | str x => exact q
  | lst x => exact q
  | dK x => exact q
  | _ => cases hkd
theorem around_lc {t : FM.Mv} {a b : Nat} (ha : Dm2 a b t) (h1 : a ≤ 1000) {k : Nat} (hk : k = 3 ∨ k = 4) {Γ : Gam} (hΓ : Γ[k]? = some (some (mw t))) (hl : Γ.length = 6) : ∀ (ks : List FM.Mv) {μ : Mu} {QL : List D → Mu → Prop}, (∀ k ∈ ks, Dm2 25 25 k) → QL ((ks.map (arnd t)).map mw) μ →
    Ok (lcL (dgName 5) dYes (dCall m_around_move (daCons (dVar k) (daCons (dVar 5) (daNil)))) Γ (ks.map mw) μ) QL
  | [], μ, QL, h, q => q
  | m :: ks, μ, QL, h, q => by
    rw [List.map_cons, ok_lcConsY]
    have hg : ∀ d, (Γ.set 5 (some d))[k]? = some (some (mw t)) := fun d => by
      rw [List.getElem?_set_ne (by omega)]; exact hΓ
    have h5 : ∀ d, (Γ.set 5 (some d))[5]? = some (some d) := fun d => by
      rw [List.getElem?_set_self (by omega)]
    show Ok (((dVar k (Γ.set 5 (some (mw m))) μ).bind fun x μ1 => ((daCons (dVar 5) daNil) (Γ.set 5 (some (mw m))) μ1).bind fun xs μ2 => .ok (x :: xs) μ2).bind m_around_move) _
    have e1 : dVar k (Γ.set 5 (some (mw m))) μ = .ok (mw t) μ := by unfold dVar; rw [hg]
    have e2 : (daCons (dVar 5) daNil) (Γ.set 5 (some (mw m))) μ = .ok [mw m] μ := by
      unfold daCons daNil dVar
      rw [h5]; rfl
    rw [e1]
    show Ok ((((daCons (dVar 5) daNil) (Γ.set 5 (some (mw m))) μ).bind fun xs μ2 => R.ok (mw t :: xs) μ2).bind m_around_move) _
    rw [e2]
    refine around_spec ha (h m List.mem_cons_self) h1 (by decide) ?_
    exact around_lc ha h1 hk hΓ hl ks (QL := fun ys μ4 => QL (mw (arnd t m) :: ys) μ4) (fun k h' => h k (List.mem_cons_of_mem _ h')) q
def movedV (ms ks : List FM.Mv) : D → Bool
  | .tup [a, p, r] => match mvO a with
    | some t => allV ms (ks.map (arnd (FM.inv t))) p && allV ks (ms.map (arnd t)) r
    | none => false
  | _ => false
theorem moved_v {ms ks : List FM.Mv} (hb : Btn ms) (hk : Btn ks) {j : Nat} {p : D} (hp : Bd j p) {μ : Mu} {Q : D → Mu → Prop} (q : Q (.bl (movedV ms ks p)) μ) : Ok (m_shows_moved [lotD ms, lotD ks, p] μ) Q := by
  have hkd := bd_kd hp
  unfold m_shows_moved
  simp_arith [isa_tup hkd]
  cases p with
  | tup ds =>
    obtain ⟨i, rfl, hl, he⟩ := bd_tup hp
    simp_arith [isT]
    by_cases h3 : ds.length = 3
    · match ds, h3 with
      | [a, x, y], _ =>
        have ev : movedV ms ks (.tup [a, x, y]) = match mvO a with
          | some t => allV ms (ks.map (arnd (FM.inv t))) x && allV ks (ms.map (arnd t)) y
          | none => false := rfl
        rw [ev] at q
        have ba := he a (by simp)
        simp_arith
        refine ismv_v ba ?_
        rw [mvB_O]
        cases ho : mvO a with
        | none =>
          rw [ho] at q
          simp_arith
          exact q
        | some t =>
          rw [ho] at q
          have := mvO_some ho
          subst this
          have mz := (bd_mw ba).dm
          simp_arith
          refine undone_spec mz.x mz.y (by decide) (by decide) ?_
          try simp_arith
          have hmv : mvO (mw t) = some t := rfl
          simp only [hmv] at q
          refine ⟨by rw [List.length_map]; have := hk.le; omega, ?_⟩
          refine around_lc (t := FM.inv t) (a := 26) (b := 60) ⟨mz.x.neg.mono (by decide), mz.y.neg.mono (by decide), ((mz.x.mul mz.y).sub mz.s).mono (by decide)⟩ (by decide) (.inr rfl) rfl rfl ks hk.dm ?_
          refine all_v hb (.inr rfl) (he x (by simp)) ?_
          cases h1 : allV ms (ks.map (arnd (FM.inv t))) x with
          | false =>
            rw [h1] at q
            simp_arith
            exact q
          | true =>
            rw [h1] at q
            simp_arith
            refine ⟨by rw [List.length_map]; have := hb.le; omega, ?_⟩
            refine around_lc (t := t) (a := 25) (b := 25) mz (by decide) (.inl rfl) rfl rfl ms hb.dm ?_
            exact all_v hk (.inr rfl) (he y (by simp)) q
    · have h3i : ¬ ((ds.length : Nat) : Int) = 3 := by omega
      simp_arith [h3i]
      have ev : movedV ms ks (.tup ds) = false := by
        unfold movedV
        split
        · rename_i hh; cases hh; simp at h3
        · rfl
      rw [ev] at q
      exact q
  | non => exact q
  | bl x => exact q
  | int x => exact q
  | str x => exact q
  | lst x => exact q
  | dK x => exact q
  | _ => cases hkd
end A46

set_option Elab.async false
set_option linter.all false
set_option maxRecDepth 100000
set_option maxHeartbeats 1000000
set_option exponentiation.threshold 10000
namespace A46
open PySem PySem.Spec PyProof.Rows L2 Ar TL
local macro_rules | `(tactic| simp_arith) => `(tactic| simp -implicitDefEqProofs only [↓ok_ok, ↓ok_stk, ↓ok_exc, ↓ok_bind, ↓ok_nox, ↓ok_of, ↓ok_lenO, ↓ok_propO, ↓ok_txtO, ↓ok_clsM, ↓ok_tupRg, ↓ok_lstRg, ↓oko_some, ↓oko_none, ↓oko_ite, ↓oko_map, ↓ok_ite, ↓oks_nx, ↓oks_stk, ↓oks_exc, ↓oks_bk, ↓oks_ct, ↓oks_rt, ↓oks_then, ↓oks_thenN, ↓ok_var0, ↓ok_varS, ↓ok_c, ↓ok_bin, ↓ok_un, ↓okb, ↓ok_test, ↓ok_tru, ↓ok_and, ↓ok_or, ↓ok_not, ↓ok_andV, ↓ok_orV, ↓ok_notV, ↓ok_if, ↓ok_ifT, ↓ok_fld, ↓ok_slt, ↓o_slt0, ↓ok_make, ↓ok_makeS, ↓o_isaC, ↓o_isn_ins, ↓o_is_ins, ↓ok_izip, ↓zipR_ll, ↓zipR_tl, ↓zipR_tt, ↓o_parts, ↓o_shares, ↓o_east, ↓o_north, ↓o_rests, zip2, zip3, ↓ok_nil, ↓ok_cons, ↓ok_star, ↓seqA_tup, ↓seqA_lst, ↓ok_revL, ↓ok_revLM, ↓ok_cmp2, ↓ok_tup, ↓ok_lst, ↓ok_lstM, ↓ok_fn, ↓ok_call, ↓ok_callK, ↓ok_noPart, ↓oki, ↓ok_part, ↓ok_sl, ↓oks_next, ↓oks_seq, ↓oks_drop, ↓oks_ret, ↓oks_retN, ↓oks_break, ↓oks_cont, ↓oks_never, ↓oks_if, ↓oks_try, ↓oks_asg, ↓oks_set, ↓ok_gName, ↓ok_gNil, ↓ok_gCons, ↓ok_gTup, ↓ok_gUnl, ↓ok_gSub, ↓okl2, ↓okl3, ↓oks_par, ↓oks_par3, ↓okv0, ↓okvS, ↓oks_aug, ↓ok_append, ↓ok_extend, ↓seqL_lst, ↓ok_strM, ↓ok_def, ↓ok_iSeq, ↓oki1, ↓oki2, ↓ok_range1, ↓ok_range2, ↓oks_for, ↓ok_lc, ↓ok_finL, ↓ok_finM, ↓ok_yes, ↓setg0, ↓setgS, ↓unsetg0, ↓unsetgS, ↓wipeg0, ↓wipegS, ↓initg0, ↓initgN, ↓initgS, ↓lenis0, ↓lenisS, ↓lenle0, ↓lenleS, ↓seqI_lst, ↓seqIE_lst, ↓seqIE_tup, ↓seqIE_scr, ↓seqI_str, ↓okt, ↓ok_kIx, ↓ok_kGet, ↓ok_revS, ↓okd, ↓ok_dGet, ↓o_mulS, ↓seqI_tup, ↓seqI_scr, ↓o_ne_mv, ↓o_eq_mv, ↓ok_enum, ↓okl1, ↓o_mul_rep, ↓o_mul_iiF, cut_2of3, ↓o_ne_2, ↓o_eq_2, ↓o_ne_bb, ↓o_eq_bb, ↓o_tru_b, ↓o_tru_i, ↓o_tru_t, ↓o_tru_l, ↓o_tru_n, ↓o_isn_non, ↓o_isn_int, ↓o_isn_tup, ↓o_isn_lst, ↓o_isn_str, ↓o_is_non, ↓o_is_int, ↓o_is_tup, ↓o_is_lst, ↓o_is_str, ↓o_eq_ii, ↓o_ne_ii, ↓o_add_ii, ↓o_sub_ii, ↓o_mul_ii, ↓o_div_ii, ↓o_mod_ii, ↓o_lt_ii, ↓o_le_ii, ↓o_gt_ii, ↓o_ge_ii, ↓o_add_tt, ↓o_add_ll, ↓o_add_ss, ↓o_divmod_ii, ↓o_neg_i, ↓o_int_i, ↓o_abs_i, ↓o_max_ii, ↓o_max1_3, ↓o_min1_3, ↓o_min_ii, ↓o_len_tup, ↓o_len_lst, ↓o_len_scr, ↓o_slc_lst, ↓o_slc_scr, ↓o_slc_tup, ↓o_tuple_lst, ↓o_tuple_tup, ↓o_tuple_scr, ↓o_list_tup, ↓o_list_lst, ↓o_bool_b, ↓o_isa_int_int, ↓o_isa_int_bool, ↓o_isa_int_tup, ↓o_isa_int_str, ↓o_isa_int_lst, ↓o_isa_bl_int, ↓o_isa_bl_bool, ↓o_isa_tup_tup, ↓o_isa_tup_int, ↓o_isa_tup_lst, ↓o_isa_tup_str, ↓o_isa_str_str, ↓o_isa_str_int, ↓o_isa_str_tup, ↓o_isa_lst_lst, ↓o_isa_lst_tup, ↓o_isa_lst_int, ↓o_isa_non_int, ↓o_isa_non_tup, ↓o_sum_3, ↓o_all_3, ↓o_atI_0, ↓o_atI_1, ↓o_atI_2, ↓o_atI_3, ↓o_atI_4, ↓o_atI_5, ↓o_ixN_30, ↓o_ixN_31, ↓o_ixN_32, ↓o_fix_tup, ↓o_fix_lst, ↓o_fix_scr, ↓o_pow_6, ↓o_pow_18, pick_0, pick_01, pick_10, pick_012, pick_021, pick_102, pick_120, pick_201, pick_210, eq_self, List.cons_append, List.nil_append, List.append_nil, List.set_set, List.set_cons_zero, List.set_cons_succ, List.length_cons, List.length_nil, Nat.zero_add, Nat.reduceAdd, Nat.reduceLeDiff, castN, natabsN, mulOkL, mulOkR, Bool.true_or, Nat.reducePow, Nat.reduceLT, ne_eq, not_true_eq_false, not_false_eq_true, rng_3, rng_2, Int.reduceEq, Int.reduceLT, Int.reduceLE, Int.reduceAdd, Int.reduceSub, Int.reduceMul, Int.reduceNeg, true_and, and_true, if_true, if_false, Bool.false_eq_true, Bool.true_eq_false, decide_true, decide_false, Bool.not_true, Bool.not_false, Bool.and_true, Bool.true_and, Bool.and_false, Bool.false_and])
local macro_rules | `(tactic| simp_arith [$ts,*]) => `(tactic| simp -implicitDefEqProofs only [↓ok_ok, ↓ok_stk, ↓ok_exc, ↓ok_bind, ↓ok_nox, ↓ok_of, ↓ok_lenO, ↓ok_propO, ↓ok_txtO, ↓ok_clsM, ↓ok_tupRg, ↓ok_lstRg, ↓oko_some, ↓oko_none, ↓oko_ite, ↓oko_map, ↓ok_ite, ↓oks_nx, ↓oks_stk, ↓oks_exc, ↓oks_bk, ↓oks_ct, ↓oks_rt, ↓oks_then, ↓oks_thenN, ↓ok_var0, ↓ok_varS, ↓ok_c, ↓ok_bin, ↓ok_un, ↓okb, ↓ok_test, ↓ok_tru, ↓ok_and, ↓ok_or, ↓ok_not, ↓ok_andV, ↓ok_orV, ↓ok_notV, ↓ok_if, ↓ok_ifT, ↓ok_fld, ↓ok_slt, ↓o_slt0, ↓ok_make, ↓ok_makeS, ↓o_isaC, ↓o_isn_ins, ↓o_is_ins, ↓ok_izip, ↓zipR_ll, ↓zipR_tl, ↓zipR_tt, ↓o_parts, ↓o_shares, ↓o_east, ↓o_north, ↓o_rests, zip2, zip3, ↓ok_nil, ↓ok_cons, ↓ok_star, ↓seqA_tup, ↓seqA_lst, ↓ok_revL, ↓ok_revLM, ↓ok_cmp2, ↓ok_tup, ↓ok_lst, ↓ok_lstM, ↓ok_fn, ↓ok_call, ↓ok_callK, ↓ok_noPart, ↓oki, ↓ok_part, ↓ok_sl, ↓oks_next, ↓oks_seq, ↓oks_drop, ↓oks_ret, ↓oks_retN, ↓oks_break, ↓oks_cont, ↓oks_never, ↓oks_if, ↓oks_try, ↓oks_asg, ↓oks_set, ↓ok_gName, ↓ok_gNil, ↓ok_gCons, ↓ok_gTup, ↓ok_gUnl, ↓ok_gSub, ↓okl2, ↓okl3, ↓oks_par, ↓oks_par3, ↓okv0, ↓okvS, ↓oks_aug, ↓ok_append, ↓ok_extend, ↓seqL_lst, ↓ok_strM, ↓ok_def, ↓ok_iSeq, ↓oki1, ↓oki2, ↓ok_range1, ↓ok_range2, ↓oks_for, ↓ok_lc, ↓ok_finL, ↓ok_finM, ↓ok_yes, ↓setg0, ↓setgS, ↓unsetg0, ↓unsetgS, ↓wipeg0, ↓wipegS, ↓initg0, ↓initgN, ↓initgS, ↓lenis0, ↓lenisS, ↓lenle0, ↓lenleS, ↓seqI_lst, ↓seqIE_lst, ↓seqIE_tup, ↓seqIE_scr, ↓seqI_str, ↓okt, ↓ok_kIx, ↓ok_kGet, ↓ok_revS, ↓okd, ↓ok_dGet, ↓o_mulS, ↓seqI_tup, ↓seqI_scr, ↓o_ne_mv, ↓o_eq_mv, ↓ok_enum, ↓okl1, ↓o_mul_rep, ↓o_mul_iiF, cut_2of3, ↓o_ne_2, ↓o_eq_2, ↓o_ne_bb, ↓o_eq_bb, ↓o_tru_b, ↓o_tru_i, ↓o_tru_t, ↓o_tru_l, ↓o_tru_n, ↓o_isn_non, ↓o_isn_int, ↓o_isn_tup, ↓o_isn_lst, ↓o_isn_str, ↓o_is_non, ↓o_is_int, ↓o_is_tup, ↓o_is_lst, ↓o_is_str, ↓o_eq_ii, ↓o_ne_ii, ↓o_add_ii, ↓o_sub_ii, ↓o_mul_ii, ↓o_div_ii, ↓o_mod_ii, ↓o_lt_ii, ↓o_le_ii, ↓o_gt_ii, ↓o_ge_ii, ↓o_add_tt, ↓o_add_ll, ↓o_add_ss, ↓o_divmod_ii, ↓o_neg_i, ↓o_int_i, ↓o_abs_i, ↓o_max_ii, ↓o_max1_3, ↓o_min1_3, ↓o_min_ii, ↓o_len_tup, ↓o_len_lst, ↓o_len_scr, ↓o_slc_lst, ↓o_slc_scr, ↓o_slc_tup, ↓o_tuple_lst, ↓o_tuple_tup, ↓o_tuple_scr, ↓o_list_tup, ↓o_list_lst, ↓o_bool_b, ↓o_isa_int_int, ↓o_isa_int_bool, ↓o_isa_int_tup, ↓o_isa_int_str, ↓o_isa_int_lst, ↓o_isa_bl_int, ↓o_isa_bl_bool, ↓o_isa_tup_tup, ↓o_isa_tup_int, ↓o_isa_tup_lst, ↓o_isa_tup_str, ↓o_isa_str_str, ↓o_isa_str_int, ↓o_isa_str_tup, ↓o_isa_lst_lst, ↓o_isa_lst_tup, ↓o_isa_lst_int, ↓o_isa_non_int, ↓o_isa_non_tup, ↓o_sum_3, ↓o_all_3, ↓o_atI_0, ↓o_atI_1, ↓o_atI_2, ↓o_atI_3, ↓o_atI_4, ↓o_atI_5, ↓o_ixN_30, ↓o_ixN_31, ↓o_ixN_32, ↓o_fix_tup, ↓o_fix_lst, ↓o_fix_scr, ↓o_pow_6, ↓o_pow_18, pick_0, pick_01, pick_10, pick_012, pick_021, pick_102, pick_120, pick_201, pick_210, eq_self, List.cons_append, List.nil_append, List.append_nil, List.set_set, List.set_cons_zero, List.set_cons_succ, List.length_cons, List.length_nil, Nat.zero_add, Nat.reduceAdd, Nat.reduceLeDiff, castN, natabsN, mulOkL, mulOkR, Bool.true_or, Nat.reducePow, Nat.reduceLT, ne_eq, not_true_eq_false, not_false_eq_true, rng_3, rng_2, Int.reduceEq, Int.reduceLT, Int.reduceLE, Int.reduceAdd, Int.reduceSub, Int.reduceMul, Int.reduceNeg, true_and, and_true, if_true, if_false, Bool.false_eq_true, Bool.true_eq_false, decide_true, decide_false, Bool.not_true, Bool.not_false, Bool.and_true, Bool.true_and, Bool.and_false, Bool.false_and, $ts,*])
/-! ### texts -/
theorem tx1 : m_text_lot [.str "X"] [] = .ok .non [] := by kernel_rfl
theorem tx2 : m_text_lot [.str " "] [] = .ok .non [] := by kernel_rfl
theorem tx3 : m_text_lot [.str "moves"] [] = .ok .non [] := by kernel_rfl
theorem tx4 : m_text_lot [.str "9"] [] = .ok .non [] := by kernel_rfl
theorem tx5 : m_text_lot [.str "x y"] [] = .ok .non [] := by kernel_rfl
theorem tx6 : m_text_lot [.str "button 1 2"] [] = .ok .non [] := by kernel_rfl
theorem tx7 : m_text_lot [.str "button 0 0 0\n"] [] = .ok .non [] := by kernel_rfl
def badS : List Str := ["X", " ", "moves", "9", "x y", "button 1 2", "button 0 0 0\n"]
theorem bad_at {z : Str} (h : z ∈ badS) {μ : Mu} : m_text_lot [.str z] μ = .ok .non μ := by
  have g : ∀ {z : Str}, m_text_lot [.str z] [] = .ok .non [] → m_text_lot [.str z] μ = .ok .non μ := fun {z} h => by
    have := pa_m_text_lot μ [.str z] []
    rw [h, upS_nil] at this
    exact this.trans (by show R.ok D.non (upS μ []) = _; rw [upS_nil])
  simp only [badS, List.mem_cons, List.not_mem_nil, or_false] at h
  rcases h with rfl | rfl | rfl | rfl | rfl | rfl | rfl
  · exact g tx1
  · exact g tx2
  · exact g tx3
  · exact g tx4
  · exact g tx5
  · exact g tx6
  · exact g tx7
def isS : D → Bool
  | .str _ => true
  | _ => false
theorem isa_str {d : D} {μ : Mu} (h : kd d = true) : fIsa μ [d, .ty "str"] = some (.bl (isS d)) := by
  cases d <;> first | rfl | (cases h)
def TxD (d : D) : Prop := ∀ z, d = .str z → z ∈ badS ∨ ∃ ms, Btn ms ∧ z = lotT ms
/-- a text that is that of a lot -/
def TxG (d : D) : Prop := ∃ z, d = .str z ∧ z ∉ badS
theorem al0 {μ : Mu} {P : D → Prop} : OkO (fAll μ [.lst []]) P = P (.bl true) := rfl
theorem wrong0 {μ : Mu} {Q : D → Mu → Prop} (q : Q (.int (-1)) μ) : Ok (m_wrong_button [.tup []] μ) Q := by
  unfold m_wrong_button
  simp_arith
  exact q
theorem text_v {d : D} {μ : Mu} {Q : D → Mu → Prop} (hk : kd d = true) (tx : TxD d) (q0 : Q .non μ) (q1 : ∀ ms, Btn ms → d = .str (lotT ms) → TxG d → Q (lotD ms) μ) : Ok (m_text_lot [d] μ) Q := by
  cases d with
  | str z =>
    by_cases hz : z ∈ badS
    · rw [bad_at hz]; exact q0
    · rcases tx z rfl with h | ⟨ms, hb, rfl⟩
      · exact absurd h hz
      · exact textlot_spec hb (q1 ms hb rfl ⟨_, rfl, hz⟩)
  | _ =>
    first
    | (cases hk; done)
    | (unfold m_text_lot
       simp_arith [isa_str hk, isS]
       rw [ok_lcNil, al0]
       simp_arith
       rw [ok_lcNil]
       refine wrong0 ?_
       simp_arith
       exact q0)
end A46

set_option Elab.async false
set_option linter.all false
set_option maxRecDepth 100000
set_option maxHeartbeats 1000000
set_option exponentiation.threshold 10000
namespace A46
open PySem PySem.Spec PyProof.Rows L2 Ar TL
local macro_rules | `(tactic| simp_arith) => `(tactic| simp -implicitDefEqProofs only [↓ok_ok, ↓ok_stk, ↓ok_exc, ↓ok_bind, ↓ok_nox, ↓ok_of, ↓ok_lenO, ↓ok_propO, ↓ok_txtO, ↓ok_clsM, ↓ok_tupRg, ↓ok_lstRg, ↓oko_some, ↓oko_none, ↓oko_ite, ↓oko_map, ↓ok_ite, ↓oks_nx, ↓oks_stk, ↓oks_exc, ↓oks_bk, ↓oks_ct, ↓oks_rt, ↓oks_then, ↓oks_thenN, ↓ok_var0, ↓ok_varS, ↓ok_c, ↓ok_bin, ↓ok_un, ↓okb, ↓ok_test, ↓ok_tru, ↓ok_and, ↓ok_or, ↓ok_not, ↓ok_andV, ↓ok_orV, ↓ok_notV, ↓ok_if, ↓ok_ifT, ↓ok_fld, ↓ok_slt, ↓o_slt0, ↓ok_make, ↓ok_makeS, ↓o_isaC, ↓o_isn_ins, ↓o_is_ins, ↓ok_izip, ↓zipR_ll, ↓zipR_tl, ↓zipR_tt, ↓o_parts, ↓o_shares, ↓o_east, ↓o_north, ↓o_rests, zip2, zip3, ↓ok_nil, ↓ok_cons, ↓ok_star, ↓seqA_tup, ↓seqA_lst, ↓ok_revL, ↓ok_revLM, ↓ok_cmp2, ↓ok_tup, ↓ok_lst, ↓ok_lstM, ↓ok_fn, ↓ok_call, ↓ok_callK, ↓ok_noPart, ↓oki, ↓ok_part, ↓ok_sl, ↓oks_next, ↓oks_seq, ↓oks_drop, ↓oks_ret, ↓oks_retN, ↓oks_break, ↓oks_cont, ↓oks_never, ↓oks_if, ↓oks_try, ↓oks_asg, ↓oks_set, ↓ok_gName, ↓ok_gNil, ↓ok_gCons, ↓ok_gTup, ↓ok_gUnl, ↓ok_gSub, ↓okl2, ↓okl3, ↓oks_par, ↓oks_par3, ↓okv0, ↓okvS, ↓oks_aug, ↓ok_append, ↓ok_extend, ↓seqL_lst, ↓ok_strM, ↓ok_def, ↓ok_iSeq, ↓oki1, ↓oki2, ↓ok_range1, ↓ok_range2, ↓oks_for, ↓ok_lc, ↓ok_finL, ↓ok_finM, ↓ok_yes, ↓setg0, ↓setgS, ↓unsetg0, ↓unsetgS, ↓wipeg0, ↓wipegS, ↓initg0, ↓initgN, ↓initgS, ↓lenis0, ↓lenisS, ↓lenle0, ↓lenleS, ↓seqI_lst, ↓seqIE_lst, ↓seqIE_tup, ↓seqIE_scr, ↓seqI_str, ↓okt, ↓ok_kIx, ↓ok_kGet, ↓ok_revS, ↓okd, ↓ok_dGet, ↓o_mulS, ↓seqI_tup, ↓seqI_scr, ↓o_ne_mv, ↓o_eq_mv, ↓ok_enum, ↓okl1, ↓o_mul_rep, ↓o_mul_iiF, cut_2of3, ↓o_ne_2, ↓o_eq_2, ↓o_ne_bb, ↓o_eq_bb, ↓o_tru_b, ↓o_tru_i, ↓o_tru_t, ↓o_tru_l, ↓o_tru_n, ↓o_isn_non, ↓o_isn_int, ↓o_isn_tup, ↓o_isn_lst, ↓o_isn_str, ↓o_is_non, ↓o_is_int, ↓o_is_tup, ↓o_is_lst, ↓o_is_str, ↓o_eq_ii, ↓o_ne_ii, ↓o_add_ii, ↓o_sub_ii, ↓o_mul_ii, ↓o_div_ii, ↓o_mod_ii, ↓o_lt_ii, ↓o_le_ii, ↓o_gt_ii, ↓o_ge_ii, ↓o_add_tt, ↓o_add_ll, ↓o_add_ss, ↓o_divmod_ii, ↓o_neg_i, ↓o_int_i, ↓o_abs_i, ↓o_max_ii, ↓o_max1_3, ↓o_min1_3, ↓o_min_ii, ↓o_len_tup, ↓o_len_lst, ↓o_len_scr, ↓o_slc_lst, ↓o_slc_scr, ↓o_slc_tup, ↓o_tuple_lst, ↓o_tuple_tup, ↓o_tuple_scr, ↓o_list_tup, ↓o_list_lst, ↓o_bool_b, ↓o_isa_int_int, ↓o_isa_int_bool, ↓o_isa_int_tup, ↓o_isa_int_str, ↓o_isa_int_lst, ↓o_isa_bl_int, ↓o_isa_bl_bool, ↓o_isa_tup_tup, ↓o_isa_tup_int, ↓o_isa_tup_lst, ↓o_isa_tup_str, ↓o_isa_str_str, ↓o_isa_str_int, ↓o_isa_str_tup, ↓o_isa_lst_lst, ↓o_isa_lst_tup, ↓o_isa_lst_int, ↓o_isa_non_int, ↓o_isa_non_tup, ↓o_sum_3, ↓o_all_3, ↓o_atI_0, ↓o_atI_1, ↓o_atI_2, ↓o_atI_3, ↓o_atI_4, ↓o_atI_5, ↓o_ixN_30, ↓o_ixN_31, ↓o_ixN_32, ↓o_fix_tup, ↓o_fix_lst, ↓o_fix_scr, ↓o_pow_6, ↓o_pow_18, pick_0, pick_01, pick_10, pick_012, pick_021, pick_102, pick_120, pick_201, pick_210, eq_self, List.cons_append, List.nil_append, List.append_nil, List.set_set, List.set_cons_zero, List.set_cons_succ, List.length_cons, List.length_nil, Nat.zero_add, Nat.reduceAdd, Nat.reduceLeDiff, castN, natabsN, mulOkL, mulOkR, Bool.true_or, Nat.reducePow, Nat.reduceLT, ne_eq, not_true_eq_false, not_false_eq_true, rng_3, rng_2, Int.reduceEq, Int.reduceLT, Int.reduceLE, Int.reduceAdd, Int.reduceSub, Int.reduceMul, Int.reduceNeg, true_and, and_true, if_true, if_false, Bool.false_eq_true, Bool.true_eq_false, decide_true, decide_false, Bool.not_true, Bool.not_false, Bool.and_true, Bool.true_and, Bool.and_false, Bool.false_and])
local macro_rules | `(tactic| simp_arith [$ts,*]) => `(tactic| simp -implicitDefEqProofs only [↓ok_ok, ↓ok_stk, ↓ok_exc, ↓ok_bind, ↓ok_nox, ↓ok_of, ↓ok_lenO, ↓ok_propO, ↓ok_txtO, ↓ok_clsM, ↓ok_tupRg, ↓ok_lstRg, ↓oko_some, ↓oko_none, ↓oko_ite, ↓oko_map, ↓ok_ite, ↓oks_nx, ↓oks_stk, ↓oks_exc, ↓oks_bk, ↓oks_ct, ↓oks_rt, ↓oks_then, ↓oks_thenN, ↓ok_var0, ↓ok_varS, ↓ok_c, ↓ok_bin, ↓ok_un, ↓okb, ↓ok_test, ↓ok_tru, ↓ok_and, ↓ok_or, ↓ok_not, ↓ok_andV, ↓ok_orV, ↓ok_notV, ↓ok_if, ↓ok_ifT, ↓ok_fld, ↓ok_slt, ↓o_slt0, ↓ok_make, ↓ok_makeS, ↓o_isaC, ↓o_isn_ins, ↓o_is_ins, ↓ok_izip, ↓zipR_ll, ↓zipR_tl, ↓zipR_tt, ↓o_parts, ↓o_shares, ↓o_east, ↓o_north, ↓o_rests, zip2, zip3, ↓ok_nil, ↓ok_cons, ↓ok_star, ↓seqA_tup, ↓seqA_lst, ↓ok_revL, ↓ok_revLM, ↓ok_cmp2, ↓ok_tup, ↓ok_lst, ↓ok_lstM, ↓ok_fn, ↓ok_call, ↓ok_callK, ↓ok_noPart, ↓oki, ↓ok_part, ↓ok_sl, ↓oks_next, ↓oks_seq, ↓oks_drop, ↓oks_ret, ↓oks_retN, ↓oks_break, ↓oks_cont, ↓oks_never, ↓oks_if, ↓oks_try, ↓oks_asg, ↓oks_set, ↓ok_gName, ↓ok_gNil, ↓ok_gCons, ↓ok_gTup, ↓ok_gUnl, ↓ok_gSub, ↓okl2, ↓okl3, ↓oks_par, ↓oks_par3, ↓okv0, ↓okvS, ↓oks_aug, ↓ok_append, ↓ok_extend, ↓seqL_lst, ↓ok_strM, ↓ok_def, ↓ok_iSeq, ↓oki1, ↓oki2, ↓ok_range1, ↓ok_range2, ↓oks_for, ↓ok_lc, ↓ok_finL, ↓ok_finM, ↓ok_yes, ↓setg0, ↓setgS, ↓unsetg0, ↓unsetgS, ↓wipeg0, ↓wipegS, ↓initg0, ↓initgN, ↓initgS, ↓lenis0, ↓lenisS, ↓lenle0, ↓lenleS, ↓seqI_lst, ↓seqIE_lst, ↓seqIE_tup, ↓seqIE_scr, ↓seqI_str, ↓okt, ↓ok_kIx, ↓ok_kGet, ↓ok_revS, ↓okd, ↓ok_dGet, ↓o_mulS, ↓seqI_tup, ↓seqI_scr, ↓o_ne_mv, ↓o_eq_mv, ↓ok_enum, ↓okl1, ↓o_mul_rep, ↓o_mul_iiF, cut_2of3, ↓o_ne_2, ↓o_eq_2, ↓o_ne_bb, ↓o_eq_bb, ↓o_tru_b, ↓o_tru_i, ↓o_tru_t, ↓o_tru_l, ↓o_tru_n, ↓o_isn_non, ↓o_isn_int, ↓o_isn_tup, ↓o_isn_lst, ↓o_isn_str, ↓o_is_non, ↓o_is_int, ↓o_is_tup, ↓o_is_lst, ↓o_is_str, ↓o_eq_ii, ↓o_ne_ii, ↓o_add_ii, ↓o_sub_ii, ↓o_mul_ii, ↓o_div_ii, ↓o_mod_ii, ↓o_lt_ii, ↓o_le_ii, ↓o_gt_ii, ↓o_ge_ii, ↓o_add_tt, ↓o_add_ll, ↓o_add_ss, ↓o_divmod_ii, ↓o_neg_i, ↓o_int_i, ↓o_abs_i, ↓o_max_ii, ↓o_max1_3, ↓o_min1_3, ↓o_min_ii, ↓o_len_tup, ↓o_len_lst, ↓o_len_scr, ↓o_slc_lst, ↓o_slc_scr, ↓o_slc_tup, ↓o_tuple_lst, ↓o_tuple_tup, ↓o_tuple_scr, ↓o_list_tup, ↓o_list_lst, ↓o_bool_b, ↓o_isa_int_int, ↓o_isa_int_bool, ↓o_isa_int_tup, ↓o_isa_int_str, ↓o_isa_int_lst, ↓o_isa_bl_int, ↓o_isa_bl_bool, ↓o_isa_tup_tup, ↓o_isa_tup_int, ↓o_isa_tup_lst, ↓o_isa_tup_str, ↓o_isa_str_str, ↓o_isa_str_int, ↓o_isa_str_tup, ↓o_isa_lst_lst, ↓o_isa_lst_tup, ↓o_isa_lst_int, ↓o_isa_non_int, ↓o_isa_non_tup, ↓o_sum_3, ↓o_all_3, ↓o_atI_0, ↓o_atI_1, ↓o_atI_2, ↓o_atI_3, ↓o_atI_4, ↓o_atI_5, ↓o_ixN_30, ↓o_ixN_31, ↓o_ixN_32, ↓o_fix_tup, ↓o_fix_lst, ↓o_fix_scr, ↓o_pow_6, ↓o_pow_18, pick_0, pick_01, pick_10, pick_012, pick_021, pick_102, pick_120, pick_201, pick_210, eq_self, List.cons_append, List.nil_append, List.append_nil, List.set_set, List.set_cons_zero, List.set_cons_succ, List.length_cons, List.length_nil, Nat.zero_add, Nat.reduceAdd, Nat.reduceLeDiff, castN, natabsN, mulOkL, mulOkR, Bool.true_or, Nat.reducePow, Nat.reduceLT, ne_eq, not_true_eq_false, not_false_eq_true, rng_3, rng_2, Int.reduceEq, Int.reduceLT, Int.reduceLE, Int.reduceAdd, Int.reduceSub, Int.reduceMul, Int.reduceNeg, true_and, and_true, if_true, if_false, Bool.false_eq_true, Bool.true_eq_false, decide_true, decide_false, Bool.not_true, Bool.not_false, Bool.and_true, Bool.true_and, Bool.and_false, Bool.false_and, $ts,*])
/-! ### accepts -/
def isW (w : Str) : Bool := w == "makes" || w == "misses" || w == "same" || w == "moved" || w == "alike" || w == "root"
abbrev KV : List (Str × D) := [("makes", .int 3), ("misses", .int 3), ("same", .int 3), ("moved", .int 3), ("alike", .int 3), ("root", .int 3)]
theorem get6 (w : Str) : (KV.lookup w).getD (.int 0) = if isW w = true then .int 3 else .int 0 := by
  unfold isW
  simp only [KV, List.lookup_cons]
  cases w == "makes" <;> cases w == "misses" <;> cases w == "same" <;> cases w == "moved" <;> cases w == "alike" <;> cases w == "root" <;> rfl
/-- what an accepted claim is like -/
def Good (c p : D) : Prop := ∃ (w : Str) (a b : D), c = .tup [.str w, a, b] ∧
  ((w = "makes" ∧ TxG a ∧ (mvO b).isSome = true ∧ ∃ ms m, planV ms 5 p = some m) ∨
   (w = "misses" ∧ TxG a ∧ (mvO b).isSome = true ∧ ∃ e n g, p = triD e n g) ∨
   (w = "same" ∧ TxG a ∧ TxG b ∧ ∃ ms ks, sameV ms ks p = true) ∨
   (w = "moved" ∧ TxG a ∧ TxG b ∧ ∃ ms ks, movedV ms ks p = true) ∨
   (w = "alike" ∧ (mvO a).isSome = true ∧ (mvO b).isSome = true ∧ (mvO p).isSome = true) ∨
   (w = "root" ∧ (mvO a).isSome = true ∧ (∃ i : Int, b = .int i ∧ 0 < i) ∧ (mvO p).isSome = true))
theorem made_some {ms : List FM.Mv} {mv p : D} (h : madeV ms mv p = true) : (mvO mv).isSome = true ∧ ∃ m, planV ms 5 p = some m := by
  unfold madeV at h
  cases ho : mvO mv with
  | none => rw [ho] at h; cases h
  | some t => rw [ho] at h; exact ⟨rfl, t, of_decide_eq_true h⟩
theorem isw_cases {w : Str} (h : isW w = true) : w = "makes" ∨ w = "misses" ∨ w = "same" ∨ w = "moved" ∨ w = "alike" ∨ w = "root" := by
  unfold isW at h
  simp only [Bool.or_eq_true, beq_iff_eq] at h
  rcases h with ((((h | h) | h) | h) | h) | h <;> simp [h]
theorem i1 {μ : Mu} {P : D → Prop} : OkO (fIn false μ (.str "makes") (.tup [.str (Str.ofString "same"), .str (Str.ofString "moved")])) P = P (.bl false) := id rfl
theorem i2 {μ : Mu} {P : D → Prop} : OkO (fIn false μ (.str "misses") (.tup [.str (Str.ofString "same"), .str (Str.ofString "moved")])) P = P (.bl false) := id rfl
theorem i3 {μ : Mu} {P : D → Prop} : OkO (fIn false μ (.str "same") (.tup [.str (Str.ofString "same"), .str (Str.ofString "moved")])) P = P (.bl true) := id rfl
theorem i4 {μ : Mu} {P : D → Prop} : OkO (fIn false μ (.str "moved") (.tup [.str (Str.ofString "same"), .str (Str.ofString "moved")])) P = P (.bl true) := id rfl
theorem i5 {μ : Mu} {P : D → Prop} : OkO (fIn false μ (.str "alike") (.tup [.str (Str.ofString "same"), .str (Str.ofString "moved")])) P = P (.bl false) := id rfl
theorem i6 {μ : Mu} {P : D → Prop} : OkO (fIn false μ (.str "root") (.tup [.str (Str.ofString "same"), .str (Str.ofString "moved")])) P = P (.bl false) := id rfl
theorem k1 {μ : Mu} {P : D → Prop} : OkO (fIn false μ (.str "makes") (.tup [.str (Str.ofString "alike"), .str (Str.ofString "root")])) P = P (.bl false) := id rfl
theorem k2 {μ : Mu} {P : D → Prop} : OkO (fIn false μ (.str "misses") (.tup [.str (Str.ofString "alike"), .str (Str.ofString "root")])) P = P (.bl false) := id rfl
theorem k5 {μ : Mu} {P : D → Prop} : OkO (fIn false μ (.str "alike") (.tup [.str (Str.ofString "alike"), .str (Str.ofString "root")])) P = P (.bl true) := id rfl
theorem k6 {μ : Mu} {P : D → Prop} : OkO (fIn false μ (.str "root") (.tup [.str (Str.ofString "alike"), .str (Str.ofString "root")])) P = P (.bl true) := id rfl
theorem e1 {μ : Mu} {P : D → Prop} : OkO (fEq μ (.str "makes") (.str (Str.ofString "makes"))) P = P (.bl true) := id rfl
theorem e2 {μ : Mu} {P : D → Prop} : OkO (fEq μ (.str "misses") (.str (Str.ofString "makes"))) P = P (.bl false) := id rfl
theorem e3 {μ : Mu} {P : D → Prop} : OkO (fEq μ (.str "same") (.str (Str.ofString "same"))) P = P (.bl true) := id rfl
theorem e4 {μ : Mu} {P : D → Prop} : OkO (fEq μ (.str "moved") (.str (Str.ofString "same"))) P = P (.bl false) := id rfl
theorem e5 {μ : Mu} {P : D → Prop} : OkO (fEq μ (.str "alike") (.str (Str.ofString "alike"))) P = P (.bl true) := id rfl
theorem e6 {μ : Mu} {P : D → Prop} : OkO (fEq μ (.str "root") (.str (Str.ofString "alike"))) P = P (.bl false) := id rfl
theorem n0 {μ : Mu} {P : D → Prop} : OkO (fIs true μ .non .non) P = P (.bl false) := id rfl
theorem n1 {μ : Mu} {ms : List FM.Mv} {P : D → Prop} : OkO (fIs true μ (lotD ms) .non) P = P (.bl true) := id rfl
theorem m0 {μ : Mu} {P : D → Prop} : OkO (fIs false μ .non .non) P = P (.bl true) := id rfl
theorem m1 {μ : Mu} {ms : List FM.Mv} {P : D → Prop} : OkO (fIs false μ (lotD ms) .non) P = P (.bl false) := id rfl
theorem acc_v {i j : Nat} {c p : D} (hc : Bd j c) (hp : Bd i p) (tx : ∀ w a b, c = .tup [w, a, b] → TxD a ∧ TxD b) {μ : Mu} {Q : D → Mu → Prop} (q : ∀ b, (b = true → Good c p) → Q (.bl b) μ) : Ok (m_accepts [c, p] μ) Q := by
  have hk := bd_kd hc
  have no : Q (.bl false) μ := q false (fun z => by cases z)
  unfold m_accepts
  simp_arith [isa_tup hk]
  cases c with
  | tup ds =>
    obtain ⟨j, rfl, hl, he⟩ := bd_tup hc
    simp_arith [isT]
    cases ds with
    | nil => simp_arith; exact no
    | cons c0 r =>
      have h0 : ¬ (((c0 :: r).length : Nat) : Int) = 0 := by rw [List.length_cons]; omega
      have k0 := bd_kd (he c0 List.mem_cons_self)
      have ea : L2.atI (c0 :: r) (0 : Int) = some c0 := by
        show L2.atI _ ((0 : Nat) : Int) = _
        rw [Ar.atI_nat]; rfl
      simp_arith [h0, ea, isa_str k0]
      cases c0 with
      | str w =>
        simp_arith [isS]
        rw [show (List.lookup w [(Str.ofString "makes", D.int 3), (Str.ofString "misses", D.int 3), (Str.ofString "same", D.int 3), (Str.ofString "moved", D.int 3), (Str.ofString "alike", D.int 3), (Str.ofString "root", D.int 3)]).getD (D.int 0) = _ from get6 w]
        cases hw : isW w with
        | false =>
          have h0' : ¬ (0 : Int) = (((D.str w :: r).length : Nat) : Int) := by rw [List.length_cons]; omega
          simp_arith [h0']
          exact no
        | true =>
          by_cases h3 : (D.str w :: r).length = 3
          · match r, h3 with
            | [a, b], _ =>
              obtain ⟨ta, tb⟩ := tx _ a b rfl
              have ba := he a (by simp)
              have bb := he b (by simp)
              rcases isw_cases hw with rfl | rfl | rfl | rfl | rfl | rfl
              · simp_arith [↓i1, ↓k1]
                refine text_v (bd_kd ba) ta ?_ fun ms hb _ tg => ?_
                · simp_arith [↓e1, ↓n0]
                  exact no
                · simp_arith [↓e1, ↓n1]
                  rw [ok_callV1 (h := rfl)]
                  simp_arith
                  exact made_v hb bb hp (q _ fun z => ⟨_, a, b, rfl, .inl ⟨rfl, tg, (made_some z).1, ms, (made_some z).2⟩⟩)
              · simp_arith [↓i2, ↓k2]
                refine text_v (bd_kd ba) ta ?_ fun ms hb _ tg => ?_
                · simp_arith [↓e2, ↓n0]
                  exact no
                · simp_arith [↓e2, ↓n1]
                  rw [ok_callV2 (h := rfl) (by intro z; exact absurd z (by decide +kernel))]
                  simp_arith
                  exact missed_v hb bb hp fun v hv => q v fun z => ⟨_, a, b, rfl, .inr (.inl ⟨rfl, tg, (hv z).1, (hv z).2⟩)⟩
              · simp_arith [↓i3]
                unfold m_shows_of_lots
                simp_arith
                refine text_v (bd_kd ba) ta ?_ fun ms hb _ tg => ?_
                · refine text_v (bd_kd bb) tb ?_ fun ks hk' _ tg' => ?_
                  · simp_arith [↓m0]; exact no
                  · simp_arith [↓m0]; exact no
                · refine text_v (bd_kd bb) tb ?_ fun ks hk' _ tg' => ?_
                  · simp_arith [↓m0, ↓m1]; exact no
                  · simp_arith [↓m1, ↓e3]
                    rw [ok_callV1 (h := rfl)]
                    simp_arith
                    exact same_v hb hk' hp (q _ fun z => ⟨_, a, b, rfl, .inr (.inr (.inl ⟨rfl, tg, tg', ms, ks, z⟩))⟩)
              · simp_arith [↓i4]
                unfold m_shows_of_lots
                simp_arith
                refine text_v (bd_kd ba) ta ?_ fun ms hb _ tg => ?_
                · refine text_v (bd_kd bb) tb ?_ fun ks hk' _ tg' => ?_
                  · simp_arith [↓m0]; exact no
                  · simp_arith [↓m0]; exact no
                · refine text_v (bd_kd bb) tb ?_ fun ks hk' _ tg' => ?_
                  · simp_arith [↓m0, ↓m1]; exact no
                  · simp_arith [↓m1, ↓e4]
                    rw [ok_callV2 (h := rfl) (by intro z; exact absurd z (by decide +kernel))]
                    simp_arith
                    exact moved_v hb hk' hp (q _ fun z => ⟨_, a, b, rfl, .inr (.inr (.inr (.inl ⟨rfl, tg, tg', ms, ks, z⟩)))⟩)
              · simp_arith [↓i5, ↓k5]
                unfold m_shows_of_moves
                simp_arith
                refine ismv_v ba ?_
                rw [mvB_O]
                cases oa : mvO a with
                | none => simp_arith; exact no
                | some ma =>
                  simp_arith
                  refine ismv_v hp ?_
                  rw [mvB_O]
                  cases op : mvO p with
                  | none => simp_arith; exact no
                  | some mp =>
                    simp_arith [↓e5]
                    refine ismv_v bb ?_
                    rw [mvB_O]
                    cases ob : mvO b with
                    | none => simp_arith; exact no
                    | some mb =>
                      have := mvO_some oa; subst this
                      have := mvO_some op; subst this
                      have := mvO_some ob; subst this
                      simp_arith
                      refine around_spec (bd_mw hp).dm (bd_mw ba).dm (by decide) (by decide) ?_
                      rw [o_eq_mvv]
                      exact q _ fun z => ⟨_, _, _, rfl, .inr (.inr (.inr (.inr (.inl ⟨rfl, rfl, rfl, rfl⟩))))⟩
              · simp_arith [↓i6, ↓k6]
                unfold m_shows_of_moves
                simp_arith
                refine ismv_v ba ?_
                rw [mvB_O]
                cases oa : mvO a with
                | none => simp_arith; exact no
                | some ma =>
                  simp_arith
                  refine ismv_v hp ?_
                  rw [mvB_O]
                  cases op : mvO p with
                  | none => simp_arith; exact no
                  | some mp =>
                    simp_arith [↓e6]
                    refine isint_v (bd_kd bb) ?_
                    cases b with
                    | int i =>
                      have := mvO_some oa; subst this
                      have := mvO_some op; subst this
                      by_cases hi : 0 < i
                      · simp_arith [isI, hi]
                        refine pow_spec (bd_mw hp).dm (dg29 (bd_int bb)) (by decide) (by decide) (by decide) (by decide) ?_
                        rw [o_eq_mvv]
                        exact q _ fun z => ⟨_, _, _, rfl, .inr (.inr (.inr (.inr (.inr ⟨rfl, rfl, ⟨i, rfl, hi⟩, rfl⟩))))⟩
                      · simp_arith [isI, hi]
                        exact no
                    | _ => simp_arith [isI]; exact no
          · rw [List.length_cons] at h3
            have h3' : ¬ (3 : Int) = ((r.length + 1 : Nat) : Int) := by omega
            have hz : ¬ ((r.length + 1 : Nat) : Int) = 0 := by omega
            simp_arith [h3', hz]
            exact no
      | _ => first | (simp_arith [isS]; exact no) | cases k0
  | _ => first | exact no | cases hk
end A46

set_option Elab.async false
set_option linter.all false
set_option maxRecDepth 100000
set_option maxHeartbeats 1000000
set_option exponentiation.threshold 10000
namespace A46
open PySem PySem.Spec PyProof.Rows L2 Ar TL
local macro_rules | `(tactic| simp_arith) => `(tactic| simp -implicitDefEqProofs only [↓ok_ok, ↓ok_stk, ↓ok_exc, ↓ok_bind, ↓ok_nox, ↓ok_of, ↓ok_lenO, ↓ok_propO, ↓ok_txtO, ↓ok_clsM, ↓ok_tupRg, ↓ok_lstRg, ↓oko_some, ↓oko_none, ↓oko_ite, ↓oko_map, ↓ok_ite, ↓oks_nx, ↓oks_stk, ↓oks_exc, ↓oks_bk, ↓oks_ct, ↓oks_rt, ↓oks_then, ↓oks_thenN, ↓ok_var0, ↓ok_varS, ↓ok_c, ↓ok_bin, ↓ok_un, ↓okb, ↓ok_test, ↓ok_tru, ↓ok_and, ↓ok_or, ↓ok_not, ↓ok_andV, ↓ok_orV, ↓ok_notV, ↓ok_if, ↓ok_ifT, ↓ok_fld, ↓ok_slt, ↓o_slt0, ↓ok_make, ↓ok_makeS, ↓o_isaC, ↓o_isn_ins, ↓o_is_ins, ↓ok_izip, ↓zipR_ll, ↓zipR_tl, ↓zipR_tt, ↓o_parts, ↓o_shares, ↓o_east, ↓o_north, ↓o_rests, zip2, zip3, ↓ok_nil, ↓ok_cons, ↓ok_star, ↓seqA_tup, ↓seqA_lst, ↓ok_revL, ↓ok_revLM, ↓ok_cmp2, ↓ok_tup, ↓ok_lst, ↓ok_lstM, ↓ok_fn, ↓ok_call, ↓ok_callK, ↓ok_noPart, ↓oki, ↓ok_part, ↓ok_sl, ↓oks_next, ↓oks_seq, ↓oks_drop, ↓oks_ret, ↓oks_retN, ↓oks_break, ↓oks_cont, ↓oks_never, ↓oks_if, ↓oks_try, ↓oks_asg, ↓oks_set, ↓ok_gName, ↓ok_gNil, ↓ok_gCons, ↓ok_gTup, ↓ok_gUnl, ↓ok_gSub, ↓okl2, ↓okl3, ↓oks_par, ↓oks_par3, ↓okv0, ↓okvS, ↓oks_aug, ↓ok_append, ↓ok_extend, ↓seqL_lst, ↓ok_strM, ↓ok_def, ↓ok_iSeq, ↓oki1, ↓oki2, ↓ok_range1, ↓ok_range2, ↓oks_for, ↓ok_lc, ↓ok_finL, ↓ok_finM, ↓ok_yes, ↓setg0, ↓setgS, ↓unsetg0, ↓unsetgS, ↓wipeg0, ↓wipegS, ↓initg0, ↓initgN, ↓initgS, ↓lenis0, ↓lenisS, ↓lenle0, ↓lenleS, ↓seqI_lst, ↓seqIE_lst, ↓seqIE_tup, ↓seqIE_scr, ↓seqI_str, ↓okt, ↓ok_kIx, ↓ok_kGet, ↓ok_revS, ↓okd, ↓ok_dGet, ↓o_mulS, ↓seqI_tup, ↓seqI_scr, ↓o_ne_mv, ↓o_eq_mv, ↓ok_enum, ↓okl1, ↓o_mul_rep, ↓o_mul_iiF, cut_2of3, ↓o_ne_2, ↓o_eq_2, ↓o_ne_bb, ↓o_eq_bb, ↓o_tru_b, ↓o_tru_i, ↓o_tru_t, ↓o_tru_l, ↓o_tru_n, ↓o_isn_non, ↓o_isn_int, ↓o_isn_tup, ↓o_isn_lst, ↓o_isn_str, ↓o_is_non, ↓o_is_int, ↓o_is_tup, ↓o_is_lst, ↓o_is_str, ↓o_eq_ii, ↓o_ne_ii, ↓o_add_ii, ↓o_sub_ii, ↓o_mul_ii, ↓o_div_ii, ↓o_mod_ii, ↓o_lt_ii, ↓o_le_ii, ↓o_gt_ii, ↓o_ge_ii, ↓o_add_tt, ↓o_add_ll, ↓o_add_ss, ↓o_divmod_ii, ↓o_neg_i, ↓o_int_i, ↓o_abs_i, ↓o_max_ii, ↓o_max1_3, ↓o_min1_3, ↓o_min_ii, ↓o_len_tup, ↓o_len_lst, ↓o_len_scr, ↓o_slc_lst, ↓o_slc_scr, ↓o_slc_tup, ↓o_tuple_lst, ↓o_tuple_tup, ↓o_tuple_scr, ↓o_list_tup, ↓o_list_lst, ↓o_bool_b, ↓o_isa_int_int, ↓o_isa_int_bool, ↓o_isa_int_tup, ↓o_isa_int_str, ↓o_isa_int_lst, ↓o_isa_bl_int, ↓o_isa_bl_bool, ↓o_isa_tup_tup, ↓o_isa_tup_int, ↓o_isa_tup_lst, ↓o_isa_tup_str, ↓o_isa_str_str, ↓o_isa_str_int, ↓o_isa_str_tup, ↓o_isa_lst_lst, ↓o_isa_lst_tup, ↓o_isa_lst_int, ↓o_isa_non_int, ↓o_isa_non_tup, ↓o_sum_3, ↓o_all_3, ↓o_atI_0, ↓o_atI_1, ↓o_atI_2, ↓o_atI_3, ↓o_atI_4, ↓o_atI_5, ↓o_ixN_30, ↓o_ixN_31, ↓o_ixN_32, ↓o_fix_tup, ↓o_fix_lst, ↓o_fix_scr, ↓o_pow_6, ↓o_pow_18, pick_0, pick_01, pick_10, pick_012, pick_021, pick_102, pick_120, pick_201, pick_210, eq_self, List.cons_append, List.nil_append, List.append_nil, List.set_set, List.set_cons_zero, List.set_cons_succ, List.length_cons, List.length_nil, Nat.zero_add, Nat.reduceAdd, Nat.reduceLeDiff, castN, natabsN, mulOkL, mulOkR, Bool.true_or, Nat.reducePow, Nat.reduceLT, ne_eq, not_true_eq_false, not_false_eq_true, rng_3, rng_2, Int.reduceEq, Int.reduceLT, Int.reduceLE, Int.reduceAdd, Int.reduceSub, Int.reduceMul, Int.reduceNeg, true_and, and_true, if_true, if_false, Bool.false_eq_true, Bool.true_eq_false, decide_true, decide_false, Bool.not_true, Bool.not_false, Bool.and_true, Bool.true_and, Bool.and_false, Bool.false_and])
local macro_rules | `(tactic| simp_arith [$ts,*]) => `(tactic| simp -implicitDefEqProofs only [↓ok_ok, ↓ok_stk, ↓ok_exc, ↓ok_bind, ↓ok_nox, ↓ok_of, ↓ok_lenO, ↓ok_propO, ↓ok_txtO, ↓ok_clsM, ↓ok_tupRg, ↓ok_lstRg, ↓oko_some, ↓oko_none, ↓oko_ite, ↓oko_map, ↓ok_ite, ↓oks_nx, ↓oks_stk, ↓oks_exc, ↓oks_bk, ↓oks_ct, ↓oks_rt, ↓oks_then, ↓oks_thenN, ↓ok_var0, ↓ok_varS, ↓ok_c, ↓ok_bin, ↓ok_un, ↓okb, ↓ok_test, ↓ok_tru, ↓ok_and, ↓ok_or, ↓ok_not, ↓ok_andV, ↓ok_orV, ↓ok_notV, ↓ok_if, ↓ok_ifT, ↓ok_fld, ↓ok_slt, ↓o_slt0, ↓ok_make, ↓ok_makeS, ↓o_isaC, ↓o_isn_ins, ↓o_is_ins, ↓ok_izip, ↓zipR_ll, ↓zipR_tl, ↓zipR_tt, ↓o_parts, ↓o_shares, ↓o_east, ↓o_north, ↓o_rests, zip2, zip3, ↓ok_nil, ↓ok_cons, ↓ok_star, ↓seqA_tup, ↓seqA_lst, ↓ok_revL, ↓ok_revLM, ↓ok_cmp2, ↓ok_tup, ↓ok_lst, ↓ok_lstM, ↓ok_fn, ↓ok_call, ↓ok_callK, ↓ok_noPart, ↓oki, ↓ok_part, ↓ok_sl, ↓oks_next, ↓oks_seq, ↓oks_drop, ↓oks_ret, ↓oks_retN, ↓oks_break, ↓oks_cont, ↓oks_never, ↓oks_if, ↓oks_try, ↓oks_asg, ↓oks_set, ↓ok_gName, ↓ok_gNil, ↓ok_gCons, ↓ok_gTup, ↓ok_gUnl, ↓ok_gSub, ↓okl2, ↓okl3, ↓oks_par, ↓oks_par3, ↓okv0, ↓okvS, ↓oks_aug, ↓ok_append, ↓ok_extend, ↓seqL_lst, ↓ok_strM, ↓ok_def, ↓ok_iSeq, ↓oki1, ↓oki2, ↓ok_range1, ↓ok_range2, ↓oks_for, ↓ok_lc, ↓ok_finL, ↓ok_finM, ↓ok_yes, ↓setg0, ↓setgS, ↓unsetg0, ↓unsetgS, ↓wipeg0, ↓wipegS, ↓initg0, ↓initgN, ↓initgS, ↓lenis0, ↓lenisS, ↓lenle0, ↓lenleS, ↓seqI_lst, ↓seqIE_lst, ↓seqIE_tup, ↓seqIE_scr, ↓seqI_str, ↓okt, ↓ok_kIx, ↓ok_kGet, ↓ok_revS, ↓okd, ↓ok_dGet, ↓o_mulS, ↓seqI_tup, ↓seqI_scr, ↓o_ne_mv, ↓o_eq_mv, ↓ok_enum, ↓okl1, ↓o_mul_rep, ↓o_mul_iiF, cut_2of3, ↓o_ne_2, ↓o_eq_2, ↓o_ne_bb, ↓o_eq_bb, ↓o_tru_b, ↓o_tru_i, ↓o_tru_t, ↓o_tru_l, ↓o_tru_n, ↓o_isn_non, ↓o_isn_int, ↓o_isn_tup, ↓o_isn_lst, ↓o_isn_str, ↓o_is_non, ↓o_is_int, ↓o_is_tup, ↓o_is_lst, ↓o_is_str, ↓o_eq_ii, ↓o_ne_ii, ↓o_add_ii, ↓o_sub_ii, ↓o_mul_ii, ↓o_div_ii, ↓o_mod_ii, ↓o_lt_ii, ↓o_le_ii, ↓o_gt_ii, ↓o_ge_ii, ↓o_add_tt, ↓o_add_ll, ↓o_add_ss, ↓o_divmod_ii, ↓o_neg_i, ↓o_int_i, ↓o_abs_i, ↓o_max_ii, ↓o_max1_3, ↓o_min1_3, ↓o_min_ii, ↓o_len_tup, ↓o_len_lst, ↓o_len_scr, ↓o_slc_lst, ↓o_slc_scr, ↓o_slc_tup, ↓o_tuple_lst, ↓o_tuple_tup, ↓o_tuple_scr, ↓o_list_tup, ↓o_list_lst, ↓o_bool_b, ↓o_isa_int_int, ↓o_isa_int_bool, ↓o_isa_int_tup, ↓o_isa_int_str, ↓o_isa_int_lst, ↓o_isa_bl_int, ↓o_isa_bl_bool, ↓o_isa_tup_tup, ↓o_isa_tup_int, ↓o_isa_tup_lst, ↓o_isa_tup_str, ↓o_isa_str_str, ↓o_isa_str_int, ↓o_isa_str_tup, ↓o_isa_lst_lst, ↓o_isa_lst_tup, ↓o_isa_lst_int, ↓o_isa_non_int, ↓o_isa_non_tup, ↓o_sum_3, ↓o_all_3, ↓o_atI_0, ↓o_atI_1, ↓o_atI_2, ↓o_atI_3, ↓o_atI_4, ↓o_atI_5, ↓o_ixN_30, ↓o_ixN_31, ↓o_ixN_32, ↓o_fix_tup, ↓o_fix_lst, ↓o_fix_scr, ↓o_pow_6, ↓o_pow_18, pick_0, pick_01, pick_10, pick_012, pick_021, pick_102, pick_120, pick_201, pick_210, eq_self, List.cons_append, List.nil_append, List.append_nil, List.set_set, List.set_cons_zero, List.set_cons_succ, List.length_cons, List.length_nil, Nat.zero_add, Nat.reduceAdd, Nat.reduceLeDiff, castN, natabsN, mulOkL, mulOkR, Bool.true_or, Nat.reducePow, Nat.reduceLT, ne_eq, not_true_eq_false, not_false_eq_true, rng_3, rng_2, Int.reduceEq, Int.reduceLT, Int.reduceLE, Int.reduceAdd, Int.reduceSub, Int.reduceMul, Int.reduceNeg, true_and, and_true, if_true, if_false, Bool.false_eq_true, Bool.true_eq_false, decide_true, decide_false, Bool.not_true, Bool.not_false, Bool.and_true, Bool.true_and, Bool.and_false, Bool.false_and, $ts,*])
/-! ### good claims are accepted -/
theorem acc_makes {i j : Nat} {ms : List FM.Mv} {mv p : D} {μ : Mu} {Q : D → Mu → Prop} (hb : Btn ms) (hm : Bd i mv) (hp : Bd j p) (q : Q (.bl (madeV ms mv p)) μ) : Ok (m_accepts [.tup [.str "makes", .str (lotT ms), mv], p] μ) Q := by
  unfold m_accepts
  simp_arith
  refine o_ne_self (d := .int 3) rfl ?_
  simp_arith [↓i1, ↓k1]
  refine textlot_spec hb ?_
  simp_arith [↓e1, ↓n1]
  rw [ok_callV1 (h := rfl)]
  simp_arith
  exact made_v hb hm hp q
theorem acc_misses {ms : List FM.Mv} {mv p : D} {μ : Mu} {Q : D → Mu → Prop} (hb : Btn ms) (q : Ok (m_shows_missed [lotD ms, mv, p] μ) Q) : Ok (m_accepts [.tup [.str "misses", .str (lotT ms), mv], p] μ) Q := by
  unfold m_accepts
  simp_arith
  refine o_ne_self (d := .int 3) rfl ?_
  simp_arith [↓i2, ↓k2]
  refine textlot_spec hb ?_
  simp_arith [↓e2, ↓n1]
  rw [ok_callV2 (h := rfl) (by intro z; exact absurd z (by decide +kernel))]
  simp_arith
  exact q
theorem acc_same {j : Nat} {ms ks : List FM.Mv} {p : D} {μ : Mu} {Q : D → Mu → Prop} (hb : Btn ms) (hk : Btn ks) (hp : Bd j p) (q : Q (.bl (sameV ms ks p)) μ) : Ok (m_accepts [.tup [.str "same", .str (lotT ms), .str (lotT ks)], p] μ) Q := by
  unfold m_accepts
  simp_arith
  refine o_ne_self (d := .int 3) rfl ?_
  simp_arith [↓i3]
  unfold m_shows_of_lots
  simp_arith
  refine textlot_spec hb ?_
  try simp_arith
  refine textlot_spec hk ?_
  simp_arith [↓m1, ↓e3]
  rw [ok_callV1 (h := rfl)]
  simp_arith
  exact same_v hb hk hp q
theorem acc_moved {j : Nat} {ms ks : List FM.Mv} {p : D} {μ : Mu} {Q : D → Mu → Prop} (hb : Btn ms) (hk : Btn ks) (hp : Bd j p) (q : Q (.bl (movedV ms ks p)) μ) : Ok (m_accepts [.tup [.str "moved", .str (lotT ms), .str (lotT ks)], p] μ) Q := by
  unfold m_accepts
  simp_arith
  refine o_ne_self (d := .int 3) rfl ?_
  simp_arith [↓i4]
  unfold m_shows_of_lots
  simp_arith
  refine textlot_spec hb ?_
  try simp_arith
  refine textlot_spec hk ?_
  simp_arith [↓m1, ↓e4]
  rw [ok_callV2 (h := rfl) (by intro z; exact absurd z (by decide +kernel))]
  simp_arith
  exact moved_v hb hk hp q
theorem acc_alike {m two p : FM.Mv} {μ : Mu} {Q : D → Mu → Prop} (hm : Mz m) (hp : Mz p) (q : Q (.bl (decide (arnd p m = two))) μ) : Ok (m_accepts [.tup [.str "alike", mw m, mw two], mw p] μ) Q := by
  unfold m_accepts
  simp_arith
  refine o_ne_self (d := .int 3) rfl ?_
  simp_arith [↓i5, ↓k5]
  unfold m_shows_of_moves
  simp_arith
  refine ismv_spec ?_
  simp_arith
  refine ismv_spec ?_
  simp_arith [↓e5]
  refine ismv_spec ?_
  simp_arith
  refine around_spec hp.dm hm.dm (by decide) (by decide) ?_
  rw [o_eq_mvv]
  exact q
theorem acc_root {m p : FM.Mv} {i : Int} {μ : Mu} {Q : D → Mu → Prop} (hp : Mz p) (hi : 0 < i) (hi2 : i ≤ 100) (q : Q (.bl (decide (FM.pow p i = m))) μ) : Ok (m_accepts [.tup [.str "root", mw m, .int i], mw p] μ) Q := by
  unfold m_accepts
  simp_arith
  refine o_ne_self (d := .int 3) rfl ?_
  simp_arith [↓i6, ↓k6]
  unfold m_shows_of_moves
  simp_arith
  refine ismv_spec ?_
  simp_arith
  refine ismv_spec ?_
  simp_arith [↓e6]
  refine isnum_spec ?_
  simp_arith [hi]
  refine pow_spec (M := 25) hp.dm (dg29 (by omega)) (by decide) (by decide) (by decide) (by decide) ?_
  rw [o_eq_mvv]
  exact q
/-! ### their texts -/
theorem tx_two {t : Int} : Str.ofString "button 2 0 0\nbutton 0 3 " ++ FT.iT t = lotT [⟨2, 0, 0⟩, ⟨0, 3, t⟩] := by
  refine ext_tl ?_
  have h1 : tl (Str.ofString "button 2 0 0\nbutton 0 3 ") = [98, 117, 116, 116, 111, 110, 32, 50, 32, 48, 32, 48, 10, 98, 117, 116, 116, 111, 110, 32, 48, 32, 51, 32] := by decide +kernel
  have a0 : FT.iL 0 = [48] := by decide +kernel
  have a2 : FT.iL 2 = [50] := by decide +kernel
  have a3 : FT.iL 3 = [51] := by decide +kernel
  have hn : tl (Str.ofString "\n") = [10] := by decide +kernel
  unfold lotT
  rw [join_eq, tl_join]
  show _ = tl (lineT ⟨2, 0, 0⟩) ++ (tl (Str.ofString "\n") ++ tl (lineT ⟨0, 3, t⟩))
  rw [tl_line, tl_line, tl_mT, tl_mT, tl_append, FT.tl_iT, h1, hn]
  show _ = ([98, 117, 116, 116, 111, 110, 32] ++ (FT.iL 2 ++ ([32] ++ (FT.iL 0 ++ ([32] ++ FT.iL 0))))) ++ ([10] ++ ([98, 117, 116, 116, 111, 110, 32] ++ (FT.iL 0 ++ ([32] ++ (FT.iL 3 ++ ([32] ++ FT.iL t))))))
  rw [a0, a2, a3]
  simp
theorem tx_one {a : Int} : Str.ofString "button " ++ FT.iT a ++ Str.ofString " 0 0" = lotT [⟨a, 0, 0⟩] := by
  refine ext_tl ?_
  have h1 : tl (Str.ofString "button ") = [98, 117, 116, 116, 111, 110, 32] := by decide +kernel
  have h2 : tl (Str.ofString " 0 0") = [32, 48, 32, 48] := by decide +kernel
  have a0 : FT.iL 0 = [48] := by decide +kernel
  unfold lotT
  rw [join_eq, tl_join]
  show _ = tl (lineT ⟨a, 0, 0⟩)
  rw [tl_line, tl_mT, tl_append, tl_append, FT.tl_iT, h1, h2]
  show _ = [98, 117, 116, 116, 111, 110, 32] ++ (FT.iL a ++ ([32] ++ (FT.iL 0 ++ ([32] ++ FT.iL 0))))
  rw [a0]
  simp
theorem tx_lift {a : Int} : Str.ofString "button " ++ FT.iT a ++ Str.ofString " 0 " ++ FT.iT a = lotT [⟨a, 0, a⟩] := by
  refine ext_tl ?_
  have h1 : tl (Str.ofString "button ") = [98, 117, 116, 116, 111, 110, 32] := by decide +kernel
  have h2 : tl (Str.ofString " 0 ") = [32, 48, 32] := by decide +kernel
  have a0 : FT.iL 0 = [48] := by decide +kernel
  unfold lotT
  rw [join_eq, tl_join]
  show _ = tl (lineT ⟨a, 0, a⟩)
  rw [tl_line, tl_mT, tl_append, tl_append, tl_append, FT.tl_iT, h1, h2]
  show _ = [98, 117, 116, 116, 111, 110, 32] ++ (FT.iL a ++ ([32] ++ (FT.iL 0 ++ ([32] ++ FT.iL a))))
  rw [a0]
  simp
/-! ### and what shows them -/
abbrev pr (a b : Int) : D := .tup [.int a, .int b]
theorem pv_two {ms : List FM.Mv} {f : D → Option FM.Mv} {i n : Int} {m : FM.Mv} (h0 : 0 ≤ i) (h1 : i < (ms.length : Nat)) (hn : n ≠ 0) (hm : ms.getD i.toNat FM.one = m) : pairV ms f (pr i n) = some (m, n) := by
  rw [pairV_two, if_neg hn, partV_int, if_pos ⟨h0, h1⟩, hm]; rfl
theorem plan_one {m : FM.Mv} {n : Int} {k : Nat} (hn : n ≠ 0) : planV [m] (k + 1) (.tup [pr 0 n]) = some (FM.mul FM.one (FM.pow m n)) := by
  show goV (pairV [m] (planV [m] k)) [pr 0 n] FM.one = _
  unfold goV
  rw [pv_two (ms := [m]) (i := 0) (m := m) (Int.le_refl 0) (show (0 : Int) < ((1 : Nat) : Int) by decide) hn rfl]
  rfl
theorem inv1 {m : FM.Mv} (hx : m.y = 0) (n : Int) : FM.mul FM.one (FM.pow m n) = ⟨n * m.x, 0, n * m.s⟩ := by
  refine FM.Mv.ext' ?_ ?_ ?_ <;> simp only [FM.mul, FM.one, FM.pow, hx] <;> grind
def two (t : Int) : List FM.Mv := [⟨2, 0, 0⟩, ⟨0, 3, t⟩]
def quad : D := .tup [pr 0 1, pr 1 1, pr 0 (-1), pr 1 (-1)]
theorem plan_quad {t : Int} {k : Nat} : planV (two t) (k + 1) quad = some ⟨0, 0, 6⟩ := by
  have a : ∀ n : Int, n ≠ 0 → pairV (two t) (planV (two t) k) (pr 0 n) = some (⟨2, 0, 0⟩, n) := fun n hn => pv_two (ms := two t) (i := 0) (Int.le_refl 0) (show (0 : Int) < ((2 : Nat) : Int) by decide) hn rfl
  have b : ∀ n : Int, n ≠ 0 → pairV (two t) (planV (two t) k) (pr 1 n) = some (⟨0, 3, t⟩, n) := fun n hn => pv_two (ms := two t) (i := 1) (by decide) (show (1 : Int) < ((2 : Nat) : Int) by decide) hn rfl
  show goV (pairV (two t) (planV (two t) k)) [pr 0 1, pr 1 1, pr 0 (-1), pr 1 (-1)] FM.one = _
  simp only [goV, a 1 (by decide), b 1 (by decide), a (-1) (by decide), b (-1) (by decide)]
  have t1 : FM.tri 1 = 0 := by decide
  have t2 : FM.tri (-1) = 1 := by decide
  congr 1
  refine FM.Mv.ext' ?_ ?_ ?_ <;> simp only [FM.mul, FM.pow, FM.one, t1, t2] <;> grind
theorem plan_pure {t far : Int} (hf : far ≠ 0) : planV (two t) 5 (.tup [.tup [quad, .int far]]) = some ⟨0, 0, 6 * far⟩ := by
  show goV (pairV (two t) (planV (two t) 4)) [.tup [quad, .int far]] FM.one = _
  have p : pairV (two t) (planV (two t) 4) (.tup [quad, .int far]) = some (⟨0, 0, 6⟩, far) := by
    rw [pairV_two, if_neg hf]
    show (planV (two t) 4 quad).map _ = _
    rw [plan_quad]; rfl
  simp only [goV, p]
  congr 1
  refine FM.Mv.ext' ?_ ?_ ?_ <;> simp only [FM.mul, FM.pow, FM.one] <;> grind
theorem btn_mz {ms : List FM.Mv} (ne : ms ≠ []) (h5 : ms.length ≤ 5) (h : ∀ m ∈ ms, Mz m) : Btn ms := ⟨ne, h5, fun m hm => by
  obtain ⟨a, b, c⟩ := h m hm
  have p : (10 ^ 29 : Nat) ≤ 10 ^ 30 := by decide
  exact ⟨Nat.le_trans a p, Nat.le_trans b p, Nat.le_trans c p⟩⟩
end A46

set_option Elab.async false
set_option linter.all false
set_option maxRecDepth 100000
set_option maxHeartbeats 1000000
set_option exponentiation.threshold 10000
namespace A46
open PySem PySem.Spec PyProof.Rows L2 Ar TL
/-! ### numbers alone -/
def pureN : Nat → D → Bool
  | _, .int _ => true
  | n + 1, .tup ds => ds.all (pureN n)
  | _, _ => false
theorem pure_up : ∀ (n : Nat) (d : D), pureN n d = true → pureN (n + 1) d = true
  | 0, d, h => by cases d <;> first | rfl | cases h
  | n + 1, d, h => by
    cases d with
    | tup ds =>
      have h : ds.all (pureN n) = true := h
      show ds.all (pureN (n + 1)) = true
      rw [List.all_eq_true] at h ⊢
      exact fun e he => pure_up n e (h e he)
    | int i => rfl
    | _ => cases h
theorem pure_mono {n m : Nat} {d : D} (h : pureN n d = true) (hl : n ≤ m) : pureN m d = true := by
  induction m with
  | zero => rw [show n = 0 by omega] at h; exact h
  | succ m ih =>
    by_cases e : n = m + 1
    · rw [e] at h; exact h
    · exact pure_up m d (ih (by omega))
theorem pair_some {ms : List FM.Mv} {f : D → Option FM.Mv} {d : D} {r : FM.Mv × Int} (h : pairV ms f d = some r) : ∃ p n m, d = .tup [p, .int n] ∧ partV ms f p = some m := by
  unfold pairV at h
  split at h
  · rename_i p n
    split at h
    · cases h
    · cases hp : partV ms f p with
      | none => rw [hp] at h; cases h
      | some m => exact ⟨p, n, m, rfl, hp⟩
  · cases h
theorem go_some {g : D → Option (FM.Mv × Int)} : ∀ (ds : List D) (a : FM.Mv) {m : FM.Mv}, goV g ds a = some m → ∀ d ∈ ds, ∃ r, g d = some r
  | [], a, m, h, d, hd => by cases hd
  | e :: ds, a, m, h, d, hd => by
    unfold goV at h
    cases hg : g e with
    | none => rw [hg] at h; cases h
    | some r =>
      rw [hg] at h
      rcases List.mem_cons.mp hd with rfl | hd
      · exact ⟨r, hg⟩
      · exact go_some ds _ h d hd
theorem plan_pairs {ms : List FM.Mv} {k : Nat} {d : D} {m : FM.Mv} (h : planV ms (k + 1) d = some m) : ∃ ds, d = .tup ds ∧ ∀ e ∈ ds, ∃ p n m, e = .tup [p, .int n] ∧ partV ms (planV ms k) p = some m := by
  cases d with
  | tup ds => exact ⟨ds, rfl, fun e he => by obtain ⟨r, hr⟩ := go_some ds _ h e he; exact pair_some hr⟩
  | _ => cases h
theorem plan_pureN {ms : List FM.Mv} : ∀ (k : Nat) (d : D) {m : FM.Mv}, planV ms k d = some m → pureN (2 * k) d = true
  | 0, d, m, h => by cases h
  | k + 1, d, m, h => by
    obtain ⟨ds, rfl, hp⟩ := plan_pairs h
    show ds.all (pureN (2 * k + 1)) = true
    rw [List.all_eq_true]
    intro e he
    obtain ⟨p, n, m', rfl, hv⟩ := hp e he
    have hpp : pureN (2 * k) p = true := by
      cases p with
      | tup es => exact plan_pureN k (.tup es) hv
      | int i => cases k <;> rfl
      | _ => cases hv
    show (pureN (2 * k) p && (pureN (2 * k) (.int n) && true)) = true
    rw [hpp]
    cases k <;> rfl
theorem mvO_pure {d : D} {m : FM.Mv} (h : mvO d = some m) : pureN 1 d = true := by rw [mvO_some h]; rfl
theorem tri_pure {e n : Option FM.Mv} {g : Int} : pureN 2 (triD e n g) = true := by cases e <;> cases n <;> rfl
theorem zip_pure {ms : List FM.Mv} : ∀ (ds : List D) (ts : List FM.Mv), ds.length = ts.length → (zipV ms ds ts).all id = true → ∀ d ∈ ds, pureN 10 d = true
  | [], ts, hl, h, d, hd => by cases hd
  | e :: ds, [], hl, h, d, hd => by cases hl
  | e :: ds, t :: ts, hl, h, d, hd => by
    have h : (decide (planV ms 5 e = some t) && (zipV ms ds ts).all id) = true := h
    rw [Bool.and_eq_true, decide_eq_true_eq] at h
    rcases List.mem_cons.mp hd with rfl | hd
    · exact plan_pureN 5 d h.1
    · exact zip_pure ds ts (by simpa using hl) h.2 d hd
theorem all_pure {ms ts : List FM.Mv} {p : D} (h : allV ms ts p = true) : pureN 11 p = true := by
  cases p with
  | tup ds =>
    have h : (decide (ds.length = ts.length) && (zipV ms ds ts).all id) = true := h
    rw [Bool.and_eq_true, decide_eq_true_eq] at h
    exact List.all_eq_true.mpr (zip_pure ds ts h.1 h.2)
  | _ => cases h
theorem same_shape {ms ks : List FM.Mv} {p : D} (h : sameV ms ks p = true) : ∃ x y, p = .tup [x, y] ∧ pureN 12 p = true := by
  unfold sameV at h
  split at h
  · rename_i x y
    rw [Bool.and_eq_true] at h
    refine ⟨x, y, rfl, ?_⟩
    show (pureN 11 x && (pureN 11 y && true)) = true
    rw [all_pure h.1, all_pure h.2]; rfl
  · cases h
theorem moved_shape {ms ks : List FM.Mv} {p : D} (h : movedV ms ks p = true) : ∃ a x y, p = .tup [a, x, y] ∧ pureN 12 p = true := by
  unfold movedV at h
  split at h
  · rename_i a x y
    cases ha : mvO a with
    | none => rw [ha] at h; cases h
    | some t =>
      rw [ha] at h
      have h : (allV ms (ks.map (arnd (FM.inv t))) x && allV ks (ms.map (arnd t)) y) = true := h
      rw [Bool.and_eq_true] at h
      refine ⟨a, x, y, rfl, ?_⟩
      show (pureN 11 a && (pureN 11 x && (pureN 11 y && true))) = true
      rw [pure_mono (mvO_pure ha) (by decide), all_pure h.1, all_pure h.2]; rfl
  · cases h
theorem isSome_ex {d : D} (h : (mvO d).isSome = true) : ∃ m, mvO d = some m := Option.isSome_iff_exists.mp h
/-- what is accepted is shown by tuples of numbers -/
theorem good_pure {c p : D} (h : Good c p) : (∃ ds, p = .tup ds) ∧ pureN 12 p = true := by
  obtain ⟨w, a, b, _, h⟩ := h
  rcases h with ⟨_, _, _, ms, m, hp⟩ | ⟨_, _, _, e, n, g, rfl⟩ | ⟨_, _, _, ms, ks, hp⟩ | ⟨_, _, _, ms, ks, hp⟩ | ⟨_, _, _, hp⟩ | ⟨_, _, _, hp⟩
  · obtain ⟨ds, rfl, _⟩ := plan_pairs hp
    exact ⟨⟨ds, rfl⟩, pure_mono (plan_pureN 5 _ hp) (by decide)⟩
  · exact ⟨⟨_, rfl⟩, pure_mono tri_pure (by decide)⟩
  · obtain ⟨x, y, rfl, h⟩ := same_shape hp
    exact ⟨⟨_, rfl⟩, h⟩
  · obtain ⟨a, x, y, rfl, h⟩ := moved_shape hp
    exact ⟨⟨_, rfl⟩, h⟩
  · obtain ⟨m, hm⟩ := isSome_ex hp
    exact ⟨⟨_, mvO_some hm⟩, pure_mono (mvO_pure hm) (by decide)⟩
  · obtain ⟨m, hm⟩ := isSome_ex hp
    exact ⟨⟨_, mvO_some hm⟩, pure_mono (mvO_pure hm) (by decide)⟩
/-! ### a part in the place of another one -/
inductive Put : Nat → D → D → D → Prop
  | here {k : Nat} {t o : D} : Put k t o o
  | part {k i : Nat} {ds : List D} {o x : D} (h : i < ds.length) (p : Put k (ds[i]'h) o x) : Put (k + 1) (.tup ds) o (.tup (ds.take i ++ x :: ds.drop (i + 1)))
def odds : List D := [.bl true, .dK [], .lst [], .str "X", .tup [.lst []], .tup [.dK []], .lst [.str "a"], .str " ", .lst [.int 1, .int 2], .bl false, .str "moves", .dK [(.inr "a", .int 1)], .tup [.bl true]]
theorem odd_impure {o : D} (h : o ∈ odds) : ∀ n, pureN n o = false := by
  intro n
  simp only [odds, List.mem_cons, List.not_mem_nil, or_false] at h
  rcases h with rfl | rfl | rfl | rfl | rfl | rfl | rfl | rfl | rfl | rfl | rfl | rfl | rfl
  all_goals first
    | (cases n <;> rfl)
    | (cases n with
       | zero => rfl
       | succ n => cases n <;> rfl)
theorem put_impure {k : Nat} {t o x : D} (h : Put k t o x) (ho : ∀ n, pureN n o = false) : ∀ n, pureN n x = false := by
  induction h with
  | here => exact ho
  | @part k i ds o x hi p ih =>
    intro n
    cases n with
    | zero => rfl
    | succ n =>
      show (ds.take i ++ x :: ds.drop (i + 1)).all (pureN n) = false
      rw [List.all_append, List.all_cons, ih ho n]
      simp
theorem bd_mono : ∀ (i j : Nat) (d : D), Bd i d → i ≤ j → Bd j d
  | 0, 0, d, h, _ => h
  | 0, j + 1, d, h, _ => .inl h
  | i + 1, 0, d, h, hl => by omega
  | i + 1, j + 1, d, h, hl => by
    rcases h with h | ⟨ds, e, h1, h2⟩
    · exact .inl h
    · exact .inr ⟨ds, e, h1, fun x hx => bd_mono i j x (h2 x hx) (by omega)⟩
theorem put_bd {k : Nat} {t o x : D} (h : Put k t o x) (ho : Bd 2 o) : ∀ j, Bd j t → Bd (j + 2) x := by
  induction h with
  | here => exact fun j _ => bd_mono 2 _ _ ho (by omega)
  | @part k i ds o x hi p ih =>
    intro j hb
    obtain ⟨j, rfl, hl, he⟩ := bd_tup hb
    refine .inr ⟨_, rfl, ?_, fun e hm => ?_⟩
    · rw [List.length_append, List.length_cons, List.length_take, List.length_drop]; omega
    · rcases List.mem_append.mp hm with z | z
      · exact bd_mono j _ _ (he e (List.mem_of_mem_take z)) (by omega)
      · rcases List.mem_cons.mp z with rfl | z
        · exact ih ho j (he _ (List.getElem_mem hi))
        · exact bd_mono j _ _ (he e (List.mem_of_mem_drop z)) (by omega)
end A46

set_option Elab.async false
set_option linter.all false
set_option maxRecDepth 100000
set_option maxHeartbeats 1000000
set_option exponentiation.threshold 10000
namespace A46
open PySem PySem.Spec PyProof.Rows L2 Ar TL
local macro_rules | `(tactic| simp_arith) => `(tactic| simp -implicitDefEqProofs only [↓ok_ok, ↓ok_stk, ↓ok_exc, ↓ok_bind, ↓ok_nox, ↓ok_of, ↓ok_lenO, ↓ok_propO, ↓ok_txtO, ↓ok_clsM, ↓ok_tupRg, ↓ok_lstRg, ↓oko_some, ↓oko_none, ↓oko_ite, ↓oko_map, ↓ok_ite, ↓oks_nx, ↓oks_stk, ↓oks_exc, ↓oks_bk, ↓oks_ct, ↓oks_rt, ↓oks_then, ↓oks_thenN, ↓ok_var0, ↓ok_varS, ↓ok_c, ↓ok_bin, ↓ok_un, ↓okb, ↓ok_test, ↓ok_tru, ↓ok_and, ↓ok_or, ↓ok_not, ↓ok_andV, ↓ok_orV, ↓ok_notV, ↓ok_if, ↓ok_ifT, ↓ok_fld, ↓ok_slt, ↓o_slt0, ↓ok_make, ↓ok_makeS, ↓o_isaC, ↓o_isn_ins, ↓o_is_ins, ↓ok_izip, ↓zipR_ll, ↓zipR_tl, ↓zipR_tt, ↓o_parts, ↓o_shares, ↓o_east, ↓o_north, ↓o_rests, zip2, zip3, ↓ok_nil, ↓ok_cons, ↓ok_star, ↓seqA_tup, ↓seqA_lst, ↓ok_revL, ↓ok_revLM, ↓ok_cmp2, ↓ok_tup, ↓ok_lst, ↓ok_lstM, ↓ok_fn, ↓ok_call, ↓ok_callK, ↓ok_noPart, ↓oki, ↓ok_part, ↓ok_sl, ↓oks_next, ↓oks_seq, ↓oks_drop, ↓oks_ret, ↓oks_retN, ↓oks_break, ↓oks_cont, ↓oks_never, ↓oks_if, ↓oks_try, ↓oks_asg, ↓oks_set, ↓ok_gName, ↓ok_gNil, ↓ok_gCons, ↓ok_gTup, ↓ok_gUnl, ↓ok_gSub, ↓okl2, ↓okl3, ↓oks_par, ↓oks_par3, ↓okv0, ↓okvS, ↓oks_aug, ↓ok_append, ↓ok_extend, ↓seqL_lst, ↓ok_strM, ↓ok_def, ↓ok_iSeq, ↓oki1, ↓oki2, ↓ok_range1, ↓ok_range2, ↓oks_for, ↓ok_lc, ↓ok_finL, ↓ok_finM, ↓ok_yes, ↓setg0, ↓setgS, ↓unsetg0, ↓unsetgS, ↓wipeg0, ↓wipegS, ↓initg0, ↓initgN, ↓initgS, ↓lenis0, ↓lenisS, ↓lenle0, ↓lenleS, ↓seqI_lst, ↓seqIE_lst, ↓seqIE_tup, ↓seqIE_scr, ↓seqI_str, ↓okt, ↓ok_kIx, ↓ok_kGet, ↓ok_revS, ↓okd, ↓ok_dGet, ↓o_mulS, ↓seqI_tup, ↓seqI_scr, ↓o_ne_mv, ↓o_eq_mv, ↓ok_enum, ↓okl1, ↓o_mul_rep, ↓o_mul_iiF, cut_2of3, ↓o_ne_2, ↓o_eq_2, ↓o_ne_bb, ↓o_eq_bb, ↓o_tru_b, ↓o_tru_i, ↓o_tru_t, ↓o_tru_l, ↓o_tru_n, ↓o_isn_non, ↓o_isn_int, ↓o_isn_tup, ↓o_isn_lst, ↓o_isn_str, ↓o_is_non, ↓o_is_int, ↓o_is_tup, ↓o_is_lst, ↓o_is_str, ↓o_eq_ii, ↓o_ne_ii, ↓o_add_ii, ↓o_sub_ii, ↓o_mul_ii, ↓o_div_ii, ↓o_mod_ii, ↓o_lt_ii, ↓o_le_ii, ↓o_gt_ii, ↓o_ge_ii, ↓o_add_tt, ↓o_add_ll, ↓o_add_ss, ↓o_divmod_ii, ↓o_neg_i, ↓o_int_i, ↓o_abs_i, ↓o_max_ii, ↓o_max1_3, ↓o_min1_3, ↓o_min_ii, ↓o_len_tup, ↓o_len_lst, ↓o_len_scr, ↓o_slc_lst, ↓o_slc_scr, ↓o_slc_tup, ↓o_tuple_lst, ↓o_tuple_tup, ↓o_tuple_scr, ↓o_list_tup, ↓o_list_lst, ↓o_bool_b, ↓o_isa_int_int, ↓o_isa_int_bool, ↓o_isa_int_tup, ↓o_isa_int_str, ↓o_isa_int_lst, ↓o_isa_bl_int, ↓o_isa_bl_bool, ↓o_isa_tup_tup, ↓o_isa_tup_int, ↓o_isa_tup_lst, ↓o_isa_tup_str, ↓o_isa_str_str, ↓o_isa_str_int, ↓o_isa_str_tup, ↓o_isa_lst_lst, ↓o_isa_lst_tup, ↓o_isa_lst_int, ↓o_isa_non_int, ↓o_isa_non_tup, ↓o_sum_3, ↓o_all_3, ↓o_atI_0, ↓o_atI_1, ↓o_atI_2, ↓o_atI_3, ↓o_atI_4, ↓o_atI_5, ↓o_ixN_30, ↓o_ixN_31, ↓o_ixN_32, ↓o_fix_tup, ↓o_fix_lst, ↓o_fix_scr, ↓o_pow_6, ↓o_pow_18, pick_0, pick_01, pick_10, pick_012, pick_021, pick_102, pick_120, pick_201, pick_210, eq_self, List.cons_append, List.nil_append, List.append_nil, List.set_set, List.set_cons_zero, List.set_cons_succ, List.length_cons, List.length_nil, Nat.zero_add, Nat.reduceAdd, Nat.reduceLeDiff, castN, natabsN, mulOkL, mulOkR, Bool.true_or, Nat.reducePow, Nat.reduceLT, ne_eq, not_true_eq_false, not_false_eq_true, rng_3, rng_2, Int.reduceEq, Int.reduceLT, Int.reduceLE, Int.reduceAdd, Int.reduceSub, Int.reduceMul, Int.reduceNeg, true_and, and_true, if_true, if_false, Bool.false_eq_true, Bool.true_eq_false, decide_true, decide_false, Bool.not_true, Bool.not_false, Bool.and_true, Bool.true_and, Bool.and_false, Bool.false_and])
local macro_rules | `(tactic| simp_arith [$ts,*]) => `(tactic| simp -implicitDefEqProofs only [↓ok_ok, ↓ok_stk, ↓ok_exc, ↓ok_bind, ↓ok_nox, ↓ok_of, ↓ok_lenO, ↓ok_propO, ↓ok_txtO, ↓ok_clsM, ↓ok_tupRg, ↓ok_lstRg, ↓oko_some, ↓oko_none, ↓oko_ite, ↓oko_map, ↓ok_ite, ↓oks_nx, ↓oks_stk, ↓oks_exc, ↓oks_bk, ↓oks_ct, ↓oks_rt, ↓oks_then, ↓oks_thenN, ↓ok_var0, ↓ok_varS, ↓ok_c, ↓ok_bin, ↓ok_un, ↓okb, ↓ok_test, ↓ok_tru, ↓ok_and, ↓ok_or, ↓ok_not, ↓ok_andV, ↓ok_orV, ↓ok_notV, ↓ok_if, ↓ok_ifT, ↓ok_fld, ↓ok_slt, ↓o_slt0, ↓ok_make, ↓ok_makeS, ↓o_isaC, ↓o_isn_ins, ↓o_is_ins, ↓ok_izip, ↓zipR_ll, ↓zipR_tl, ↓zipR_tt, ↓o_parts, ↓o_shares, ↓o_east, ↓o_north, ↓o_rests, zip2, zip3, ↓ok_nil, ↓ok_cons, ↓ok_star, ↓seqA_tup, ↓seqA_lst, ↓ok_revL, ↓ok_revLM, ↓ok_cmp2, ↓ok_tup, ↓ok_lst, ↓ok_lstM, ↓ok_fn, ↓ok_call, ↓ok_callK, ↓ok_noPart, ↓oki, ↓ok_part, ↓ok_sl, ↓oks_next, ↓oks_seq, ↓oks_drop, ↓oks_ret, ↓oks_retN, ↓oks_break, ↓oks_cont, ↓oks_never, ↓oks_if, ↓oks_try, ↓oks_asg, ↓oks_set, ↓ok_gName, ↓ok_gNil, ↓ok_gCons, ↓ok_gTup, ↓ok_gUnl, ↓ok_gSub, ↓okl2, ↓okl3, ↓oks_par, ↓oks_par3, ↓okv0, ↓okvS, ↓oks_aug, ↓ok_append, ↓ok_extend, ↓seqL_lst, ↓ok_strM, ↓ok_def, ↓ok_iSeq, ↓oki1, ↓oki2, ↓ok_range1, ↓ok_range2, ↓oks_for, ↓ok_lc, ↓ok_finL, ↓ok_finM, ↓ok_yes, ↓setg0, ↓setgS, ↓unsetg0, ↓unsetgS, ↓wipeg0, ↓wipegS, ↓initg0, ↓initgN, ↓initgS, ↓lenis0, ↓lenisS, ↓lenle0, ↓lenleS, ↓seqI_lst, ↓seqIE_lst, ↓seqIE_tup, ↓seqIE_scr, ↓seqI_str, ↓okt, ↓ok_kIx, ↓ok_kGet, ↓ok_revS, ↓okd, ↓ok_dGet, ↓o_mulS, ↓seqI_tup, ↓seqI_scr, ↓o_ne_mv, ↓o_eq_mv, ↓ok_enum, ↓okl1, ↓o_mul_rep, ↓o_mul_iiF, cut_2of3, ↓o_ne_2, ↓o_eq_2, ↓o_ne_bb, ↓o_eq_bb, ↓o_tru_b, ↓o_tru_i, ↓o_tru_t, ↓o_tru_l, ↓o_tru_n, ↓o_isn_non, ↓o_isn_int, ↓o_isn_tup, ↓o_isn_lst, ↓o_isn_str, ↓o_is_non, ↓o_is_int, ↓o_is_tup, ↓o_is_lst, ↓o_is_str, ↓o_eq_ii, ↓o_ne_ii, ↓o_add_ii, ↓o_sub_ii, ↓o_mul_ii, ↓o_div_ii, ↓o_mod_ii, ↓o_lt_ii, ↓o_le_ii, ↓o_gt_ii, ↓o_ge_ii, ↓o_add_tt, ↓o_add_ll, ↓o_add_ss, ↓o_divmod_ii, ↓o_neg_i, ↓o_int_i, ↓o_abs_i, ↓o_max_ii, ↓o_max1_3, ↓o_min1_3, ↓o_min_ii, ↓o_len_tup, ↓o_len_lst, ↓o_len_scr, ↓o_slc_lst, ↓o_slc_scr, ↓o_slc_tup, ↓o_tuple_lst, ↓o_tuple_tup, ↓o_tuple_scr, ↓o_list_tup, ↓o_list_lst, ↓o_bool_b, ↓o_isa_int_int, ↓o_isa_int_bool, ↓o_isa_int_tup, ↓o_isa_int_str, ↓o_isa_int_lst, ↓o_isa_bl_int, ↓o_isa_bl_bool, ↓o_isa_tup_tup, ↓o_isa_tup_int, ↓o_isa_tup_lst, ↓o_isa_tup_str, ↓o_isa_str_str, ↓o_isa_str_int, ↓o_isa_str_tup, ↓o_isa_lst_lst, ↓o_isa_lst_tup, ↓o_isa_lst_int, ↓o_isa_non_int, ↓o_isa_non_tup, ↓o_sum_3, ↓o_all_3, ↓o_atI_0, ↓o_atI_1, ↓o_atI_2, ↓o_atI_3, ↓o_atI_4, ↓o_atI_5, ↓o_ixN_30, ↓o_ixN_31, ↓o_ixN_32, ↓o_fix_tup, ↓o_fix_lst, ↓o_fix_scr, ↓o_pow_6, ↓o_pow_18, pick_0, pick_01, pick_10, pick_012, pick_021, pick_102, pick_120, pick_201, pick_210, eq_self, List.cons_append, List.nil_append, List.append_nil, List.set_set, List.set_cons_zero, List.set_cons_succ, List.length_cons, List.length_nil, Nat.zero_add, Nat.reduceAdd, Nat.reduceLeDiff, castN, natabsN, mulOkL, mulOkR, Bool.true_or, Nat.reducePow, Nat.reduceLT, ne_eq, not_true_eq_false, not_false_eq_true, rng_3, rng_2, Int.reduceEq, Int.reduceLT, Int.reduceLE, Int.reduceAdd, Int.reduceSub, Int.reduceMul, Int.reduceNeg, true_and, and_true, if_true, if_false, Bool.false_eq_true, Bool.true_eq_false, decide_true, decide_false, Bool.not_true, Bool.not_false, Bool.and_true, Bool.true_and, Bool.and_false, Bool.false_and, $ts,*])
noncomputable abbrev PUF (pt : Fn) : Fn := dDef 4 6 (dSeq (dIfS (dAnd (dTru (dFn fIsa (daCons (dVar 1) (daCons (dC (.ty "tuple")) (daNil))))) (dAnd (dTest (dBin fGt (dFn fLen (daCons (dVar 1) (daNil))) (dC (.int 0)))) (dAnd (dTest (dBin fGt (dVar 3) (dC (.int 0)))) (dTest (dBin fGt (dCall m__law_draw (daCons (dVar 0) (daCons (dC (.int 5)) (daNil)))) (dC (.int 0))))))) (dSeq (dSet 4 (dCall m__law_draw (daCons (dVar 0) (daCons (dFn fLen (daCons (dVar 1) (daNil))) (daNil))))) (dSeq (dSet 5 (dCall pt (daCons (dVar 0) (daCons (dBin fIx (dVar 1) (dVar 4)) (daCons (dVar 2) (daCons (dBin fSubI (dVar 3) (dC (.int 1))) (daNil))))))) (dRet (dBin fAdd (dBin fAdd (dSl (dVar 1) (dNoPart) (dPart (dVar 4))) (dTup (daCons (dVar 5) (daNil)))) (dSl (dVar 1) (dPart (dBin fAdd (dVar 4) (dC (.int 1)))) (dNoPart)))))) (dsNext)) (dRet (dVar 2)))
theorem cut_to {xs : List D} {k : Nat} : cutL xs none (some (k : Int)) = xs.take k := by
  unfold cutL
  rw [HT.sIx_none, HT.sIx_nat, List.drop_zero, Nat.sub_zero]
  by_cases h : k ≤ xs.length
  · rw [Nat.min_eq_left h]
  · rw [Nat.min_eq_right (by omega), List.take_length, List.take_of_length_le (by omega)]
theorem cut_fr {xs : List D} {k : Nat} : cutL xs (some (k : Int)) none = xs.drop k := by
  unfold cutL
  rw [HT.sIx_none, HT.sIx_nat]
  by_cases h : k ≤ xs.length
  · rw [Nat.min_eq_left h, List.take_of_length_le (by rw [List.length_drop]; omega)]
  · rw [Nat.min_eq_right (by omega), List.drop_length, List.drop_of_length_le (by omega)]
    simp
def PutS (pt : Fn) (dm : Nat) : Prop := ∀ (n : Nat) (t o : D) (deep : Nat) (μ : Mu) (Q : D → Mu → Prop), Wm n μ → deep ≤ dm → (∃ j, Bd j t) → (∀ x μ', Wm n μ' → Gr n μ μ' → Put deep t o x → Q x μ') → Ok (pt [.loc n, t, o, .int (deep : Nat)] μ) Q
theorem at_D {ds : List D} {k : Nat} (h : k < ds.length) {P : D → Prop} : OkO (L2.atI ds (k : Int)) P = P (ds[k]'h) := by
  rw [Ar.atI_nat, List.getElem?_eq_getElem h]; rfl
theorem put_step {pt : Fn} {dm : Nat} (h : PutS pt dm) : PutS (PUF pt) (dm + 1) := by
  intro n t o deep μ Q w hd hbt q
  obtain ⟨j, hb⟩ := hbt
  have hk := bd_kd hb
  have hq : Q o μ := q o μ w Gr.refl .here
  simp_arith [isa_tup hk]
  cases t with
  | tup ds =>
    obtain ⟨j, rfl, hl, he⟩ := bd_tup hb
    simp_arith [isT]
    by_cases h0 : 0 < ds.length
    · have h0i : (0 : Int) < ((ds.length : Nat) : Int) := by omega
      by_cases hz : 0 < deep
      · have hzi : (0 : Int) < ((deep : Nat) : Int) := by omega
        simp_arith [h0i, hzi]
        refine draw_spec w (by decide) (by decide) fun d μ1 w1 g1 d0 d1 => ?_
        by_cases hd0 : 0 < d
        · simp_arith [hd0]
          refine draw_spec w1 (by omega) (fdOk_dg (a := 30) (show (((ds.length : Nat) : Int)).natAbs < 16 ^ 30 by omega) (by decide) (by omega)) fun a μ2 w2 g2 a0 a1 => ?_
          obtain ⟨a, rfl⟩ := Int.eq_ofNat_of_zero_le a0
          have ha : a < ds.length := by omega
          simp_arith
          rw [at_D ha]
          obtain ⟨deep, rfl⟩ : ∃ e, deep = e + 1 := ⟨deep - 1, by omega⟩
          rw [show ((deep + 1 : Nat) : Int) - 1 = (deep : Nat) by omega]
          refine h n _ o deep μ2 _ w2 (by omega) ⟨j, he _ (List.getElem_mem ha)⟩ fun x μ3 w3 g3 px => ?_
          simp_arith [cut_to]
          have e2 : cutL ds (some ((a : Int) + 1)) none = ds.drop (a + 1) := cut_fr (k := a + 1)
          rw [e2]
          refine ⟨by rw [List.length_take]; omega, by rw [List.length_append, List.length_take, List.length_drop, List.length_singleton]; omega, ?_⟩
          rw [List.append_assoc]
          exact q _ μ3 w3 ((g1.trans g2).trans g3) (.part ha px)
        · simp_arith [hd0]
          exact q o μ1 w1 g1 .here
      · have hzi : ¬ (0 : Int) < ((deep : Nat) : Int) := by omega
        simp_arith [h0i, hzi]
        exact hq
    · have h0i : ¬ (0 : Int) < ((ds.length : Nat) : Int) := by omega
      simp_arith [h0i]
      exact hq
  | _ => first | exact hq | cases hk
theorem put_0 : PutS m__law_put__7 0 := by
  intro n t o deep μ Q w hd hbt q
  obtain ⟨j, hb⟩ := hbt
  have hk := bd_kd hb
  have hq : Q o μ := q o μ w Gr.refl .here
  have h0 : deep = 0 := by omega
  subst h0
  unfold m__law_put__7
  simp_arith [isa_tup hk]
  cases t with
  | tup ds =>
    simp_arith [isT]
    by_cases h0 : 0 < ds.length
    · have h0i : (0 : Int) < ((ds.length : Nat) : Int) := by omega
      simp_arith [h0i]
      exact hq
    · have h0i : ¬ (0 : Int) < ((ds.length : Nat) : Int) := by omega
      simp_arith [h0i]
      exact hq
  | _ => first | exact hq | cases hk
theorem put_8 : PutS m__law_put__8 1 := by
  unfold m__law_put__8
  exact put_step put_0
theorem put_9 : PutS m__law_put__9 2 := by
  unfold m__law_put__9
  exact put_step put_8
theorem put_10 : PutS m__law_put__10 3 := by
  unfold m__law_put__10
  exact put_step put_9
theorem put_11 : PutS m__law_put__11 4 := by
  unfold m__law_put__11
  exact put_step put_10
theorem put_12 : PutS m__law_put__12 5 := by
  unfold m__law_put__12
  exact put_step put_11
theorem o_emp {Γ : Gam} {μ : Mu} {Q : D → Mu → Prop} : Ok (dEmp Γ μ) Q = Q (.dK []) μ := rfl
theorem o_dct {x : Str} {i : Int} {Γ : Gam} {μ : Mu} {Q : D → Mu → Prop} : Ok (dDct1 x i Γ μ) Q = Q (.dK [(.inr x, .int i)]) μ := rfl
theorem odd_spec {n : Nat} {μ : Mu} {Q : D → Mu → Prop} (w : Wm n μ) (q : ∀ o μ', Wm n μ' → Gr n μ μ' → o ∈ odds → Q o μ') : Ok (m__law_odd [.loc n] μ) Q := by
  unfold m__law_odd
  simp_arith
  rw [o_emp, o_emp, o_dct]
  exact pick_spec w (by simp) (by simp) fun x hx μ1 w1 g1 => q x μ1 w1 g1 hx
def words : List D := [.non, .int 5, .str "", .str "Makes", .str "makes ", .tup [.str "makes"], .bl true, .lst [], .dK [], .str "made", .str "miss", .str "roots"]
def odd2 : List D := [.bl true, .non, .str "9", .lst [], .tup [.int 1, .int 2, .int 3, .int 4], .dK [], .str "x y", .bl false, .int (-1), .tup [.non], .str "button 1 2", .str "button 0 0 0\n"]
/-- a claim of a wrong form -/
def Wr (wd a b x : D) : Prop := (x ∈ [D.lst [wd, a, b], .tup [wd, a, b, .non], .tup [wd, a], .tup [wd, a, b, .int 1], .tup [.tup [wd, a, b]], .tup [a, b]]) ∨ (∃ o ∈ words, x = .tup [o, a, b]) ∨ ∃ o ∈ odd2, x = .tup [wd, o, b] ∨ x = .tup [wd, a, o]
theorem wr_spec {n : Nat} {wd a b : D} {μ : Mu} {Q : D → Mu → Prop} (w : Wm n μ) (q : ∀ x μ', Wm n μ' → Gr n μ μ' → Wr wd a b x → Q x μ') : Ok (m__law_wrong [.loc n, .tup [wd, a, b]] μ) Q := by
  unfold m__law_wrong
  simp_arith
  have c1 : cutL [wd, a, b] none (some (-1)) = [wd, a] := rfl
  have c2 : cutL [wd, a, b] (some 1) none = [a, b] := rfl
  have c3 : cutL [wd, a, b] none (some 1) = [wd] := rfl
  have c4 : cutL [wd, a, b] (some 2) none = [b] := rfl
  have c5 : cutL [wd, a, b] none (some 2) = [wd, a] := rfl
  have c6 : cutL [wd, a, b] (some 3) none = [] := rfl
  rw [c1, c2]
  refine draw_spec w (by decide) (by decide) fun d μ1 w1 g1 d0 d1 => ?_
  have hd : d = 0 ∨ d = 1 ∨ (d ≠ 0 ∧ d ≠ 1) := by omega
  rcases hd with rfl | rfl | ⟨h0, h1⟩
  · simp_arith
    exact pick_spec w1 (by simp) (by simp) fun x hx μ2 w2 g2 => q x μ2 w2 (g1.trans g2) (.inl hx)
  · simp_arith
    rw [o_emp]
    refine pick_spec w1 (by simp) (by simp) fun x hx μ2 w2 g2 => ?_
    first
      | exact q _ μ2 w2 (g1.trans g2) (.inr (.inl ⟨x, hx, rfl⟩))
      | exact ⟨by decide, q _ μ2 w2 (g1.trans g2) (.inr (.inl ⟨x, hx, rfl⟩))⟩
  · simp_arith [h0, h1]
    rw [o_emp]
    refine pick_spec w1 (by simp) (by simp) fun x hx μ2 w2 g2 => ?_
    try simp_arith
    refine draw_spec w2 (by decide) (by decide) fun e μ3 w3 g3 e0 e1 => ?_
    have he : e = 0 ∨ e = 1 := by omega
    rcases he with rfl | rfl
    · simp_arith
      rw [c3, c4]
      exact ⟨show 1 ≤ 999999 by decide, show 3 ≤ 1000000 by decide, q _ μ3 w3 ((g1.trans g2).trans g3) (.inr (.inr ⟨x, hx, .inl rfl⟩))⟩
    · simp_arith
      rw [c6]
      exact ⟨show 3 ≤ 1000000 by decide, q _ μ3 w3 ((g1.trans g2).trans g3) (.inr (.inr ⟨x, hx, .inr rfl⟩))⟩
theorem lastS {μ : Mu} {ds es : List D} : (μ ++ [MO.lst ds]).set μ.length (.lst es) = μ ++ [.lst es] := by simp
theorem placeS {μ : Mu} {ds : List D} {P : Nat × List D → Prop} : OkO (placeL (μ ++ [MO.lst ds]) (.loc μ.length)) P = P (μ.length, ds) := by
  have e : placeL (μ ++ [MO.lst ds]) (.loc μ.length) = some (μ.length, ds) := by
    unfold placeL
    simp only [List.getElem?_concat_length]
  rw [e]; rfl
abbrev C1 (far t : Int) : D := .tup [.str "makes", .str (lotT (two t)), mw ⟨0, 0, 6 * far⟩]
abbrev P1 (far : Int) : D := .tup [.tup [quad, .int far]]
abbrev C2 (far t : Int) : D := .tup [.str "misses", .str (lotT (two t)), mw ⟨1, 0, far⟩]
abbrev P2 : D := triD (some ⟨2, 0, 0⟩) (some ⟨0, 3, 0⟩) 6
abbrev C3 (far : Int) : D := .tup [.str "alike", mw ⟨2, 4, far⟩, mw ⟨2, 4, far + 2⟩]
abbrev P3 (far : Int) : D := mw ⟨1, 1, far⟩
abbrev C4 (far : Int) : D := .tup [.str "root", mw ⟨2 * far, 0, 2 * far⟩, .int 2]
abbrev P4 (far : Int) : D := mw ⟨far, 0, far⟩
abbrev C5 (far : Int) : D := .tup [.str "same", .str (lotT [⟨far, 0, 0⟩]), .str (lotT [⟨0 - far, 0, 0⟩])]
abbrev P5 : D := .tup [.tup [.tup [pr 0 (-1)]], .tup [.tup [pr 0 (-1)]]]
abbrev C6 (far : Int) : D := .tup [.str "moved", .str (lotT [⟨far, 0, 0⟩]), .str (lotT [⟨far, 0, far⟩])]
abbrev P6 (far : Int) : D := .tup [mw ⟨0, -1, far⟩, .tup [.tup [pr 0 1]], .tup [.tup [pr 0 1]]]
def goods (far t : Int) : List D := [.tup [C1 far t, P1 far], .tup [C2 far t, P2], .tup [C3 far, P3 far], .tup [C4 far, P4 far], .tup [C5 far, P5], .tup [C6 far, P6 far]]
theorem good_spec {n : Nat} {μ : Mu} {Q : D → Mu → Prop} (w : Wm n μ) (q : ∀ (far t : Int) j μ', Wm n μ' → Gr n μ μ' → n ≠ j → 2 ≤ far → far ≤ 10 ^ 28 → 0 ≤ t → t ≤ 100 → (6 : Int) ∣ t → μ'[j]? = some (.lst (goods far t)) → Q (.loc j) μ') : Ok (m__law_good [.loc n] μ) Q := by
  unfold m__law_good
  simp_arith
  refine great_spec w fun d μ1 w1 g1 d0 d1 => ?_
  try simp_arith
  refine draw_spec w1 (by decide) (by decide) fun e μ2 w2 g2 e0 e1 => ?_
  have n1 : (6 * (1 + e)).natAbs < 10 ^ 500 := Nat.lt_of_le_of_lt (show _ ≤ 100 by omega) (by decide)
  have n2 : (2 + d).natAbs < 10 ^ 500 := Nat.lt_of_le_of_lt (show _ ≤ 10 ^ 28 by omega) (by decide)
  have n3 : (0 - (2 + d)).natAbs < 10 ^ 500 := Nat.lt_of_le_of_lt (show _ ≤ 10 ^ 28 by omega) (by decide)
  simp_arith [↓o_str_i n1, ↓placeS, lastS, ↓o_str_i n2, ↓o_str_i n3]
  have i1 := iT_len n1
  have i2 := iT_len n2
  have i3 := iT_len n3
  have l1 : (Str.ofString "button 2 0 0\nbutton 0 3 ").length = 24 := by decide +kernel
  have l2 : (Str.ofString "button ").length = 7 := by decide +kernel
  have l3 : (Str.ofString " 0 0").length = 4 := by decide +kernel
  have l4 : (Str.ofString " 0 ").length = 3 := by decide +kernel
  have la : ∀ a b : Str, (a ++ b).length = a.length + b.length := fun a b => by rw [len_tl, tl_append, List.length_append, ← len_tl, ← len_tl]
  refine ⟨by omega, by omega, by rw [la]; omega, by omega, by rw [la]; omega, by omega, by rw [la]; omega, by rw [la, la]; omega, ?_⟩
  rw [tx_two, tx_one, tx_one, tx_lift]
  have wl := w2.lt
  exact q (2 + d) (6 * (1 + e)) μ2.length _ (w2.gr (m := μ2.length) ⟨by simp, fun j o _ hj => app_get hj⟩ (by omega)) ((g1.trans g2).trans Gr.app) (by omega) (by omega) (by omega) (by omega) (by omega) ⟨1 + e, rfl⟩ List.getElem?_concat_length
end A46

set_option Elab.async false
set_option linter.all false
set_option maxRecDepth 100000
set_option maxHeartbeats 1000000
set_option exponentiation.threshold 10000
namespace A46
open PySem PySem.Spec PyProof.Rows L2 Ar TL
/-! ### the six good claims -/
def moreL : List D := [.non, .str "a", .lst [], .tup [.str "a", .str "b"], .str "7", .tup [.tup [.int 1, .int 0, .int 0]]]
structure GP (c p : D) : Prop where
  bc : Bd 6 c
  bp : Bd 8 p
  sh : ∃ w a b, c = .tup [.str w, a, b] ∧ isW w = true ∧ TxD a ∧ TxD b
  ok : ∀ (μ : Mu) (Q : D → Mu → Prop), Q (.bl true) μ → Ok (m_accepts [c, p] μ) Q
  tp : ∃ ds, p = .tup ds ∧ ds.length ≤ 15
  more : ∀ x ∈ moreL, ∀ ds, p = .tup ds → ¬ Good c (.tup (ds ++ [x]))
theorem bd_i {i : Int} (h : i.natAbs ≤ 10 ^ 29) (j : Nat) : Bd j (.int i) := by
  have : lfB (.int i) = true := decide_eq_true h
  cases j with
  | zero => exact this
  | succ j => exact .inl this
theorem bd_s {z : Str} (j : Nat) : Bd j (.str z) := by
  cases j with
  | zero => exact rfl
  | succ j => exact .inl rfl
theorem bd_t {j : Nat} {ds : List D} (hl : ds.length ≤ 20) (h : ∀ e ∈ ds, Bd j e) : Bd (j + 1) (.tup ds) := .inr ⟨ds, rfl, hl, h⟩
theorem bd_m {m : FM.Mv} (h : Mz m) (j : Nat) : Bd (j + 1) (mw m) := bd_t (show 3 ≤ 20 by decide) fun e he => by
  simp only [List.mem_cons, List.not_mem_nil, or_false] at he
  rcases he with rfl | rfl | rfl
  · exact bd_i h.1 j
  · exact bd_i h.2.1 j
  · exact bd_i h.2.2 j
theorem bd_2 {j : Nat} {a b : D} (ha : Bd j a) (hb : Bd j b) : Bd (j + 1) (.tup [a, b]) := bd_t (show 2 ≤ 20 by decide) fun e he => by
  simp only [List.mem_cons, List.not_mem_nil, or_false] at he
  rcases he with rfl | rfl <;> assumption
theorem bd_1 {j : Nat} {a : D} (ha : Bd j a) : Bd (j + 1) (.tup [a]) := bd_t (show 1 ≤ 20 by decide) fun e he => by
  rw [List.mem_singleton.mp he]; exact ha
theorem bd_3 {j : Nat} {a b c : D} (ha : Bd j a) (hb : Bd j b) (hc : Bd j c) : Bd (j + 1) (.tup [a, b, c]) := bd_t (show 3 ≤ 20 by decide) fun e he => by
  simp only [List.mem_cons, List.not_mem_nil, or_false] at he
  rcases he with rfl | rfl | rfl <;> assumption
theorem tx_lot {ms : List FM.Mv} (hb : Btn ms) : TxD (.str (lotT ms)) := fun z h => by
  cases h; exact .inr ⟨ms, hb, rfl⟩
theorem tx_mw {m : FM.Mv} : TxD (mw m) := fun z h => by cases h
theorem tx_int {i : Int} : TxD (.int i) := fun z h => by cases h
theorem bd_pr (a b : Int) (ha : a.natAbs ≤ 10 ^ 29) (hb : b.natAbs ≤ 10 ^ 29) (j : Nat) : Bd (j + 1) (pr a b) := bd_2 (bd_i ha j) (bd_i hb j)
/-- which words a claim's form tells apart -/
theorem good_at {w : Str} {a b p : D} (h : Good (.tup [.str w, a, b]) p) :
   (w = "makes" ∧ TxG a ∧ (mvO b).isSome = true ∧ ∃ ms m, planV ms 5 p = some m) ∨
   (w = "misses" ∧ TxG a ∧ (mvO b).isSome = true ∧ ∃ e n g, p = triD e n g) ∨
   (w = "same" ∧ TxG a ∧ TxG b ∧ ∃ ms ks, sameV ms ks p = true) ∨
   (w = "moved" ∧ TxG a ∧ TxG b ∧ ∃ ms ks, movedV ms ks p = true) ∨
   (w = "alike" ∧ (mvO a).isSome = true ∧ (mvO b).isSome = true ∧ (mvO p).isSome = true) ∨
   (w = "root" ∧ (mvO a).isSome = true ∧ (∃ i : Int, b = .int i ∧ 0 < i) ∧ (mvO p).isSome = true) := by
  obtain ⟨w', a', b', e, h⟩ := h
  cases e
  exact h
theorem len_good {w : Str} {a b : D} {ds : List D} (h : Good (.tup [.str w, a, b]) (.tup ds)) : w = "makes" ∨ (w = "same" ∧ ds.length = 2) ∨ (w ≠ "makes" ∧ w ≠ "same" ∧ ds.length = 3) := by
  rcases good_at h with ⟨rfl, _⟩ | ⟨rfl, _, _, e, n, g, hp⟩ | ⟨rfl, _, _, ms, ks, hp⟩ | ⟨rfl, _, _, ms, ks, hp⟩ | ⟨rfl, _, _, hp⟩ | ⟨rfl, _, _, hp⟩
  · exact .inl rfl
  · cases hp
    exact .inr (.inr ⟨by decide +kernel, by decide +kernel, rfl⟩)
  · obtain ⟨x, y, e, _⟩ := same_shape hp
    cases e
    exact .inr (.inl ⟨rfl, rfl⟩)
  · obtain ⟨x, y, z, e, _⟩ := moved_shape hp
    cases e
    exact .inr (.inr ⟨by decide +kernel, by decide +kernel, rfl⟩)
  · obtain ⟨m, hm⟩ := isSome_ex hp
    have := mvO_some hm
    cases this
    exact .inr (.inr ⟨by decide +kernel, by decide +kernel, rfl⟩)
  · obtain ⟨m, hm⟩ := isSome_ex hp
    have := mvO_some hm
    cases this
    exact .inr (.inr ⟨by decide +kernel, by decide +kernel, rfl⟩)
theorem more_makes {a b : D} {ds : List D} {x : D} (hx : x ∈ moreL) : ¬ Good (.tup [.str "makes", a, b]) (.tup (ds ++ [x])) := fun h => by
  rcases good_at h with ⟨_, _, _, ms, m, hp⟩ | ⟨hw, _⟩ | ⟨hw, _⟩ | ⟨hw, _⟩ | ⟨hw, _⟩ | ⟨hw, _⟩
  · obtain ⟨es, e, hall⟩ := plan_pairs hp
    cases e
    obtain ⟨p, n, m', e, _⟩ := hall x (by simp)
    subst e
    simp only [moreL, List.mem_cons, List.not_mem_nil, or_false] at hx
    rcases hx with h | h | h | h | h | h
    all_goals first | cases h | (injection h with h; cases h)
  all_goals exact absurd hw (by decide +kernel)
theorem more_3 {w : Str} {a b x y z m : D} (h1 : w ≠ "makes") : ¬ Good (.tup [.str w, a, b]) (.tup ([x, y, z] ++ [m])) := fun h => by
  rcases len_good h with e | ⟨_, e⟩ | ⟨_, _, e⟩
  · exact h1 e
  · cases e
  · cases e
theorem more_2 {w : Str} {a b x y m : D} (h1 : w = "same") : ¬ Good (.tup [.str w, a, b]) (.tup ([x, y] ++ [m])) := fun h => by
  subst h1
  rcases len_good h with e | ⟨_, e⟩ | ⟨_, e, _⟩
  · exact absurd e (by decide +kernel)
  · cases e
  · exact e rfl
section
variable {far t : Int} (f2 : 2 ≤ far) (f1 : far ≤ 10 ^ 28) (t0 : 0 ≤ t) (t1 : t ≤ 100)
theorem sm {i : Int} (h : i.natAbs ≤ 100) : i.natAbs ≤ 10 ^ 29 := Nat.le_trans h (by decide)
theorem z0 : (0 : Int).natAbs ≤ 10 ^ 29 := by decide
theorem z1 : (1 : Int).natAbs ≤ 10 ^ 29 := by decide
theorem z2_ : (2 : Int).natAbs ≤ 10 ^ 29 := by decide
theorem z3_ : (3 : Int).natAbs ≤ 10 ^ 29 := by decide
theorem z4 : (4 : Int).natAbs ≤ 10 ^ 29 := by decide
theorem zm : (-1 : Int).natAbs ≤ 10 ^ 29 := by decide
include t0 t1 in
theorem two_btn : Btn (two t) := btn_mz (by simp [two]) (by simp [two]) fun m hm => by
  simp only [two, List.mem_cons, List.not_mem_nil, or_false] at hm
  rcases hm with rfl | rfl
  · exact ⟨z2_, z0, z0⟩
  · exact ⟨z0, z3_, sm (show t.natAbs ≤ 100 by omega)⟩
include f2 f1 t0 t1 in
theorem gp1 : GP (C1 far t) (P1 far) := by
  have hb := two_btn t0 t1
  have hm : Mz (⟨0, 0, 6 * far⟩ : FM.Mv) := ⟨z0, z0, show (6 * far).natAbs ≤ 10 ^ 29 by omega⟩
  have bp : Bd 8 (P1 far) := bd_1 (bd_2 (bd_t (show 4 ≤ 20 by decide) fun e he => by
    simp only [List.mem_cons, List.not_mem_nil, or_false] at he
    rcases he with rfl | rfl | rfl | rfl <;> exact bd_pr _ _ (sm (by decide)) (sm (by decide)) 4) (bd_i (show far.natAbs ≤ 10 ^ 29 by omega) 6))
  have bm := bd_m hm 4
  refine ⟨bd_3 (bd_s 5) (bd_s 5) bm, bp, ⟨_, _, _, rfl, by decide +kernel, tx_lot hb, tx_mw⟩, fun μ Q q => ?_, ⟨_, rfl, show 1 ≤ 15 by decide⟩, fun x hx ds e => ?_⟩
  · refine acc_makes hb bm bp ?_
    have e : madeV (two t) (mw ⟨0, 0, 6 * far⟩) (P1 far) = true := by
      show decide (planV (two t) 5 (P1 far) = some ⟨0, 0, 6 * far⟩) = true
      exact decide_eq_true (plan_pure (by omega))
    rw [e]; exact q
  · exact more_makes hx
include f2 f1 t0 t1 in
theorem gp2 (t6 : (6 : Int) ∣ t) : GP (C2 far t) P2 := by
  have hb := two_btn t0 t1
  have hm : Mz (⟨1, 0, far⟩ : FM.Mv) := ⟨z1, z0, show far.natAbs ≤ 10 ^ 29 by omega⟩
  have bm := bd_m hm 4
  have z2 : Mz (⟨2, 0, 0⟩ : FM.Mv) := ⟨z2_, z0, z0⟩
  have z3 : Mz (⟨0, 3, 0⟩ : FM.Mv) := ⟨z0, z3_, z0⟩
  refine ⟨bd_3 (bd_s 5) (bd_s 5) bm, bd_3 (bd_m z2 6) (bd_m z3 6) (bd_i (sm (by decide)) 7), ⟨_, _, _, rfl, by decide +kernel, tx_lot hb, tx_mw⟩, fun μ Q q => ?_, ⟨_, rfl, show 3 ≤ 15 by decide⟩, fun x hx ds e => ?_⟩
  · refine acc_misses hb ?_
    have t1 : TriOk (16 ^ 25) 104 (some ⟨2, 0, 0⟩) (some ⟨0, 3, 0⟩) 6 := ⟨fun m hm => by
      cases hm
      exact ⟨Nat.le_trans z2.1 (by decide), z2.dm.x.mono (by decide), z2.dm.y.mono (by decide), z2.dm.s.mono (by decide)⟩, fun m hm => by
      cases hm
      exact ⟨z3.dm.x.mono (by decide), z3.dm.y.mono (by decide), z3.dm.s.mono (by decide)⟩, (dg29 (n := 6) (by decide)).mono (by decide)⟩
    have isf : IsF (some ⟨2, 0, 0⟩) (some ⟨0, 3, 0⟩) 6 := by
      refine ⟨by decide, fun k hk => ?_, fun m hm => ?_⟩
      · cases hk
        exact ⟨rfl, by decide, .inr ⟨by decide, by decide⟩⟩
      · cases hm
        refine ⟨by decide, .inr ⟨by decide, by decide⟩, fun k hk => ?_⟩
        cases hk
        exact ⟨by decide, by decide, by decide, by decide⟩
    have lx : ∀ a b : Int, (FM.led (some ⟨2, 0, 0⟩) (some ⟨0, 3, 0⟩) a b).x = 2 * a := fun a b => by
      simp only [FM.led, FM.mul, FM.pow, Option.getD_some]; omega
    have sh : Shows (two t) ⟨1, 0, far⟩ (some ⟨2, 0, 0⟩) (some ⟨0, 3, 0⟩) 6 := by
      refine ⟨isf, fun b hb' => ?_, fun ⟨a, b, hx, _⟩ => ?_⟩
      · simp only [two, List.mem_cons, List.not_mem_nil, or_false] at hb'
        rcases hb' with rfl | rfl
        · exact ⟨1, 0, by decide, by decide, by decide⟩
        · refine ⟨0, 1, (show (0 : Int) = (FM.led (some ⟨2, 0, 0⟩) (some ⟨0, 3, 0⟩) 0 1).x by decide), (show (3 : Int) = (FM.led (some ⟨2, 0, 0⟩) (some ⟨0, 3, 0⟩) 0 1).y by decide), ?_⟩
          have e : (FM.led (some ⟨2, 0, 0⟩) (some ⟨0, 3, 0⟩) 0 1).s = 0 := by decide
          rw [e]
          show (6 : Int) ∣ t - 0
          rw [Int.sub_zero]; exact t6
      · rw [lx] at hx
        have hx : (1 : Int) = 2 * a := hx
        omega
    have mz := hm.dm
    exact showst_spec hb t1 (by decide) (mz.x.mono (by decide)) (mz.y.mono (by decide)) fun b hb' => by
      rw [hb'.mpr sh]; exact q
  · cases e
    exact more_3 (by decide +kernel)
include f2 f1 in
theorem gp3 : GP (C3 far) (P3 far) := by
  have h1 : Mz (⟨2, 4, far⟩ : FM.Mv) := ⟨z2_, z4, show far.natAbs ≤ 10 ^ 29 by omega⟩
  have h2 : Mz (⟨2, 4, far + 2⟩ : FM.Mv) := ⟨z2_, z4, show (far + 2).natAbs ≤ 10 ^ 29 by omega⟩
  have h3 : Mz (⟨1, 1, far⟩ : FM.Mv) := ⟨z1, z1, show far.natAbs ≤ 10 ^ 29 by omega⟩
  refine ⟨bd_3 (bd_s 5) (bd_m h1 4) (bd_m h2 4), bd_m h3 7, ⟨_, _, _, rfl, by decide +kernel, tx_mw, tx_mw⟩, fun μ Q q => ?_, ⟨_, rfl, show 3 ≤ 15 by decide⟩, fun x hx ds e => ?_⟩
  · refine acc_alike h1 h3 ?_
    have e : decide (arnd ⟨1, 1, far⟩ ⟨2, 4, far⟩ = ⟨2, 4, far + 2⟩) = true := decide_eq_true (FM.Mv.ext' rfl rfl (by simp only [arnd]; omega))
    rw [e]; exact q
  · cases e
    exact more_3 (by decide +kernel)
include f2 f1 in
theorem gp4 : GP (C4 far) (P4 far) := by
  have h1 : Mz (⟨2 * far, 0, 2 * far⟩ : FM.Mv) := ⟨show (2 * far).natAbs ≤ 10 ^ 29 by omega, z0, show (2 * far).natAbs ≤ 10 ^ 29 by omega⟩
  have h3 : Mz (⟨far, 0, far⟩ : FM.Mv) := ⟨show far.natAbs ≤ 10 ^ 29 by omega, z0, show far.natAbs ≤ 10 ^ 29 by omega⟩
  refine ⟨bd_3 (bd_s 5) (bd_m h1 4) (bd_i (sm (by decide)) 5), bd_m h3 7, ⟨_, _, _, rfl, by decide +kernel, tx_mw, tx_int⟩, fun μ Q q => ?_, ⟨_, rfl, show 3 ≤ 15 by decide⟩, fun x hx ds e => ?_⟩
  · refine acc_root h3 (by decide) (by decide) ?_
    have e : decide (FM.pow ⟨far, 0, far⟩ 2 = ⟨2 * far, 0, 2 * far⟩) = true := decide_eq_true (by
      refine FM.Mv.ext' ?_ ?_ ?_ <;> simp only [FM.pow] <;> grind)
    rw [e]; exact q
  · cases e
    exact more_3 (by decide +kernel)
include f2 f1 in
theorem one_mz {a : Int} (ha : a = far ∨ a = 0 - far) {s : Int} (hs : s = 0 ∨ s = far) : Btn [(⟨a, 0, s⟩ : FM.Mv)] := btn_mz (by simp) (by simp) fun m hm => by
  rw [List.mem_singleton.mp hm]
  exact ⟨show a.natAbs ≤ 10 ^ 29 by omega, z0, show s.natAbs ≤ 10 ^ 29 by omega⟩
theorem bd_line (n : Int) (hn : n.natAbs ≤ 100) (j : Nat) : Bd (j + 3) (.tup [.tup [pr 0 n]]) := bd_1 (bd_1 (bd_pr 0 n (sm (by decide)) (sm hn) j))
include f2 f1 in
theorem gp5 : GP (C5 far) P5 := by
  have hb := one_mz f2 f1 (.inl rfl) (.inl rfl)
  have hk := one_mz f2 f1 (.inr rfl) (.inl rfl)
  have bp : Bd 8 P5 := bd_2 (bd_line (-1) (by decide) 4) (bd_line (-1) (by decide) 4)
  refine ⟨bd_3 (bd_s 5) (bd_s 5) (bd_s 5), bp, ⟨_, _, _, rfl, by decide +kernel, tx_lot hb, tx_lot hk⟩, fun μ Q q => ?_, ⟨_, rfl, show 2 ≤ 15 by decide⟩, fun x hx ds e => ?_⟩
  · refine acc_same hb hk bp ?_
    have e1 : planV [(⟨far, 0, 0⟩ : FM.Mv)] 5 (.tup [pr 0 (-1)]) = some ⟨0 - far, 0, 0⟩ := by
      rw [plan_one (k := 4) (by decide), inv1 rfl]
      congr 1
      exact FM.Mv.ext' (by simp only; omega) rfl (by simp)
    have e2 : planV [(⟨0 - far, 0, 0⟩ : FM.Mv)] 5 (.tup [pr 0 (-1)]) = some ⟨far, 0, 0⟩ := by
      rw [plan_one (k := 4) (by decide), inv1 rfl]
      congr 1
      exact FM.Mv.ext' (by simp only; omega) rfl (by simp)
    have e : sameV [(⟨far, 0, 0⟩ : FM.Mv)] [⟨0 - far, 0, 0⟩] P5 = true := by
      have a1 : allV [(⟨far, 0, 0⟩ : FM.Mv)] [⟨0 - far, 0, 0⟩] (.tup [.tup [pr 0 (-1)]]) = true := by
        show (decide ([D.tup [pr 0 (-1)]].length = [(⟨0 - far, 0, 0⟩ : FM.Mv)].length) && [decide (planV [(⟨far, 0, 0⟩ : FM.Mv)] 5 (.tup [pr 0 (-1)]) = some ⟨0 - far, 0, 0⟩)].all id) = true
        rw [e1]; simp
      have a2 : allV [(⟨0 - far, 0, 0⟩ : FM.Mv)] [⟨far, 0, 0⟩] (.tup [.tup [pr 0 (-1)]]) = true := by
        show (decide ([D.tup [pr 0 (-1)]].length = [(⟨far, 0, 0⟩ : FM.Mv)].length) && [decide (planV [(⟨0 - far, 0, 0⟩ : FM.Mv)] 5 (.tup [pr 0 (-1)]) = some ⟨far, 0, 0⟩)].all id) = true
        rw [e2]; simp
      show (allV _ _ _ && allV _ _ _) = true
      rw [a1, a2]; rfl
    rw [e]; exact q
  · cases e
    exact more_2 rfl
include f2 f1 in
theorem gp6 : GP (C6 far) (P6 far) := by
  have hb := one_mz f2 f1 (.inl rfl) (.inl rfl)
  have hk := one_mz f2 f1 (.inl rfl) (.inr rfl)
  have hm : Mz (⟨0, -1, far⟩ : FM.Mv) := ⟨z0, zm, show far.natAbs ≤ 10 ^ 29 by omega⟩
  have bp : Bd 8 (P6 far) := bd_3 (bd_m hm 6) (bd_line 1 (by decide) 4) (bd_line 1 (by decide) 4)
  refine ⟨bd_3 (bd_s 5) (bd_s 5) (bd_s 5), bp, ⟨_, _, _, rfl, by decide +kernel, tx_lot hb, tx_lot hk⟩, fun μ Q q => ?_, ⟨_, rfl, show 3 ≤ 15 by decide⟩, fun x hx ds e => ?_⟩
  · refine acc_moved hb hk bp ?_
    have e1 : planV [(⟨far, 0, 0⟩ : FM.Mv)] 5 (.tup [pr 0 1]) = some (arnd (FM.inv ⟨0, -1, far⟩) ⟨far, 0, far⟩) := by
      rw [plan_one (k := 4) (by decide), inv1 rfl]
      congr 1
      exact FM.Mv.ext' (by simp only [arnd]; omega) rfl (by simp only [arnd, FM.inv]; omega)
    have e2 : planV [(⟨far, 0, far⟩ : FM.Mv)] 5 (.tup [pr 0 1]) = some (arnd ⟨0, -1, far⟩ ⟨far, 0, 0⟩) := by
      rw [plan_one (k := 4) (by decide), inv1 rfl]
      congr 1
      exact FM.Mv.ext' (by simp only [arnd]; omega) rfl (by simp only [arnd]; omega)
    have e : movedV [(⟨far, 0, 0⟩ : FM.Mv)] [⟨far, 0, far⟩] (P6 far) = true := by
      have a1 : allV [(⟨far, 0, 0⟩ : FM.Mv)] [arnd (FM.inv ⟨0, -1, far⟩) ⟨far, 0, far⟩] (.tup [.tup [pr 0 1]]) = true := by
        show (decide ([D.tup [pr 0 1]].length = [arnd (FM.inv ⟨0, -1, far⟩) ⟨far, 0, far⟩].length) && [decide (planV [(⟨far, 0, 0⟩ : FM.Mv)] 5 (.tup [pr 0 1]) = some (arnd (FM.inv ⟨0, -1, far⟩) ⟨far, 0, far⟩))].all id) = true
        rw [e1]; simp
      have a2 : allV [(⟨far, 0, far⟩ : FM.Mv)] [arnd ⟨0, -1, far⟩ ⟨far, 0, 0⟩] (.tup [.tup [pr 0 1]]) = true := by
        show (decide ([D.tup [pr 0 1]].length = [arnd ⟨0, -1, far⟩ ⟨far, 0, 0⟩].length) && [decide (planV [(⟨far, 0, far⟩ : FM.Mv)] 5 (.tup [pr 0 1]) = some (arnd ⟨0, -1, far⟩ ⟨far, 0, 0⟩))].all id) = true
        rw [e2]; simp
      show (allV _ _ _ && allV _ _ _) = true
      exact (congrArg (· && _) a1).trans a2
    rw [e]; exact q
  · cases e
    exact more_3 (by decide +kernel)
end
end A46

set_option Elab.async false
set_option linter.all false
set_option maxRecDepth 100000
set_option maxHeartbeats 1000000
set_option exponentiation.threshold 10000
namespace A46
open PySem PySem.Spec PyProof.Rows L2 Ar TL
local macro_rules | `(tactic| simp_arith) => `(tactic| simp -implicitDefEqProofs only [↓ok_ok, ↓ok_stk, ↓ok_exc, ↓ok_bind, ↓ok_nox, ↓ok_of, ↓ok_lenO, ↓ok_propO, ↓ok_txtO, ↓ok_clsM, ↓ok_tupRg, ↓ok_lstRg, ↓oko_some, ↓oko_none, ↓oko_ite, ↓oko_map, ↓ok_ite, ↓oks_nx, ↓oks_stk, ↓oks_exc, ↓oks_bk, ↓oks_ct, ↓oks_rt, ↓oks_then, ↓oks_thenN, ↓ok_var0, ↓ok_varS, ↓ok_c, ↓ok_bin, ↓ok_un, ↓okb, ↓ok_test, ↓ok_tru, ↓ok_and, ↓ok_or, ↓ok_not, ↓ok_andV, ↓ok_orV, ↓ok_notV, ↓ok_if, ↓ok_ifT, ↓ok_fld, ↓ok_slt, ↓o_slt0, ↓ok_make, ↓ok_makeS, ↓o_isaC, ↓o_isn_ins, ↓o_is_ins, ↓ok_izip, ↓zipR_ll, ↓zipR_tl, ↓zipR_tt, ↓o_parts, ↓o_shares, ↓o_east, ↓o_north, ↓o_rests, zip2, zip3, ↓ok_nil, ↓ok_cons, ↓ok_star, ↓seqA_tup, ↓seqA_lst, ↓ok_revL, ↓ok_revLM, ↓ok_cmp2, ↓ok_tup, ↓ok_lst, ↓ok_lstM, ↓ok_fn, ↓ok_call, ↓ok_callK, ↓ok_noPart, ↓oki, ↓ok_part, ↓ok_sl, ↓oks_next, ↓oks_seq, ↓oks_drop, ↓oks_ret, ↓oks_retN, ↓oks_break, ↓oks_cont, ↓oks_never, ↓oks_if, ↓oks_try, ↓oks_asg, ↓oks_set, ↓ok_gName, ↓ok_gNil, ↓ok_gCons, ↓ok_gTup, ↓ok_gUnl, ↓ok_gSub, ↓okl2, ↓okl3, ↓oks_par, ↓oks_par3, ↓okv0, ↓okvS, ↓oks_aug, ↓ok_append, ↓ok_extend, ↓seqL_lst, ↓ok_strM, ↓ok_def, ↓ok_iSeq, ↓oki1, ↓oki2, ↓ok_range1, ↓ok_range2, ↓oks_for, ↓ok_lc, ↓ok_finL, ↓ok_finM, ↓ok_yes, ↓setg0, ↓setgS, ↓unsetg0, ↓unsetgS, ↓wipeg0, ↓wipegS, ↓initg0, ↓initgN, ↓initgS, ↓lenis0, ↓lenisS, ↓lenle0, ↓lenleS, ↓seqI_lst, ↓seqIE_lst, ↓seqIE_tup, ↓seqIE_scr, ↓seqI_str, ↓okt, ↓ok_kIx, ↓ok_kGet, ↓ok_revS, ↓okd, ↓ok_dGet, ↓o_mulS, ↓seqI_tup, ↓seqI_scr, ↓o_ne_mv, ↓o_eq_mv, ↓ok_enum, ↓okl1, ↓o_mul_rep, ↓o_mul_iiF, cut_2of3, ↓o_ne_2, ↓o_eq_2, ↓o_ne_bb, ↓o_eq_bb, ↓o_tru_b, ↓o_tru_i, ↓o_tru_t, ↓o_tru_l, ↓o_tru_n, ↓o_isn_non, ↓o_isn_int, ↓o_isn_tup, ↓o_isn_lst, ↓o_isn_str, ↓o_is_non, ↓o_is_int, ↓o_is_tup, ↓o_is_lst, ↓o_is_str, ↓o_eq_ii, ↓o_ne_ii, ↓o_add_ii, ↓o_sub_ii, ↓o_mul_ii, ↓o_div_ii, ↓o_mod_ii, ↓o_lt_ii, ↓o_le_ii, ↓o_gt_ii, ↓o_ge_ii, ↓o_add_tt, ↓o_add_ll, ↓o_add_ss, ↓o_divmod_ii, ↓o_neg_i, ↓o_int_i, ↓o_abs_i, ↓o_max_ii, ↓o_max1_3, ↓o_min1_3, ↓o_min_ii, ↓o_len_tup, ↓o_len_lst, ↓o_len_scr, ↓o_slc_lst, ↓o_slc_scr, ↓o_slc_tup, ↓o_tuple_lst, ↓o_tuple_tup, ↓o_tuple_scr, ↓o_list_tup, ↓o_list_lst, ↓o_bool_b, ↓o_isa_int_int, ↓o_isa_int_bool, ↓o_isa_int_tup, ↓o_isa_int_str, ↓o_isa_int_lst, ↓o_isa_bl_int, ↓o_isa_bl_bool, ↓o_isa_tup_tup, ↓o_isa_tup_int, ↓o_isa_tup_lst, ↓o_isa_tup_str, ↓o_isa_str_str, ↓o_isa_str_int, ↓o_isa_str_tup, ↓o_isa_lst_lst, ↓o_isa_lst_tup, ↓o_isa_lst_int, ↓o_isa_non_int, ↓o_isa_non_tup, ↓o_sum_3, ↓o_all_3, ↓o_atI_0, ↓o_atI_1, ↓o_atI_2, ↓o_atI_3, ↓o_atI_4, ↓o_atI_5, ↓o_ixN_30, ↓o_ixN_31, ↓o_ixN_32, ↓o_fix_tup, ↓o_fix_lst, ↓o_fix_scr, ↓o_pow_6, ↓o_pow_18, pick_0, pick_01, pick_10, pick_012, pick_021, pick_102, pick_120, pick_201, pick_210, eq_self, List.cons_append, List.nil_append, List.append_nil, List.set_set, List.set_cons_zero, List.set_cons_succ, List.length_cons, List.length_nil, Nat.zero_add, Nat.reduceAdd, Nat.reduceLeDiff, castN, natabsN, mulOkL, mulOkR, Bool.true_or, Nat.reducePow, Nat.reduceLT, ne_eq, not_true_eq_false, not_false_eq_true, rng_3, rng_2, Int.reduceEq, Int.reduceLT, Int.reduceLE, Int.reduceAdd, Int.reduceSub, Int.reduceMul, Int.reduceNeg, true_and, and_true, if_true, if_false, Bool.false_eq_true, Bool.true_eq_false, decide_true, decide_false, Bool.not_true, Bool.not_false, Bool.and_true, Bool.true_and, Bool.and_false, Bool.false_and])
local macro_rules | `(tactic| simp_arith [$ts,*]) => `(tactic| simp -implicitDefEqProofs only [↓ok_ok, ↓ok_stk, ↓ok_exc, ↓ok_bind, ↓ok_nox, ↓ok_of, ↓ok_lenO, ↓ok_propO, ↓ok_txtO, ↓ok_clsM, ↓ok_tupRg, ↓ok_lstRg, ↓oko_some, ↓oko_none, ↓oko_ite, ↓oko_map, ↓ok_ite, ↓oks_nx, ↓oks_stk, ↓oks_exc, ↓oks_bk, ↓oks_ct, ↓oks_rt, ↓oks_then, ↓oks_thenN, ↓ok_var0, ↓ok_varS, ↓ok_c, ↓ok_bin, ↓ok_un, ↓okb, ↓ok_test, ↓ok_tru, ↓ok_and, ↓ok_or, ↓ok_not, ↓ok_andV, ↓ok_orV, ↓ok_notV, ↓ok_if, ↓ok_ifT, ↓ok_fld, ↓ok_slt, ↓o_slt0, ↓ok_make, ↓ok_makeS, ↓o_isaC, ↓o_isn_ins, ↓o_is_ins, ↓ok_izip, ↓zipR_ll, ↓zipR_tl, ↓zipR_tt, ↓o_parts, ↓o_shares, ↓o_east, ↓o_north, ↓o_rests, zip2, zip3, ↓ok_nil, ↓ok_cons, ↓ok_star, ↓seqA_tup, ↓seqA_lst, ↓ok_revL, ↓ok_revLM, ↓ok_cmp2, ↓ok_tup, ↓ok_lst, ↓ok_lstM, ↓ok_fn, ↓ok_call, ↓ok_callK, ↓ok_noPart, ↓oki, ↓ok_part, ↓ok_sl, ↓oks_next, ↓oks_seq, ↓oks_drop, ↓oks_ret, ↓oks_retN, ↓oks_break, ↓oks_cont, ↓oks_never, ↓oks_if, ↓oks_try, ↓oks_asg, ↓oks_set, ↓ok_gName, ↓ok_gNil, ↓ok_gCons, ↓ok_gTup, ↓ok_gUnl, ↓ok_gSub, ↓okl2, ↓okl3, ↓oks_par, ↓oks_par3, ↓okv0, ↓okvS, ↓oks_aug, ↓ok_append, ↓ok_extend, ↓seqL_lst, ↓ok_strM, ↓ok_def, ↓ok_iSeq, ↓oki1, ↓oki2, ↓ok_range1, ↓ok_range2, ↓oks_for, ↓ok_lc, ↓ok_finL, ↓ok_finM, ↓ok_yes, ↓setg0, ↓setgS, ↓unsetg0, ↓unsetgS, ↓wipeg0, ↓wipegS, ↓initg0, ↓initgN, ↓initgS, ↓lenis0, ↓lenisS, ↓lenle0, ↓lenleS, ↓seqI_lst, ↓seqIE_lst, ↓seqIE_tup, ↓seqIE_scr, ↓seqI_str, ↓okt, ↓ok_kIx, ↓ok_kGet, ↓ok_revS, ↓okd, ↓ok_dGet, ↓o_mulS, ↓seqI_tup, ↓seqI_scr, ↓o_ne_mv, ↓o_eq_mv, ↓ok_enum, ↓okl1, ↓o_mul_rep, ↓o_mul_iiF, cut_2of3, ↓o_ne_2, ↓o_eq_2, ↓o_ne_bb, ↓o_eq_bb, ↓o_tru_b, ↓o_tru_i, ↓o_tru_t, ↓o_tru_l, ↓o_tru_n, ↓o_isn_non, ↓o_isn_int, ↓o_isn_tup, ↓o_isn_lst, ↓o_isn_str, ↓o_is_non, ↓o_is_int, ↓o_is_tup, ↓o_is_lst, ↓o_is_str, ↓o_eq_ii, ↓o_ne_ii, ↓o_add_ii, ↓o_sub_ii, ↓o_mul_ii, ↓o_div_ii, ↓o_mod_ii, ↓o_lt_ii, ↓o_le_ii, ↓o_gt_ii, ↓o_ge_ii, ↓o_add_tt, ↓o_add_ll, ↓o_add_ss, ↓o_divmod_ii, ↓o_neg_i, ↓o_int_i, ↓o_abs_i, ↓o_max_ii, ↓o_max1_3, ↓o_min1_3, ↓o_min_ii, ↓o_len_tup, ↓o_len_lst, ↓o_len_scr, ↓o_slc_lst, ↓o_slc_scr, ↓o_slc_tup, ↓o_tuple_lst, ↓o_tuple_tup, ↓o_tuple_scr, ↓o_list_tup, ↓o_list_lst, ↓o_bool_b, ↓o_isa_int_int, ↓o_isa_int_bool, ↓o_isa_int_tup, ↓o_isa_int_str, ↓o_isa_int_lst, ↓o_isa_bl_int, ↓o_isa_bl_bool, ↓o_isa_tup_tup, ↓o_isa_tup_int, ↓o_isa_tup_lst, ↓o_isa_tup_str, ↓o_isa_str_str, ↓o_isa_str_int, ↓o_isa_str_tup, ↓o_isa_lst_lst, ↓o_isa_lst_tup, ↓o_isa_lst_int, ↓o_isa_non_int, ↓o_isa_non_tup, ↓o_sum_3, ↓o_all_3, ↓o_atI_0, ↓o_atI_1, ↓o_atI_2, ↓o_atI_3, ↓o_atI_4, ↓o_atI_5, ↓o_ixN_30, ↓o_ixN_31, ↓o_ixN_32, ↓o_fix_tup, ↓o_fix_lst, ↓o_fix_scr, ↓o_pow_6, ↓o_pow_18, pick_0, pick_01, pick_10, pick_012, pick_021, pick_102, pick_120, pick_201, pick_210, eq_self, List.cons_append, List.nil_append, List.append_nil, List.set_set, List.set_cons_zero, List.set_cons_succ, List.length_cons, List.length_nil, Nat.zero_add, Nat.reduceAdd, Nat.reduceLeDiff, castN, natabsN, mulOkL, mulOkR, Bool.true_or, Nat.reducePow, Nat.reduceLT, ne_eq, not_true_eq_false, not_false_eq_true, rng_3, rng_2, Int.reduceEq, Int.reduceLT, Int.reduceLE, Int.reduceAdd, Int.reduceSub, Int.reduceMul, Int.reduceNeg, true_and, and_true, if_true, if_false, Bool.false_eq_true, Bool.true_eq_false, decide_true, decide_false, Bool.not_true, Bool.not_false, Bool.and_true, Bool.true_and, Bool.and_false, Bool.false_and, $ts,*])
theorem o_len_loc {μ : Mu} {n : Nat} {ds : List D} (h : μ[n]? = some (.lst ds)) {P : D → Prop} : OkO (fLen μ [.loc n]) P = P (.int (ds.length : Nat)) := by
  have : seqA μ (.loc n) = some ds := by simp [seqA, seqL, seqT, h]
  simp [fLen, this, OkO]
theorem pickl_spec {n j : Nat} {μ : Mu} {xs : List D} {Q : D → Mu → Prop} (h : Wm n μ) (hj : μ[j]? = some (.lst xs)) (hn : j ≠ n) (h0 : xs ≠ []) (h1 : xs.length ≤ 1000000) (q : ∀ x ∈ xs, ∀ μ', Wm n μ' → Gr n μ μ' → Q x μ') : Ok (m__law_pick [.loc n, .loc j] μ) Q := by
  have hl : 0 < xs.length := List.length_pos_iff.mpr h0
  unfold m__law_pick
  simp_arith [↓o_len_loc hj]
  refine draw_spec h (by omega) (fdOk_small (by omega) (by omega)) fun d μ' w1 g1 d0 d1 => ?_
  obtain ⟨x, e, m⟩ := atI_map (xs := xs) d0 d1
  simp_arith [↓o_fix_loc (g1.at_ j _ hn hj), e]
  exact q x m μ' w1 g1
/-! ### what is not accepted -/
theorem acc_no {i j : Nat} {c p : D} (hc : Bd j c) (hp : Bd i p) (tx : ∀ w a b, c = .tup [w, a, b] → TxD a ∧ TxD b) (ng : ¬ Good c p) {μ : Mu} {Q : D → Mu → Prop} (q : Q (.bl false) μ) : Ok (m_accepts [c, p] μ) Q :=
  acc_v hc hp tx fun b hb => by
    cases b with
    | true => exact absurd (hb rfl) ng
    | false => exact q
theorem good_parts {w : Str} {a b p : D} (h : Good (.tup [.str w, a, b]) p) : isW w = true ∧ (TxG a ∨ (mvO a).isSome = true) ∧ (TxG b ∨ (mvO b).isSome = true ∨ ∃ i : Int, b = .int i ∧ 0 < i) := by
  rcases good_at h with ⟨rfl, h1, h2, _⟩ | ⟨rfl, h1, h2, _⟩ | ⟨rfl, h1, h2, _⟩ | ⟨rfl, h1, h2, _⟩ | ⟨rfl, h1, h2, _⟩ | ⟨rfl, h1, h2, _⟩
  · exact ⟨by decide +kernel, .inl h1, .inr (.inl h2)⟩
  · exact ⟨by decide +kernel, .inl h1, .inr (.inl h2)⟩
  · exact ⟨by decide +kernel, .inl h1, .inl h2⟩
  · exact ⟨by decide +kernel, .inl h1, .inl h2⟩
  · exact ⟨by decide +kernel, .inr h1, .inr (.inl h2)⟩
  · exact ⟨by decide +kernel, .inr h1, .inr (.inr h2)⟩
theorem good_3 {c p : D} (h : Good c p) : ∃ (w : Str) (a b : D), c = .tup [.str w, a, b] := by
  obtain ⟨w, a, b, e, _⟩ := h
  exact ⟨w, a, b, e⟩
/-- a thing that is no part of a good claim -/
structure NoP (o : D) : Prop where
  t : ¬ TxG o
  m : (mvO o).isSome = false
  i : ∀ i : Int, 0 < i → o ≠ .int i
theorem NoP.a {o : D} (h : NoP o) : ¬ (TxG o ∨ (mvO o).isSome = true) := fun z => by
  rcases z with z | z
  · exact h.t z
  · rw [h.m] at z; cases z
theorem NoP.b {o : D} (h : NoP o) : ¬ (TxG o ∨ (mvO o).isSome = true ∨ ∃ i : Int, o = .int i ∧ 0 < i) := fun z => by
  rcases z with z | z | ⟨i, e, hi⟩
  · exact h.t z
  · rw [h.m] at z; cases z
  · exact h.i i hi e
theorem nop_k {o : D} (h : isS o = false) (hm : (mvO o).isSome = false) (hi : ∀ i : Int, 0 < i → o ≠ .int i) : NoP o := ⟨fun ⟨z, e, _⟩ => (by rw [e] at h; cases h), hm, hi⟩
theorem nop_s {z : Str} (h : z ∈ badS) : NoP (.str z) := ⟨fun ⟨y, e, hy⟩ => (by cases e; exact hy h), rfl, fun i _ e => by cases e⟩
theorem odd2_no {o : D} (h : o ∈ odd2) : NoP o ∧ Bd 2 o ∧ TxD o := by
  have ts : ∀ {z : Str}, z ∈ badS → TxD (.str z) := fun h y e => by cases e; exact .inl h
  simp only [odd2, List.mem_cons, List.not_mem_nil, or_false] at h
  rcases h with rfl | rfl | rfl | rfl | rfl | rfl | rfl | rfl | rfl | rfl | rfl | rfl
  · exact ⟨nop_k rfl rfl (fun i _ e => (by cases e)), .inl rfl, fun y e => (by cases e)⟩
  · exact ⟨nop_k rfl rfl (fun i _ e => (by cases e)), .inl rfl, fun y e => (by cases e)⟩
  · exact ⟨nop_s (by decide +kernel), .inl rfl, ts (by decide +kernel)⟩
  · exact ⟨nop_k rfl rfl (fun i _ e => (by cases e)), .inl rfl, fun y e => (by cases e)⟩
  · refine ⟨nop_k rfl rfl (fun i _ e => (by cases e)), bd_t (show 4 ≤ 20 by decide) fun e he => ?_, fun y e => by cases e⟩
    simp only [List.mem_cons, List.not_mem_nil, or_false] at he
    rcases he with rfl | rfl | rfl | rfl <;> exact bd_i (by decide) 1
  · exact ⟨nop_k rfl rfl (fun i _ e => (by cases e)), .inl rfl, fun y e => (by cases e)⟩
  · exact ⟨nop_s (by decide +kernel), .inl rfl, ts (by decide +kernel)⟩
  · exact ⟨nop_k rfl rfl (fun i _ e => (by cases e)), .inl rfl, fun y e => (by cases e)⟩
  · exact ⟨nop_k rfl rfl (fun i hi e => (by cases e; omega)), bd_i (by decide) 2, fun y e => by cases e⟩
  · exact ⟨nop_k rfl rfl (fun i _ e => (by cases e)), bd_1 (.inl rfl), fun y e => by cases e⟩
  · exact ⟨nop_s (by decide +kernel), .inl rfl, ts (by decide +kernel)⟩
  · exact ⟨nop_s (by decide +kernel), .inl rfl, ts (by decide +kernel)⟩
theorem odds_no {o : D} (h : o ∈ odds) : NoP o ∧ Bd 2 o ∧ TxD o ∧ (∀ w : Str, o = .str w → isW w = false) ∧ ∀ u v y : D, o ≠ .tup [u, v, y] := by
  have ts : ∀ {z : Str}, z ∈ badS → TxD (.str z) := fun h y e => by cases e; exact .inl h
  simp only [odds, List.mem_cons, List.not_mem_nil, or_false] at h
  rcases h with rfl | rfl | rfl | rfl | rfl | rfl | rfl | rfl | rfl | rfl | rfl | rfl | rfl
  · exact ⟨nop_k rfl rfl (fun i _ e => (by cases e)), .inl rfl, fun y e => (by cases e), fun y e => (by cases e), fun u v y e => by cases e⟩
  · exact ⟨nop_k rfl rfl (fun i _ e => (by cases e)), .inl rfl, fun y e => (by cases e), fun y e => (by cases e), fun u v y e => by cases e⟩
  · exact ⟨nop_k rfl rfl (fun i _ e => (by cases e)), .inl rfl, fun y e => (by cases e), fun y e => (by cases e), fun u v y e => by cases e⟩
  · exact ⟨nop_s (by decide +kernel), .inl rfl, ts (by decide +kernel), fun y e => (by cases e; decide +kernel), fun u v y e => by cases e⟩
  · exact ⟨nop_k rfl rfl (fun i _ e => (by cases e)), bd_1 (.inl rfl), fun y e => (by cases e), fun y e => (by cases e), fun u v y e => by cases e⟩
  · exact ⟨nop_k rfl rfl (fun i _ e => (by cases e)), bd_1 (.inl rfl), fun y e => (by cases e), fun y e => (by cases e), fun u v y e => by cases e⟩
  · exact ⟨nop_k rfl rfl (fun i _ e => (by cases e)), .inl rfl, fun y e => (by cases e), fun y e => (by cases e), fun u v y e => by cases e⟩
  · exact ⟨nop_s (by decide +kernel), .inl rfl, ts (by decide +kernel), fun y e => (by cases e; decide +kernel), fun u v y e => by cases e⟩
  · exact ⟨nop_k rfl rfl (fun i _ e => (by cases e)), .inl rfl, fun y e => (by cases e), fun y e => (by cases e), fun u v y e => by cases e⟩
  · exact ⟨nop_k rfl rfl (fun i _ e => (by cases e)), .inl rfl, fun y e => (by cases e), fun y e => (by cases e), fun u v y e => by cases e⟩
  · exact ⟨nop_s (by decide +kernel), .inl rfl, ts (by decide +kernel), fun y e => (by cases e; decide +kernel), fun u v y e => by cases e⟩
  · exact ⟨nop_k rfl rfl (fun i _ e => (by cases e)), .inl rfl, fun y e => (by cases e), fun y e => (by cases e), fun u v y e => by cases e⟩
  · exact ⟨nop_k rfl rfl (fun i _ e => (by cases e)), bd_1 (.inl rfl), fun y e => (by cases e), fun y e => (by cases e), fun u v y e => by cases e⟩
theorem put_no {k : Nat} {t o x : D} (h : Put k t o x) (ho : o ∈ odds) : NoP x ∧ TxD x := by
  obtain ⟨n, _, tx, _, _⟩ := odds_no ho
  have im := put_impure h (odd_impure ho)
  cases h with
  | here => exact ⟨n, tx⟩
  | part hi p =>
    refine ⟨⟨fun ⟨z, e, _⟩ => (by cases e), ?_, fun i _ e => (by cases e)⟩, fun z e => (by cases e)⟩
    cases hm : mvO _ with
    | none => rfl
    | some m =>
      have := mvO_pure hm
      rw [im 1] at this
      cases this
theorem bent_no {w : Str} {a b o x p : D} (ho : o ∈ odds) (h : Put 2 (.tup [.str w, a, b]) o x) : ¬ Good x p := fun g => by
  obtain ⟨w', a', b', e⟩ := good_3 g
  cases h with
  | here => exact (odds_no ho).2.2.2.2 _ _ _ e
  | @part _ i _ _ y hi hp =>
    match i, hi, hp, e with
    | 0, _, hp, e =>
      have e : D.tup (y :: [a, b]) = .tup [.str w', a', b'] := e
      cases e
      have iw := (good_parts g).1
      cases hp with
      | here => rw [(odds_no ho).2.2.2.1 w' rfl] at iw; cases iw
    | 1, _, hp, e =>
      have e : D.tup [.str w, y, b] = .tup [.str w', a', b'] := e
      cases e
      exact (put_no hp ho).1.a (good_parts g).2.1
    | 2, _, hp, e =>
      have e : D.tup [.str w, a, y] = .tup [.str w', a', b'] := e
      cases e
      exact (put_no hp ho).1.b (good_parts g).2.2
theorem wr_no {w : Str} {a b x p : D} (h : Wr (.str w) a b x) : ¬ Good x p := fun g => by
  obtain ⟨w', a', b', e⟩ := good_3 g
  rcases h with h | ⟨o, ho, rfl⟩ | ⟨o, ho, rfl | rfl⟩
  · simp only [List.mem_cons, List.not_mem_nil, or_false] at h
    rcases h with rfl | rfl | rfl | rfl | rfl | rfl <;> cases e
  · cases e
    have iw := (good_parts g).1
    simp only [words, List.mem_cons, List.not_mem_nil, or_false] at ho
    rcases ho with h | h | h | h | h | h | h | h | h | h | h | h
    all_goals first
      | (cases h; done)
      | (cases h; exact absurd iw (by decide +kernel))
  · cases e
    exact (odd2_no ho).1.a (good_parts g).2.1
  · cases e
    exact (odd2_no ho).1.b (good_parts g).2.2
end A46

set_option Elab.async false
set_option linter.all false
set_option maxRecDepth 100000
set_option maxHeartbeats 1000000
set_option exponentiation.threshold 10000
namespace A46
open PySem PySem.Spec PyProof.Rows L2 Ar TL
local macro_rules | `(tactic| simp_arith) => `(tactic| simp -implicitDefEqProofs only [↓ok_ok, ↓ok_stk, ↓ok_exc, ↓ok_bind, ↓ok_nox, ↓ok_of, ↓ok_lenO, ↓ok_propO, ↓ok_txtO, ↓ok_clsM, ↓ok_tupRg, ↓ok_lstRg, ↓oko_some, ↓oko_none, ↓oko_ite, ↓oko_map, ↓ok_ite, ↓oks_nx, ↓oks_stk, ↓oks_exc, ↓oks_bk, ↓oks_ct, ↓oks_rt, ↓oks_then, ↓oks_thenN, ↓ok_var0, ↓ok_varS, ↓ok_c, ↓ok_bin, ↓ok_un, ↓okb, ↓ok_test, ↓ok_tru, ↓ok_and, ↓ok_or, ↓ok_not, ↓ok_andV, ↓ok_orV, ↓ok_notV, ↓ok_if, ↓ok_ifT, ↓ok_fld, ↓ok_slt, ↓o_slt0, ↓ok_make, ↓ok_makeS, ↓o_isaC, ↓o_isn_ins, ↓o_is_ins, ↓ok_izip, ↓zipR_ll, ↓zipR_tl, ↓zipR_tt, ↓o_parts, ↓o_shares, ↓o_east, ↓o_north, ↓o_rests, zip2, zip3, ↓ok_nil, ↓ok_cons, ↓ok_star, ↓seqA_tup, ↓seqA_lst, ↓ok_revL, ↓ok_revLM, ↓ok_cmp2, ↓ok_tup, ↓ok_lst, ↓ok_lstM, ↓ok_fn, ↓ok_call, ↓ok_callK, ↓ok_noPart, ↓oki, ↓ok_part, ↓ok_sl, ↓oks_next, ↓oks_seq, ↓oks_drop, ↓oks_ret, ↓oks_retN, ↓oks_break, ↓oks_cont, ↓oks_never, ↓oks_if, ↓oks_try, ↓oks_asg, ↓oks_set, ↓ok_gName, ↓ok_gNil, ↓ok_gCons, ↓ok_gTup, ↓ok_gUnl, ↓ok_gSub, ↓okl2, ↓okl3, ↓oks_par, ↓oks_par3, ↓okv0, ↓okvS, ↓oks_aug, ↓ok_append, ↓ok_extend, ↓seqL_lst, ↓ok_strM, ↓ok_def, ↓ok_iSeq, ↓oki1, ↓oki2, ↓ok_range1, ↓ok_range2, ↓oks_for, ↓ok_lc, ↓ok_finL, ↓ok_finM, ↓ok_yes, ↓setg0, ↓setgS, ↓unsetg0, ↓unsetgS, ↓wipeg0, ↓wipegS, ↓initg0, ↓initgN, ↓initgS, ↓lenis0, ↓lenisS, ↓lenle0, ↓lenleS, ↓seqI_lst, ↓seqIE_lst, ↓seqIE_tup, ↓seqIE_scr, ↓seqI_str, ↓okt, ↓ok_kIx, ↓ok_kGet, ↓ok_revS, ↓okd, ↓ok_dGet, ↓o_mulS, ↓seqI_tup, ↓seqI_scr, ↓o_ne_mv, ↓o_eq_mv, ↓ok_enum, ↓okl1, ↓o_mul_rep, ↓o_mul_iiF, cut_2of3, ↓o_ne_2, ↓o_eq_2, ↓o_ne_bb, ↓o_eq_bb, ↓o_tru_b, ↓o_tru_i, ↓o_tru_t, ↓o_tru_l, ↓o_tru_n, ↓o_isn_non, ↓o_isn_int, ↓o_isn_tup, ↓o_isn_lst, ↓o_isn_str, ↓o_is_non, ↓o_is_int, ↓o_is_tup, ↓o_is_lst, ↓o_is_str, ↓o_eq_ii, ↓o_ne_ii, ↓o_add_ii, ↓o_sub_ii, ↓o_mul_ii, ↓o_div_ii, ↓o_mod_ii, ↓o_lt_ii, ↓o_le_ii, ↓o_gt_ii, ↓o_ge_ii, ↓o_add_tt, ↓o_add_ll, ↓o_add_ss, ↓o_divmod_ii, ↓o_neg_i, ↓o_int_i, ↓o_abs_i, ↓o_max_ii, ↓o_max1_3, ↓o_min1_3, ↓o_min_ii, ↓o_len_tup, ↓o_len_lst, ↓o_len_scr, ↓o_slc_lst, ↓o_slc_scr, ↓o_slc_tup, ↓o_tuple_lst, ↓o_tuple_tup, ↓o_tuple_scr, ↓o_list_tup, ↓o_list_lst, ↓o_bool_b, ↓o_isa_int_int, ↓o_isa_int_bool, ↓o_isa_int_tup, ↓o_isa_int_str, ↓o_isa_int_lst, ↓o_isa_bl_int, ↓o_isa_bl_bool, ↓o_isa_tup_tup, ↓o_isa_tup_int, ↓o_isa_tup_lst, ↓o_isa_tup_str, ↓o_isa_str_str, ↓o_isa_str_int, ↓o_isa_str_tup, ↓o_isa_lst_lst, ↓o_isa_lst_tup, ↓o_isa_lst_int, ↓o_isa_non_int, ↓o_isa_non_tup, ↓o_sum_3, ↓o_all_3, ↓o_atI_0, ↓o_atI_1, ↓o_atI_2, ↓o_atI_3, ↓o_atI_4, ↓o_atI_5, ↓o_ixN_30, ↓o_ixN_31, ↓o_ixN_32, ↓o_fix_tup, ↓o_fix_lst, ↓o_fix_scr, ↓o_pow_6, ↓o_pow_18, pick_0, pick_01, pick_10, pick_012, pick_021, pick_102, pick_120, pick_201, pick_210, eq_self, List.cons_append, List.nil_append, List.append_nil, List.set_set, List.set_cons_zero, List.set_cons_succ, List.length_cons, List.length_nil, Nat.zero_add, Nat.reduceAdd, Nat.reduceLeDiff, castN, natabsN, mulOkL, mulOkR, Bool.true_or, Nat.reducePow, Nat.reduceLT, ne_eq, not_true_eq_false, not_false_eq_true, rng_3, rng_2, Int.reduceEq, Int.reduceLT, Int.reduceLE, Int.reduceAdd, Int.reduceSub, Int.reduceMul, Int.reduceNeg, true_and, and_true, if_true, if_false, Bool.false_eq_true, Bool.true_eq_false, decide_true, decide_false, Bool.not_true, Bool.not_false, Bool.and_true, Bool.true_and, Bool.and_false, Bool.false_and])
local macro_rules | `(tactic| simp_arith [$ts,*]) => `(tactic| simp -implicitDefEqProofs only [↓ok_ok, ↓ok_stk, ↓ok_exc, ↓ok_bind, ↓ok_nox, ↓ok_of, ↓ok_lenO, ↓ok_propO, ↓ok_txtO, ↓ok_clsM, ↓ok_tupRg, ↓ok_lstRg, ↓oko_some, ↓oko_none, ↓oko_ite, ↓oko_map, ↓ok_ite, ↓oks_nx, ↓oks_stk, ↓oks_exc, ↓oks_bk, ↓oks_ct, ↓oks_rt, ↓oks_then, ↓oks_thenN, ↓ok_var0, ↓ok_varS, ↓ok_c, ↓ok_bin, ↓ok_un, ↓okb, ↓ok_test, ↓ok_tru, ↓ok_and, ↓ok_or, ↓ok_not, ↓ok_andV, ↓ok_orV, ↓ok_notV, ↓ok_if, ↓ok_ifT, ↓ok_fld, ↓ok_slt, ↓o_slt0, ↓ok_make, ↓ok_makeS, ↓o_isaC, ↓o_isn_ins, ↓o_is_ins, ↓ok_izip, ↓zipR_ll, ↓zipR_tl, ↓zipR_tt, ↓o_parts, ↓o_shares, ↓o_east, ↓o_north, ↓o_rests, zip2, zip3, ↓ok_nil, ↓ok_cons, ↓ok_star, ↓seqA_tup, ↓seqA_lst, ↓ok_revL, ↓ok_revLM, ↓ok_cmp2, ↓ok_tup, ↓ok_lst, ↓ok_lstM, ↓ok_fn, ↓ok_call, ↓ok_callK, ↓ok_noPart, ↓oki, ↓ok_part, ↓ok_sl, ↓oks_next, ↓oks_seq, ↓oks_drop, ↓oks_ret, ↓oks_retN, ↓oks_break, ↓oks_cont, ↓oks_never, ↓oks_if, ↓oks_try, ↓oks_asg, ↓oks_set, ↓ok_gName, ↓ok_gNil, ↓ok_gCons, ↓ok_gTup, ↓ok_gUnl, ↓ok_gSub, ↓okl2, ↓okl3, ↓oks_par, ↓oks_par3, ↓okv0, ↓okvS, ↓oks_aug, ↓ok_append, ↓ok_extend, ↓seqL_lst, ↓ok_strM, ↓ok_def, ↓ok_iSeq, ↓oki1, ↓oki2, ↓ok_range1, ↓ok_range2, ↓oks_for, ↓ok_lc, ↓ok_finL, ↓ok_finM, ↓ok_yes, ↓setg0, ↓setgS, ↓unsetg0, ↓unsetgS, ↓wipeg0, ↓wipegS, ↓initg0, ↓initgN, ↓initgS, ↓lenis0, ↓lenisS, ↓lenle0, ↓lenleS, ↓seqI_lst, ↓seqIE_lst, ↓seqIE_tup, ↓seqIE_scr, ↓seqI_str, ↓okt, ↓ok_kIx, ↓ok_kGet, ↓ok_revS, ↓okd, ↓ok_dGet, ↓o_mulS, ↓seqI_tup, ↓seqI_scr, ↓o_ne_mv, ↓o_eq_mv, ↓ok_enum, ↓okl1, ↓o_mul_rep, ↓o_mul_iiF, cut_2of3, ↓o_ne_2, ↓o_eq_2, ↓o_ne_bb, ↓o_eq_bb, ↓o_tru_b, ↓o_tru_i, ↓o_tru_t, ↓o_tru_l, ↓o_tru_n, ↓o_isn_non, ↓o_isn_int, ↓o_isn_tup, ↓o_isn_lst, ↓o_isn_str, ↓o_is_non, ↓o_is_int, ↓o_is_tup, ↓o_is_lst, ↓o_is_str, ↓o_eq_ii, ↓o_ne_ii, ↓o_add_ii, ↓o_sub_ii, ↓o_mul_ii, ↓o_div_ii, ↓o_mod_ii, ↓o_lt_ii, ↓o_le_ii, ↓o_gt_ii, ↓o_ge_ii, ↓o_add_tt, ↓o_add_ll, ↓o_add_ss, ↓o_divmod_ii, ↓o_neg_i, ↓o_int_i, ↓o_abs_i, ↓o_max_ii, ↓o_max1_3, ↓o_min1_3, ↓o_min_ii, ↓o_len_tup, ↓o_len_lst, ↓o_len_scr, ↓o_slc_lst, ↓o_slc_scr, ↓o_slc_tup, ↓o_tuple_lst, ↓o_tuple_tup, ↓o_tuple_scr, ↓o_list_tup, ↓o_list_lst, ↓o_bool_b, ↓o_isa_int_int, ↓o_isa_int_bool, ↓o_isa_int_tup, ↓o_isa_int_str, ↓o_isa_int_lst, ↓o_isa_bl_int, ↓o_isa_bl_bool, ↓o_isa_tup_tup, ↓o_isa_tup_int, ↓o_isa_tup_lst, ↓o_isa_tup_str, ↓o_isa_str_str, ↓o_isa_str_int, ↓o_isa_str_tup, ↓o_isa_lst_lst, ↓o_isa_lst_tup, ↓o_isa_lst_int, ↓o_isa_non_int, ↓o_isa_non_tup, ↓o_sum_3, ↓o_all_3, ↓o_atI_0, ↓o_atI_1, ↓o_atI_2, ↓o_atI_3, ↓o_atI_4, ↓o_atI_5, ↓o_ixN_30, ↓o_ixN_31, ↓o_ixN_32, ↓o_fix_tup, ↓o_fix_lst, ↓o_fix_scr, ↓o_pow_6, ↓o_pow_18, pick_0, pick_01, pick_10, pick_012, pick_021, pick_102, pick_120, pick_201, pick_210, eq_self, List.cons_append, List.nil_append, List.append_nil, List.set_set, List.set_cons_zero, List.set_cons_succ, List.length_cons, List.length_nil, Nat.zero_add, Nat.reduceAdd, Nat.reduceLeDiff, castN, natabsN, mulOkL, mulOkR, Bool.true_or, Nat.reducePow, Nat.reduceLT, ne_eq, not_true_eq_false, not_false_eq_true, rng_3, rng_2, Int.reduceEq, Int.reduceLT, Int.reduceLE, Int.reduceAdd, Int.reduceSub, Int.reduceMul, Int.reduceNeg, true_and, and_true, if_true, if_false, Bool.false_eq_true, Bool.true_eq_false, decide_true, decide_false, Bool.not_true, Bool.not_false, Bool.and_true, Bool.true_and, Bool.and_false, Bool.false_and, $ts,*])
theorem goods_gp {far t : Int} (f2 : 2 ≤ far) (f1 : far ≤ 10 ^ 28) (t0 : 0 ≤ t) (t1 : t ≤ 100) (t6 : (6 : Int) ∣ t) {x : D} (h : x ∈ goods far t) : ∃ c p, x = .tup [c, p] ∧ GP c p := by
  simp only [goods, List.mem_cons, List.not_mem_nil, or_false] at h
  rcases h with rfl | rfl | rfl | rfl | rfl | rfl
  · exact ⟨_, _, rfl, gp1 f2 f1 t0 t1⟩
  · exact ⟨_, _, rfl, gp2 f2 f1 t0 t1 t6⟩
  · exact ⟨_, _, rfl, gp3 f2 f1⟩
  · exact ⟨_, _, rfl, gp4 f2 f1⟩
  · exact ⟨_, _, rfl, gp5 f2 f1⟩
  · exact ⟨_, _, rfl, gp6 f2 f1⟩
theorem ist_tt {μ : Mu} {P : D → Prop} : OkO (fIs true μ (.bl true) (.bl true)) P = P (.bl false) := rfl
theorem ist_ff {μ : Mu} {P : D → Prop} : OkO (fIs true μ (.bl false) (.bl false)) P = P (.bl false) := rfl
theorem bd_lf {j : Nat} {d : D} (h : lfB d = true) : Bd j d := by
  cases j with
  | zero => exact h
  | succ j => exact .inl h
theorem words_bd {o : D} (h : o ∈ words) : Bd 2 o := by
  simp only [words, List.mem_cons, List.not_mem_nil, or_false] at h
  rcases h with rfl | rfl | rfl | rfl | rfl | rfl | rfl | rfl | rfl | rfl | rfl | rfl
  all_goals first
    | exact bd_lf rfl
    | exact bd_1 (bd_lf rfl)
    | exact bd_i (by decide) 2
theorem wr_bd {wd a b x : D} {j : Nat} (hw : Bd j wd) (ha : Bd j a) (hb : Bd j b) (h : Wr wd a b x) : Bd (j + 5) x := by
  have up : ∀ {d : D}, Bd j d → Bd (j + 2) d := fun h => bd_mono _ _ _ h (by omega)
  have u2 : ∀ {d : D}, Bd 2 d → Bd (j + 2) d := fun h => bd_mono _ _ _ h (by omega)
  rcases h with h | ⟨o, ho, rfl⟩ | ⟨o, ho, rfl | rfl⟩
  · simp only [List.mem_cons, List.not_mem_nil, or_false] at h
    rcases h with rfl | rfl | rfl | rfl | rfl | rfl
    · exact bd_lf rfl
    · refine bd_mono (j + 1) _ _ (bd_t (show 4 ≤ 20 by decide) fun e he => ?_) (by omega)
      simp only [List.mem_cons, List.not_mem_nil, or_false] at he
      rcases he with rfl | rfl | rfl | rfl
      · exact hw
      · exact ha
      · exact hb
      · exact bd_lf rfl
    · exact bd_mono (j + 1) _ _ (bd_2 hw ha) (by omega)
    · refine bd_mono (j + 1) _ _ (bd_t (show 4 ≤ 20 by decide) fun e he => ?_) (by omega)
      simp only [List.mem_cons, List.not_mem_nil, or_false] at he
      rcases he with rfl | rfl | rfl | rfl
      · exact hw
      · exact ha
      · exact hb
      · exact bd_i (by decide) j
    · exact bd_mono (j + 2) _ _ (bd_1 (bd_3 hw ha hb)) (by omega)
    · exact bd_mono (j + 1) _ _ (bd_2 ha hb) (by omega)
  · exact bd_mono (j + 3) _ _ (bd_3 (u2 (words_bd ho)) (up ha) (up hb)) (by omega)
  · exact bd_mono (j + 3) _ _ (bd_3 (up hw) (u2 (odd2_no ho).2.1) (up hb)) (by omega)
  · exact bd_mono (j + 3) _ _ (bd_3 (up hw) (up ha) (u2 (odd2_no ho).2.1)) (by omega)
theorem wr_tx {wd a b x : D} (ta : TxD a) (tb : TxD b) (h : Wr wd a b x) : ∀ u v y, x = .tup [u, v, y] → TxD v ∧ TxD y := fun u v y e => by
  rcases h with h | ⟨o, ho, rfl⟩ | ⟨o, ho, rfl | rfl⟩
  · simp only [List.mem_cons, List.not_mem_nil, or_false] at h
    rcases h with rfl | rfl | rfl | rfl | rfl | rfl <;> cases e
  · cases e; exact ⟨ta, tb⟩
  · cases e; exact ⟨(odd2_no ho).2.2, tb⟩
  · cases e; exact ⟨ta, (odd2_no ho).2.2⟩
theorem put_tx {w : Str} {a b o x : D} (ta : TxD a) (tb : TxD b) (ho : o ∈ odds) (h : Put 2 (.tup [.str w, a, b]) o x) : ∀ u v y, x = .tup [u, v, y] → TxD v ∧ TxD y := fun u v y e => by
  cases h with
  | here => exact absurd e ((odds_no ho).2.2.2.2 u v y)
  | @part _ i _ _ z hi hp =>
    match i, hi, hp, e with
    | 0, _, hp, e =>
      have e : D.tup [z, a, b] = .tup [u, v, y] := e
      cases e; exact ⟨ta, tb⟩
    | 1, _, hp, e =>
      have e : D.tup [.str w, z, b] = .tup [u, v, y] := e
      cases e; exact ⟨(put_no hp ho).2, tb⟩
    | 2, _, hp, e =>
      have e : D.tup [.str w, a, z] = .tup [u, v, y] := e
      cases e; exact ⟨ta, (put_no hp ho).2⟩
theorem more_bd {x : D} (h : x ∈ moreL) : Bd 3 x := by
  simp only [moreL, List.mem_cons, List.not_mem_nil, or_false] at h
  rcases h with rfl | rfl | rfl | rfl | rfl | rfl
  · exact bd_lf rfl
  · exact bd_lf rfl
  · exact bd_lf rfl
  · exact bd_2 (bd_lf rfl) (bd_lf rfl)
  · exact bd_lf rfl
  · exact bd_1 (bd_3 (bd_i (by decide) 1) (bd_i (by decide) 1) (bd_i (by decide) 1))
theorem rep4 {μ : Mu} {P : D → Prop} : OkO (fRepT μ (.tup [.non]) (.int 4)) P = P (.tup [.non, .non, .non, .non]) := rfl
def last9 (c : D) : List D := [.non, .bl true, .str "makes", .lst [], .dK [], .lst [.tup []], .tup [.str "root"], .tup [.non, .non, .non, .non], c]
/-- what neither is a claim nor shows one -/
theorem last_no {w : Str} {a b x : D} (hc : Bd 6 (.tup [.str w, a, b])) (ta : TxD a) (tb : TxD b) (h : x ∈ last9 (.tup [.str w, a, b])) : Bd 6 x ∧ (∀ u v y, x = .tup [u, v, y] → TxD v ∧ TxD y) ∧ ∀ c, ¬ Good c x := by
  have im : ∀ c x, pureN 12 x = false → ¬ Good c x := fun c x h g => by rw [(good_pure g).2] at h; cases h
  simp only [last9, List.mem_cons, List.not_mem_nil, or_false] at h
  rcases h with rfl | rfl | rfl | rfl | rfl | rfl | rfl | rfl | rfl
  · exact ⟨bd_lf rfl, fun u v y e => (by cases e), fun c => im c _ rfl⟩
  · exact ⟨bd_lf rfl, fun u v y e => (by cases e), fun c => im c _ rfl⟩
  · exact ⟨bd_lf rfl, fun u v y e => (by cases e), fun c => im c _ rfl⟩
  · exact ⟨bd_lf rfl, fun u v y e => (by cases e), fun c => im c _ rfl⟩
  · exact ⟨bd_lf rfl, fun u v y e => (by cases e), fun c => im c _ rfl⟩
  · exact ⟨bd_lf rfl, fun u v y e => (by cases e), fun c => im c _ rfl⟩
  · exact ⟨bd_mono 1 6 _ (bd_1 (bd_lf rfl)) (by decide), fun u v y e => (by cases e), fun c => im c _ rfl⟩
  · refine ⟨bd_mono 1 6 _ (bd_t (show 4 ≤ 20 by decide) fun e he => ?_) (by decide), fun u v y e => (by cases e), fun c => im c _ rfl⟩
    simp only [List.mem_cons, List.not_mem_nil, or_false] at he
    rcases he with rfl | rfl | rfl | rfl <;> exact bd_lf rfl
  · exact ⟨hc, fun u v y e => (by cases e; exact ⟨ta, tb⟩), fun c => im c _ rfl⟩
theorem right_spec {n : Nat} {μ : Mu} {Q : D → Mu → Prop} (h : Wm n μ) (q : ∀ μ', Q (.bl true) μ') : Ok (m__law_right [.loc n] μ) Q := by
  unfold m__law_right
  simp_arith
  refine oks_forInv (fun pre rest Γ μ' => Wm n μ' ∧ ∃ x1 x2 x3 x4 x5 x6 x7 : Option D, Γ = [some (D.loc n), x1, x2, x3, x4, x5, x6, x7]) _ [] _ _ ⟨h, none, none, none, none, none, none, none, rfl⟩ ?_ ?_
  · rintro pre d rest Γ μ0 ⟨w0, x1, x2, x3, x4, x5, x6, x7, rfl⟩
    simp_arith
    refine good_spec w0 fun far t j μ1 w1 g1 hj f2 f1 t0 t1 t6 em => ?_
    try simp_arith
    refine pickl_spec w1 em (Ne.symm hj) (by simp [goods]) (by simp [goods]) fun x hx μ2 w2 _ => ?_
    obtain ⟨c, p, rfl, gp⟩ := goods_gp f2 f1 t0 t1 t6 hx
    obtain ⟨w, a, b, rfl, iw, ta, tb⟩ := gp.sh
    obtain ⟨ds, rfl, dl⟩ := gp.tp
    simp_arith
    refine gp.ok _ _ ?_
    simp_arith [↓ist_tt]
    refine gp.ok _ _ ?_
    simp_arith [↓ist_tt]
    have p0 : Bd 0 (D.lst [D.tup ds]) := rfl
    have tc : ∀ u v y, D.tup [D.str w, a, b] = .tup [u, v, y] → TxD v ∧ TxD y := fun u v y e => by cases e; exact ⟨ta, tb⟩
    obtain ⟨i6, e6, l6, hh⟩ := bd_tup gp.bc
    have bw := hh (.str w) (by simp)
    have ba := hh a (by simp)
    have bb := hh b (by simp)
    refine wr_spec w2 fun x μ3 w3 g3 wr => ?_
    have bx := wr_bd bw ba bb wr
    have tx := wr_tx ta tb wr
    refine acc_no bx gp.bp tx (wr_no wr) ?_
    simp_arith [↓ist_ff]
    refine acc_no gp.bc p0 tc (fun g => by obtain ⟨⟨es, e⟩, _⟩ := good_pure g; cases e) ?_
    simp_arith [↓ist_ff]
    refine odd_spec w3 fun o μ4 w4 g4 ho => ?_
    refine put_12 n _ o 2 μ4 _ w4 (by decide) ⟨_, gp.bc⟩ fun x4 μ5 w5 g5 hp4 => ?_
    refine odd_spec w5 fun o' μ6 w6 g6 ho' => ?_
    refine put_12 n _ o' 5 μ6 _ w6 (by decide) ⟨_, gp.bp⟩ fun x5 μ7 w7 g7 hp5 => ?_
    have b4 : Bd 8 x4 := put_bd hp4 (odds_no ho).2.1 6 gp.bc
    have b5 : Bd 10 x5 := put_bd hp5 (odds_no ho').2.1 8 gp.bp
    have t4 : ∀ u v y, x4 = .tup [u, v, y] → TxD v ∧ TxD y := put_tx ta tb ho hp4
    refine acc_no b4 gp.bp t4 (bent_no ho hp4) ?_
    simp_arith [↓ist_ff]
    refine acc_no gp.bc b5 tc (fun g => by
      have := put_impure hp5 (odd_impure ho') 12
      rw [(good_pure g).2] at this
      cases this) ?_
    simp_arith [↓ist_ff]
    refine pick_spec w7 (by simp) (by simp) fun m hm μ8 w8 g8 => ?_
    try simp_arith
    refine ⟨by omega, ?_⟩
    obtain ⟨i7, e7, l7, h7⟩ := bd_tup gp.bp
    have bm : Bd 10 (D.tup (ds ++ [m])) := by
      refine bd_mono 9 _ _ (bd_t (j := 8) (by rw [List.length_append, List.length_singleton]; omega) fun e he => ?_) (by decide)
      rcases List.mem_append.mp he with z | z
      · exact bd_mono i7 _ _ (h7 e z) (by omega)
      · rw [List.mem_singleton.mp z]; exact bd_mono 3 _ _ (more_bd hm) (by decide)
    refine acc_no gp.bc bm tc (gp.more m hm ds rfl) ?_
    simp_arith [↓ist_ff]
    rw [o_emp, rep4]
    refine pick_spec w8 (by simp) (by simp) fun y hy μ9 w9 g9 => ?_
    obtain ⟨by9, ty, ny⟩ := last_no gp.bc ta tb hy
    try simp_arith
    refine acc_no by9 by9 ty (ny y) ?_
    simp_arith [↓ist_ff]
    refine acc_no gp.bc by9 tc (ny _) ?_
    simp_arith [↓ist_ff]
    exact ⟨w9, _, _, _, _, _, _, _, rfl⟩
  · rintro pre Γ μ' ⟨hw, x1, x2, x3, x4, x5, x6, x7, rfl⟩
    try simp_arith
    exact q _
end A46

set_option Elab.async false
set_option linter.all false
set_option maxRecDepth 100000
set_option maxHeartbeats 1000000
set_option exponentiation.threshold 10000
namespace A46
open PySem PySem.Spec PyProof.Rows L2 Ar TL
local macro_rules | `(tactic| simp_arith) => `(tactic| simp -implicitDefEqProofs only [↓ok_ok, ↓ok_stk, ↓ok_exc, ↓ok_bind, ↓ok_nox, ↓ok_of, ↓ok_lenO, ↓ok_propO, ↓ok_txtO, ↓ok_clsM, ↓ok_tupRg, ↓ok_lstRg, ↓oko_some, ↓oko_none, ↓oko_ite, ↓oko_map, ↓ok_ite, ↓oks_nx, ↓oks_stk, ↓oks_exc, ↓oks_bk, ↓oks_ct, ↓oks_rt, ↓oks_then, ↓oks_thenN, ↓ok_var0, ↓ok_varS, ↓ok_c, ↓ok_bin, ↓ok_un, ↓okb, ↓ok_test, ↓ok_tru, ↓ok_and, ↓ok_or, ↓ok_not, ↓ok_andV, ↓ok_orV, ↓ok_notV, ↓ok_if, ↓ok_ifT, ↓ok_fld, ↓ok_slt, ↓o_slt0, ↓ok_make, ↓ok_makeS, ↓o_isaC, ↓o_isn_ins, ↓o_is_ins, ↓ok_izip, ↓zipR_ll, ↓zipR_tl, ↓zipR_tt, ↓o_parts, ↓o_shares, ↓o_east, ↓o_north, ↓o_rests, zip2, zip3, ↓ok_nil, ↓ok_cons, ↓ok_star, ↓seqA_tup, ↓seqA_lst, ↓ok_revL, ↓ok_revLM, ↓ok_cmp2, ↓ok_tup, ↓ok_lst, ↓ok_lstM, ↓ok_fn, ↓ok_call, ↓ok_callK, ↓ok_noPart, ↓oki, ↓ok_part, ↓ok_sl, ↓oks_next, ↓oks_seq, ↓oks_drop, ↓oks_ret, ↓oks_retN, ↓oks_break, ↓oks_cont, ↓oks_never, ↓oks_if, ↓oks_try, ↓oks_asg, ↓oks_set, ↓ok_gName, ↓ok_gNil, ↓ok_gCons, ↓ok_gTup, ↓ok_gUnl, ↓ok_gSub, ↓okl2, ↓okl3, ↓oks_par, ↓oks_par3, ↓okv0, ↓okvS, ↓oks_aug, ↓ok_append, ↓ok_extend, ↓seqL_lst, ↓ok_strM, ↓ok_def, ↓ok_iSeq, ↓oki1, ↓oki2, ↓ok_range1, ↓ok_range2, ↓oks_for, ↓ok_lc, ↓ok_finL, ↓ok_finM, ↓ok_yes, ↓setg0, ↓setgS, ↓unsetg0, ↓unsetgS, ↓wipeg0, ↓wipegS, ↓initg0, ↓initgN, ↓initgS, ↓lenis0, ↓lenisS, ↓lenle0, ↓lenleS, ↓seqI_lst, ↓seqIE_lst, ↓seqIE_tup, ↓seqIE_scr, ↓seqI_str, ↓okt, ↓ok_kIx, ↓ok_kGet, ↓ok_revS, ↓okd, ↓ok_dGet, ↓o_mulS, ↓seqI_tup, ↓seqI_scr, ↓o_ne_mv, ↓o_eq_mv, ↓ok_enum, ↓okl1, ↓o_mul_rep, ↓o_mul_iiF, cut_2of3, ↓o_ne_2, ↓o_eq_2, ↓o_ne_bb, ↓o_eq_bb, ↓o_tru_b, ↓o_tru_i, ↓o_tru_t, ↓o_tru_l, ↓o_tru_n, ↓o_isn_non, ↓o_isn_int, ↓o_isn_tup, ↓o_isn_lst, ↓o_isn_str, ↓o_is_non, ↓o_is_int, ↓o_is_tup, ↓o_is_lst, ↓o_is_str, ↓o_eq_ii, ↓o_ne_ii, ↓o_add_ii, ↓o_sub_ii, ↓o_mul_ii, ↓o_div_ii, ↓o_mod_ii, ↓o_lt_ii, ↓o_le_ii, ↓o_gt_ii, ↓o_ge_ii, ↓o_add_tt, ↓o_add_ll, ↓o_add_ss, ↓o_divmod_ii, ↓o_neg_i, ↓o_int_i, ↓o_abs_i, ↓o_max_ii, ↓o_max1_3, ↓o_min1_3, ↓o_min_ii, ↓o_len_tup, ↓o_len_lst, ↓o_len_scr, ↓o_slc_lst, ↓o_slc_scr, ↓o_slc_tup, ↓o_tuple_lst, ↓o_tuple_tup, ↓o_tuple_scr, ↓o_list_tup, ↓o_list_lst, ↓o_bool_b, ↓o_isa_int_int, ↓o_isa_int_bool, ↓o_isa_int_tup, ↓o_isa_int_str, ↓o_isa_int_lst, ↓o_isa_bl_int, ↓o_isa_bl_bool, ↓o_isa_tup_tup, ↓o_isa_tup_int, ↓o_isa_tup_lst, ↓o_isa_tup_str, ↓o_isa_str_str, ↓o_isa_str_int, ↓o_isa_str_tup, ↓o_isa_lst_lst, ↓o_isa_lst_tup, ↓o_isa_lst_int, ↓o_isa_non_int, ↓o_isa_non_tup, ↓o_sum_3, ↓o_all_3, ↓o_atI_0, ↓o_atI_1, ↓o_atI_2, ↓o_atI_3, ↓o_atI_4, ↓o_atI_5, ↓o_ixN_30, ↓o_ixN_31, ↓o_ixN_32, ↓o_fix_tup, ↓o_fix_lst, ↓o_fix_scr, ↓o_pow_6, ↓o_pow_18, pick_0, pick_01, pick_10, pick_012, pick_021, pick_102, pick_120, pick_201, pick_210, eq_self, List.cons_append, List.nil_append, List.append_nil, List.set_set, List.set_cons_zero, List.set_cons_succ, List.length_cons, List.length_nil, Nat.zero_add, Nat.reduceAdd, Nat.reduceLeDiff, castN, natabsN, mulOkL, mulOkR, Bool.true_or, Nat.reducePow, Nat.reduceLT, ne_eq, not_true_eq_false, not_false_eq_true, rng_3, rng_2, Int.reduceEq, Int.reduceLT, Int.reduceLE, Int.reduceAdd, Int.reduceSub, Int.reduceMul, Int.reduceNeg, true_and, and_true, if_true, if_false, Bool.false_eq_true, Bool.true_eq_false, decide_true, decide_false, Bool.not_true, Bool.not_false, Bool.and_true, Bool.true_and, Bool.and_false, Bool.false_and])
local macro_rules | `(tactic| simp_arith [$ts,*]) => `(tactic| simp -implicitDefEqProofs only [↓ok_ok, ↓ok_stk, ↓ok_exc, ↓ok_bind, ↓ok_nox, ↓ok_of, ↓ok_lenO, ↓ok_propO, ↓ok_txtO, ↓ok_clsM, ↓ok_tupRg, ↓ok_lstRg, ↓oko_some, ↓oko_none, ↓oko_ite, ↓oko_map, ↓ok_ite, ↓oks_nx, ↓oks_stk, ↓oks_exc, ↓oks_bk, ↓oks_ct, ↓oks_rt, ↓oks_then, ↓oks_thenN, ↓ok_var0, ↓ok_varS, ↓ok_c, ↓ok_bin, ↓ok_un, ↓okb, ↓ok_test, ↓ok_tru, ↓ok_and, ↓ok_or, ↓ok_not, ↓ok_andV, ↓ok_orV, ↓ok_notV, ↓ok_if, ↓ok_ifT, ↓ok_fld, ↓ok_slt, ↓o_slt0, ↓ok_make, ↓ok_makeS, ↓o_isaC, ↓o_isn_ins, ↓o_is_ins, ↓ok_izip, ↓zipR_ll, ↓zipR_tl, ↓zipR_tt, ↓o_parts, ↓o_shares, ↓o_east, ↓o_north, ↓o_rests, zip2, zip3, ↓ok_nil, ↓ok_cons, ↓ok_star, ↓seqA_tup, ↓seqA_lst, ↓ok_revL, ↓ok_revLM, ↓ok_cmp2, ↓ok_tup, ↓ok_lst, ↓ok_lstM, ↓ok_fn, ↓ok_call, ↓ok_callK, ↓ok_noPart, ↓oki, ↓ok_part, ↓ok_sl, ↓oks_next, ↓oks_seq, ↓oks_drop, ↓oks_ret, ↓oks_retN, ↓oks_break, ↓oks_cont, ↓oks_never, ↓oks_if, ↓oks_try, ↓oks_asg, ↓oks_set, ↓ok_gName, ↓ok_gNil, ↓ok_gCons, ↓ok_gTup, ↓ok_gUnl, ↓ok_gSub, ↓okl2, ↓okl3, ↓oks_par, ↓oks_par3, ↓okv0, ↓okvS, ↓oks_aug, ↓ok_append, ↓ok_extend, ↓seqL_lst, ↓ok_strM, ↓ok_def, ↓ok_iSeq, ↓oki1, ↓oki2, ↓ok_range1, ↓ok_range2, ↓oks_for, ↓ok_lc, ↓ok_finL, ↓ok_finM, ↓ok_yes, ↓setg0, ↓setgS, ↓unsetg0, ↓unsetgS, ↓wipeg0, ↓wipegS, ↓initg0, ↓initgN, ↓initgS, ↓lenis0, ↓lenisS, ↓lenle0, ↓lenleS, ↓seqI_lst, ↓seqIE_lst, ↓seqIE_tup, ↓seqIE_scr, ↓seqI_str, ↓okt, ↓ok_kIx, ↓ok_kGet, ↓ok_revS, ↓okd, ↓ok_dGet, ↓o_mulS, ↓seqI_tup, ↓seqI_scr, ↓o_ne_mv, ↓o_eq_mv, ↓ok_enum, ↓okl1, ↓o_mul_rep, ↓o_mul_iiF, cut_2of3, ↓o_ne_2, ↓o_eq_2, ↓o_ne_bb, ↓o_eq_bb, ↓o_tru_b, ↓o_tru_i, ↓o_tru_t, ↓o_tru_l, ↓o_tru_n, ↓o_isn_non, ↓o_isn_int, ↓o_isn_tup, ↓o_isn_lst, ↓o_isn_str, ↓o_is_non, ↓o_is_int, ↓o_is_tup, ↓o_is_lst, ↓o_is_str, ↓o_eq_ii, ↓o_ne_ii, ↓o_add_ii, ↓o_sub_ii, ↓o_mul_ii, ↓o_div_ii, ↓o_mod_ii, ↓o_lt_ii, ↓o_le_ii, ↓o_gt_ii, ↓o_ge_ii, ↓o_add_tt, ↓o_add_ll, ↓o_add_ss, ↓o_divmod_ii, ↓o_neg_i, ↓o_int_i, ↓o_abs_i, ↓o_max_ii, ↓o_max1_3, ↓o_min1_3, ↓o_min_ii, ↓o_len_tup, ↓o_len_lst, ↓o_len_scr, ↓o_slc_lst, ↓o_slc_scr, ↓o_slc_tup, ↓o_tuple_lst, ↓o_tuple_tup, ↓o_tuple_scr, ↓o_list_tup, ↓o_list_lst, ↓o_bool_b, ↓o_isa_int_int, ↓o_isa_int_bool, ↓o_isa_int_tup, ↓o_isa_int_str, ↓o_isa_int_lst, ↓o_isa_bl_int, ↓o_isa_bl_bool, ↓o_isa_tup_tup, ↓o_isa_tup_int, ↓o_isa_tup_lst, ↓o_isa_tup_str, ↓o_isa_str_str, ↓o_isa_str_int, ↓o_isa_str_tup, ↓o_isa_lst_lst, ↓o_isa_lst_tup, ↓o_isa_lst_int, ↓o_isa_non_int, ↓o_isa_non_tup, ↓o_sum_3, ↓o_all_3, ↓o_atI_0, ↓o_atI_1, ↓o_atI_2, ↓o_atI_3, ↓o_atI_4, ↓o_atI_5, ↓o_ixN_30, ↓o_ixN_31, ↓o_ixN_32, ↓o_fix_tup, ↓o_fix_lst, ↓o_fix_scr, ↓o_pow_6, ↓o_pow_18, pick_0, pick_01, pick_10, pick_012, pick_021, pick_102, pick_120, pick_201, pick_210, eq_self, List.cons_append, List.nil_append, List.append_nil, List.set_set, List.set_cons_zero, List.set_cons_succ, List.length_cons, List.length_nil, Nat.zero_add, Nat.reduceAdd, Nat.reduceLeDiff, castN, natabsN, mulOkL, mulOkR, Bool.true_or, Nat.reducePow, Nat.reduceLT, ne_eq, not_true_eq_false, not_false_eq_true, rng_3, rng_2, Int.reduceEq, Int.reduceLT, Int.reduceLE, Int.reduceAdd, Int.reduceSub, Int.reduceMul, Int.reduceNeg, true_and, and_true, if_true, if_false, Bool.false_eq_true, Bool.true_eq_false, decide_true, decide_false, Bool.not_true, Bool.not_false, Bool.and_true, Bool.true_and, Bool.and_false, Bool.false_and, $ts,*])
theorem law_true (ns : List Int) (hn : ns.length ≤ 63) : ∃ μ, m_law [.scr (ns.map .int)] [] = .ok (.bl true) μ := by
  refine ok_end ?_
  unfold m_law
  simp_arith
  have hz : ∀ m : Int, 0 ≤ m → m ≤ 63 → m.natAbs < 2305843009213693952 ∧ LenLe (rngD 0 m.toNat) 1000000 (Ok (lcL (dgName 1) dYes (dCall m__law_right (daCons (dCall m__law_well (daCons (dVar 0) (daCons (dVar 1) daNil))) daNil)) [some (D.scr (List.map D.int ns)), none] (rngD 0 m.toNat) []) fun ys μ2 => OkO (fAll μ2 [D.lst ys]) fun z => z = D.bl true) := by
    intro m h0 h1
    refine ⟨by omega, by rw [rngD_len]; omega, ?_⟩
    refine (ok_lcInv (fun acc rest μ' => (∀ d ∈ acc, d = D.bl true) ∧ ∀ d ∈ rest, ∃ i : Int, d = .int i ∧ 0 ≤ i ∧ i ≤ 63) _ [] _ ⟨fun d hd => (by cases hd), fun d hd => (by obtain ⟨i, e, h, h2⟩ := rng_nat hd; exact ⟨i, e, h, by omega⟩)⟩ ?_).mono fun ys μ2 hy => all_true hy.1 rfl
    rintro acc d rest μ' ⟨ha, hr⟩
    obtain ⟨i, rfl, hi, hi2⟩ := hr d List.mem_cons_self
    simp_arith
    refine well_spec hi hi2 hn fun μ3 h3 g3 => right_spec h3 fun μ4 => ⟨fun d hd => ?_, fun d hd => hr d (List.mem_cons_of_mem _ hd)⟩
    rcases List.mem_append.mp hd with z | z
    · exact ha d z
    · exact List.mem_singleton.mp z
  refine hz _ ?_ ?_
  · repeat' split
    all_goals omega
  · rw [List.length_map]
    repeat' split
    all_goals omega

end A46

set_option Elab.async false
set_option linter.all false
set_option maxRecDepth 100000
set_option maxHeartbeats 0
namespace A46
open PySem PySem.Spec PyProof.Rows L2 Ar
section
variable {P : Program} {w : World} {K : PySem.W.Frag} {mg : Str → Option Value} {base : Heap} {f : Addr} {fd : FuncData}
theorem sc__law_well : FnScope (["script", "spot", "state", "cell", "own"] : List Str) (["script", "spot"] : List Str) (defScope s__law_well) := ⟨rfl, rfl, rfl, by decide +kernel, rfl, by decide +kernel, by decide +kernel⟩
theorem ok__law_well (F : FunD K "_law_well" "_law_well" (defArgs s__law_well) (defBody s__law_well) (defScope s__law_well) [] [] f fd) (b_abs : mg "abs" = none) (b_int : mg "int" = none) (b_len : mg "len" = none) : Pm P w K mg base (L2.CX P w) 1 f fd (["script", "spot"] : List Str) (spM K m__law_well) := by unfold m__law_well; exact fn_ok F sc__law_well rfl rfl fun cdv A outer s H E hr => have hu := hr.units; have hg := hr.g; qs_cons (q_set 2 sc__law_well.nd (q_op od_add (q_int) (q_op od_mul (q_int) (qv 1)))) (qs_cons (q_for (passes_of rfl) rfl (qi_seq (q_op od_add (q_sl (qv 0) (qo_none) (qo_some (q_int))) (q_sl (qv 0) (qo_some (qv 1)) (qo_some (q_op od_add (qv 1) (q_int)))))) (qg_name 3 sc__law_well.nd) (qs_one (q_set 2 sc__law_well.nd (q_op od_modI (q_callTy cd_int b_int rfl (qa_cons (q_op od_add (q_op od_add (q_op od_mul (qv 2) (q_int)) (qv 3)) (q_int)) (qa_nil))) (q_int))))) (qs_cons (q_set 4 sc__law_well.nd (q_if (qt_cmp od_lt (qv 1) (q_callB (cd_len) b_len rfl (qa_cons (qv 0) (qa_nil)))) (q_ix (qv 0) (qv 1)) (q_int))) (qs_one (q_ret (q_lstM (qa_cons (qv 2) (qa_cons (q_int) (qa_cons (q_if (qt_cmp od_ge (q_callB (cd_abs) b_abs rfl (qa_cons (qv 4) (qa_nil))) (q_op od_powI (q_int) (q_int))) (q_callB (cd_abs) b_abs rfl (qa_cons (qv 4) (qa_nil))) (q_int)) (qa_nil)))))))))
theorem sc_written_integer : FnScope (["word", "digits", "sign"] : List Str) (["word"] : List Str) (defScope s_written_integer) := ⟨rfl, rfl, rfl, by decide +kernel, rfl, by decide +kernel, by decide +kernel⟩
theorem ok_written_integer (F : FunD K "written_integer" "written_integer" (defArgs s_written_integer) (defBody s_written_integer) (defScope s_written_integer) [] [] f fd) (b_all : mg "all" = none) (b_int : mg "int" = none) (b_len : mg "len" = none) (b_str : mg "str" = none) (k_DIGITS : GloC K mg "DIGITS" (.str "0123456789")) : Pm P w K mg base (L2.CX P w) 1 f fd (["word"] : List Str) (spM K m_written_integer) := by unfold m_written_integer; exact fn_ok F sc_written_integer rfl rfl fun cdv A outer s H E hr => have hu := hr.units; have hg := hr.g; qs_cons (q_set 1 sc_written_integer.nd (q_if (qt_cmp (od_eq hu) (q_sl (qv 0) (qo_none) (qo_some (q_int))) (q_str)) (q_sl (qv 0) (qo_some (q_int)) (qo_none)) (qv 0))) (qs_cons (q_ifS (qt_w (qw_or (qt_cmp (od_eq hu) (qv 1) (q_str)) (qw_or (qt_cmp od_gt (q_callB (cd_len) b_len rfl (qa_cons (qv 1) (qa_nil))) (q_int)) (qw_one_or (qt_not (qt_tru (q_callB (cd_all rfl) b_all rfl (qa_cons (q_lc [("sign", 2)] fin_L rfl sc_written_integer.nd (qi_seq (qv 1)) (blk rfl (by kernel_rfl) (by kernel_rfl) (by kernel_rfl) (by kernel_rfl)) (qgb_name 2 sc_written_integer.nd) (fun _ _ _ _ _ => qts_nil) (fun _ _ _ _ _ => q_cmp (od_in hu) (qv 2) (q_glob k_DIGITS.v))) (qa_nil))))))))) (qs_one (q_ret (q_non))) (qs_nil)) (qs_one (q_ret (q_if (qt_cmp (od_eq hu) (q_callTy (cd_str2 hg hu) b_str rfl (qa_cons (q_callTy cd_int b_int rfl (qa_cons (qv 0) (qa_nil))) (qa_nil))) (qv 0)) (q_callTy cd_int b_int rfl (qa_cons (qv 0) (qa_nil))) (q_non)))))
theorem sc_text_move : FnScope (["value", "words", "found", "word"] : List Str) (["value"] : List Str) (defScope s_text_move) := ⟨rfl, rfl, rfl, by decide +kernel, rfl, by decide +kernel, by decide +kernel⟩
theorem ok_text_move (F : FunD K "text_move" "text_move" (defArgs s_text_move) (defBody s_text_move) (defScope s_text_move) [] [] f fd) (b_isinstance : mg "isinstance" = none) (b_len : mg "len" = none) (b_str : mg "str" = none) (b_tuple : mg "tuple" = none) (c_written_integer : FnG P w K mg base "written_integer" 1 m_written_integer) : Pm P w K mg base (L2.CX P w) 2 f fd (["value"] : List Str) (spM K m_text_move) := by unfold m_text_move; exact fn_ok F sc_text_move rfl rfl fun cdv A outer s H E hr => have hu := hr.units; have hg := hr.g; qs_cons (q_set 1 sc_text_move.nd (q_if (qt_tru (q_callB (cd_isa) b_isinstance rfl (qa_cons (qv 0) (qa_cons (q_ty b_str rfl) (qa_nil))))) (q_split (qv 0) (q_str)) (q_lst (qa_nil)))) (qs_cons (q_set 2 sc_text_move.nd (q_callTy cd_tuple b_tuple rfl (qa_cons (q_lc [("word", 3)] fin_L rfl sc_text_move.nd (qi_seq (qv 1)) (blk rfl (by kernel_rfl) (by kernel_rfl) (by kernel_rfl) (by kernel_rfl)) (qgb_name 3 sc_text_move.nd) (fun _ _ _ _ _ => qts_nil) (fun _ _ _ _ _ => q_call c_written_integer (hr.mono (by decide)) passL (qa_cons (qv 3) (qa_nil)))) (qa_nil)))) (qs_one (q_ret (q_if (qt_w (qw_and (qt_cmp (od_eq hu) (q_callB (cd_len) b_len rfl (qa_cons (qv 2) (qa_nil))) (q_int)) (qw_one_and (qt_cmp (od_notIn hu) (q_non) (qv 2))))) (qv 2) (q_non)))))
theorem sc_is_integer : FnScope (["value"] : List Str) (["value"] : List Str) (defScope s_is_integer) := ⟨rfl, rfl, rfl, by decide +kernel, rfl, by decide +kernel, by decide +kernel⟩
theorem ok_is_integer (F : FunD K "is_integer" "is_integer" (defArgs s_is_integer) (defBody s_is_integer) (defScope s_is_integer) [] [] f fd) (b_bool : mg "bool" = none) (b_int : mg "int" = none) (b_isinstance : mg "isinstance" = none) : Pm P w K mg base (L2.CX P w) 1 f fd (["value"] : List Str) (spM K m_is_integer) := by unfold m_is_integer; exact fn_ok F sc_is_integer rfl rfl fun cdv A outer s H E hr => have hu := hr.units; have hg := hr.g; qs_one (q_ret (q_and (q_callB (cd_isa) b_isinstance rfl (qa_cons (qv 0) (qa_cons (q_ty b_int rfl) (qa_nil)))) (q_one (q_not (q_callB (cd_isa) b_isinstance rfl (qa_cons (qv 0) (qa_cons (q_ty b_bool rfl) (qa_nil))))))))
theorem sc_is_move : FnScope (["value", "part"] : List Str) (["value"] : List Str) (defScope s_is_move) := ⟨rfl, rfl, rfl, by decide +kernel, rfl, by decide +kernel, by decide +kernel⟩
theorem ok_is_move (F : FunD K "is_move" "is_move" (defArgs s_is_move) (defBody s_is_move) (defScope s_is_move) [] [] f fd) (b_all : mg "all" = none) (b_isinstance : mg "isinstance" = none) (b_len : mg "len" = none) (b_tuple : mg "tuple" = none) (c_is_integer : FnG P w K mg base "is_integer" 1 m_is_integer) : Pm P w K mg base (L2.CX P w) 2 f fd (["value"] : List Str) (spM K m_is_move) := by unfold m_is_move; exact fn_ok F sc_is_move rfl rfl fun cdv A outer s H E hr => have hu := hr.units; have hg := hr.g; qs_one (q_ret (q_and (q_callB (cd_isa) b_isinstance rfl (qa_cons (qv 0) (qa_cons (q_ty b_tuple rfl) (qa_nil)))) (q_and (q_cmp (od_eq hu) (q_callB (cd_len) b_len rfl (qa_cons (qv 0) (qa_nil))) (q_int)) (q_one (q_callB (cd_all rfl) b_all rfl (qa_cons (q_lc [("part", 1)] fin_L rfl sc_is_move.nd (qi_seq (qv 0)) (blk rfl (by kernel_rfl) (by kernel_rfl) (by kernel_rfl) (by kernel_rfl)) (qgb_name 1 sc_is_move.nd) (fun _ _ _ _ _ => qts_nil) (fun _ _ _ _ _ => q_call c_is_integer (hr.mono (by decide)) passL (qa_cons (qv 1) (qa_nil)))) (qa_nil)))))))
theorem sc_is_button : FnScope (["value", "part"] : List Str) (["value"] : List Str) (defScope s_is_button) := ⟨rfl, rfl, rfl, by decide +kernel, rfl, by decide +kernel, by decide +kernel⟩
theorem ok_is_button (F : FunD K "is_button" "is_button" (defArgs s_is_button) (defBody s_is_button) (defScope s_is_button) [] [] f fd) (b_abs : mg "abs" = none) (b_all : mg "all" = none) (k_MOST_NUMBER : GloC K mg "MOST_NUMBER" (.int 1000000000000000000000000000000)) (c_is_move : FnG P w K mg base "is_move" 2 m_is_move) : Pm P w K mg base (L2.CX P w) 3 f fd (["value"] : List Str) (spM K m_is_button) := by unfold m_is_button; exact fn_ok F sc_is_button rfl rfl fun cdv A outer s H E hr => have hu := hr.units; have hg := hr.g; qs_one (q_ret (q_and (q_call c_is_move (hr.mono (by decide)) (passes_call (takes_of rfl rfl rfl rfl) fun _ _ _ _ h => h) (qa_cons (qv 0) (qa_nil))) (q_one (q_callB (cd_all rfl) b_all rfl (qa_cons (q_lc [("part", 1)] fin_L rfl sc_is_button.nd (qi_seq (qv 0)) (blk rfl (by kernel_rfl) (by kernel_rfl) (by kernel_rfl) (by kernel_rfl)) (qgb_name 1 sc_is_button.nd) (fun _ _ _ _ _ => qts_nil) (fun _ _ _ _ _ => q_cmp od_le (q_callB (cd_abs) b_abs rfl (qa_cons (qv 1) (qa_nil))) (q_glob k_MOST_NUMBER.v))) (qa_nil))))))
theorem sc_wrong_button : FnScope (["value", "at", "move"] : List Str) (["value"] : List Str) (defScope s_wrong_button) := ⟨rfl, rfl, rfl, by decide +kernel, rfl, by decide +kernel, by decide +kernel⟩
theorem ok_wrong_button (F : FunD K "wrong_button" "wrong_button" (defArgs s_wrong_button) (defBody s_wrong_button) (defScope s_wrong_button) [] [] f fd) (b_enumerate : mg "enumerate" = none) (b_isinstance : mg "isinstance" = none) (b_len : mg "len" = none) (b_tuple : mg "tuple" = none) (k_MOST_BUTTONS : GloC K mg "MOST_BUTTONS" (.int 5)) (c_is_button : FnG P w K mg base "is_button" 3 m_is_button) : Pm P w K mg base (L2.CX P w) 4 f fd (["value"] : List Str) (spM K m_wrong_button) := by unfold m_wrong_button; exact fn_ok F sc_wrong_button rfl rfl fun cdv A outer s H E hr => have hu := hr.units; have hg := hr.g; qs_cons (q_ifS (qt_w (qw_or (qt_not (qt_tru (q_callB (cd_isa) b_isinstance rfl (qa_cons (qv 0) (qa_cons (q_ty b_tuple rfl) (qa_nil)))))) (qw_one_or (qt_cmp (od_eq hu) (q_callB (cd_len) b_len rfl (qa_cons (qv 0) (qa_nil))) (q_int))))) (qs_one (q_ret (q_neg (q_int)))) (qs_nil)) (qs_cons (q_for (passes_of rfl) rfl (qi_enum b_enumerate (qa_cons (qv 0) (qa_nil))) (qg_tup rfl (qgs_cons (qg_name 1 sc_wrong_button.nd) (qgs_cons (qg_name 2 sc_wrong_button.nd) (qgs_nil)))) (qs_one (q_ifS (qt_w (qw_or (qt_cmp (od_eq hu) (qv 1) (q_glob k_MOST_BUTTONS.v)) (qw_one_or (qt_not (qt_tru (q_call c_is_button (hr.mono (by decide)) (passes_call (takes_of rfl rfl rfl rfl) fun _ _ _ _ h => h) (qa_cons (qv 2) (qa_nil)))))))) (qs_one (q_ret (qv 1))) (qs_nil)))) (qs_one (q_ret (q_non))))
theorem sc_text_lot : FnScope (["value", "lines", "moves", "line"] : List Str) (["value"] : List Str) (defScope s_text_lot) := ⟨rfl, rfl, rfl, by decide +kernel, rfl, by decide +kernel, by decide +kernel⟩
theorem ok_text_lot (F : FunD K "text_lot" "text_lot" (defArgs s_text_lot) (defBody s_text_lot) (defScope s_text_lot) [] [] f fd) (b_all : mg "all" = none) (b_isinstance : mg "isinstance" = none) (b_len : mg "len" = none) (b_str : mg "str" = none) (b_tuple : mg "tuple" = none) (k_WORD : GloC K mg "WORD" (.str "button ")) (mk_Lot : MkS P w K mg base "Lot" 5 m_wrong_button) (c_text_move : FnG P w K mg base "text_move" 2 m_text_move) (c_wrong_button : FnG P w K mg base "wrong_button" 4 m_wrong_button) : Pm P w K mg base (L2.CX P w) 7 f fd (["value"] : List Str) (spM K m_text_lot) := by unfold m_text_lot; exact fn_ok F sc_text_lot rfl rfl fun cdv A outer s H E hr => have hu := hr.units; have hg := hr.g; qs_cons (q_set 1 sc_text_lot.nd (q_if (qt_tru (q_callB (cd_isa) b_isinstance rfl (qa_cons (qv 0) (qa_cons (q_ty b_str rfl) (qa_nil))))) (q_split (qv 0) (q_str)) (q_lst (qa_nil)))) (qs_cons (q_ifS (qt_not (qt_tru (q_callB (cd_all rfl) b_all rfl (qa_cons (q_lc [("line", 3)] fin_L rfl sc_text_lot.nd (qi_seq (qv 1)) (blk rfl (by kernel_rfl) (by kernel_rfl) (by kernel_rfl) (by kernel_rfl)) (qgb_name 3 sc_text_lot.nd) (fun _ _ _ _ _ => qts_nil) (fun _ _ _ _ _ => q_cmp (od_eq hu) (q_sl (qv 3) (qo_none) (qo_some (q_callB (cd_len) b_len rfl (qa_cons (q_glob k_WORD.v) (qa_nil))))) (q_glob k_WORD.v))) (qa_nil))))) (qs_one (q_ret (q_non))) (qs_nil)) (qs_cons (q_set 2 sc_text_lot.nd (q_callTy cd_tuple b_tuple rfl (qa_cons (q_lc [("line", 3)] fin_L rfl sc_text_lot.nd (qi_seq (qv 1)) (blk rfl (by kernel_rfl) (by kernel_rfl) (by kernel_rfl) (by kernel_rfl)) (qgb_name 3 sc_text_lot.nd) (fun _ _ _ _ _ => qts_nil) (fun _ _ _ _ _ => q_call c_text_move (hr.mono (by decide)) passL (qa_cons (q_sl (qv 3) (qo_some (q_callB (cd_len) b_len rfl (qa_cons (q_glob k_WORD.v) (qa_nil)))) (qo_none)) (qa_nil)))) (qa_nil)))) (qs_one (q_ret (q_if (qt_cmp od_is (q_call c_wrong_button (hr.mono (by decide)) (passes_call (takes_of rfl rfl rfl rfl) fun _ _ _ _ h => h) (qa_cons (qv 2) (qa_nil))) (q_non)) (q_makeS mk_Lot (hr.mono (by decide)) (passes_call (takes_of rfl rfl rfl rfl) fun _ _ _ _ h => h) (qa_cons (qv 2) (qa_nil))) (q_non))))))
theorem sc_then_move : FnScope (["one", "other"] : List Str) (["one", "other"] : List Str) (defScope s_then_move) := ⟨rfl, rfl, rfl, by decide +kernel, rfl, by decide +kernel, by decide +kernel⟩
theorem ok_then_move (F : FunD K "then_move" "then_move" (defArgs s_then_move) (defBody s_then_move) (defScope s_then_move) [] [] f fd) : Pm P w K mg base (L2.CX P w) 1 f fd (["one", "other"] : List Str) (spM K m_then_move) := by unfold m_then_move; exact fn_ok F sc_then_move rfl rfl fun cdv A outer s H E hr => have hu := hr.units; have hg := hr.g; qs_one (q_ret (q_tup (qa_cons (q_op od_add (q_ix (qv 0) (q_int)) (q_ix (qv 1) (q_int))) (qa_cons (q_op od_add (q_ix (qv 0) (q_int)) (q_ix (qv 1) (q_int))) (qa_cons (q_op od_add (q_op od_add (q_ix (qv 0) (q_int)) (q_ix (qv 1) (q_int))) (q_op od_mul (q_ix (qv 0) (q_int)) (q_ix (qv 1) (q_int)))) (qa_nil))))))
theorem sc_often_move : FnScope (["move", "many", "x", "y", "s"] : List Str) (["move", "many"] : List Str) (defScope s_often_move) := ⟨rfl, rfl, rfl, by decide +kernel, rfl, by decide +kernel, by decide +kernel⟩
theorem ok_often_move (F : FunD K "often_move" "often_move" (defArgs s_often_move) (defBody s_often_move) (defScope s_often_move) [] [] f fd) : Pm P w K mg base (L2.CX P w) 1 f fd (["move", "many"] : List Str) (spM K m_often_move) := by unfold m_often_move; exact fn_ok F sc_often_move rfl rfl fun cdv A outer s H E hr => have hu := hr.units; have hg := hr.g; qs_cons (q_asg (qv 0) (qg_tup rfl (qgs_cons (qg_name 2 sc_often_move.nd) (qgs_cons (qg_name 3 sc_often_move.nd) (qgs_cons (qg_name 4 sc_often_move.nd) (qgs_nil)))))) (qs_one (q_ret (q_tup (qa_cons (q_op od_mul (qv 1) (qv 2)) (qa_cons (q_op od_mul (qv 1) (qv 3)) (qa_cons (q_op od_add (q_op od_mul (qv 1) (qv 4)) (q_op od_mul (q_op od_mul (q_op od_divI (q_op od_mul (qv 1) (q_op od_subI (qv 1) (q_int))) (q_int)) (qv 2)) (qv 3))) (qa_nil)))))))
theorem sc_Lot__len : FnScope (["self"] : List Str) (["self"] : List Str) (defScope s_Lot__len) := ⟨rfl, rfl, rfl, by decide +kernel, rfl, by decide +kernel, by decide +kernel⟩
theorem ok_Lot__len (F : FunD K "__len__" "Lot.__len__" (defArgs s_Lot__len) (defBody s_Lot__len) (defScope s_Lot__len) [] [] f fd) (b_len : mg "len" = none) (fl_Lot_own_buttons : SltK K "Lot" "own_buttons" 0) : Pm P w K mg base (L2.CX P w) 1 f fd (["self"] : List Str) (spM K m_Lot__len) := by unfold m_Lot__len; exact fn_ok F sc_Lot__len rfl rfl fun cdv A outer s H E hr => have hu := hr.units; have hg := hr.g; qs_one (q_ret (q_callB (cd_len) b_len rfl (qa_cons (q_slt fl_Lot_own_buttons (qv 0)) (qa_nil))))
theorem sc_plan_move : FnScope (["lot", "plan", "depth", "found", "pair", "move"] : List Str) (["lot", "plan", "depth"] : List Str) (defScope s_plan_move) := ⟨rfl, rfl, rfl, by decide +kernel, rfl, by decide +kernel, by decide +kernel⟩
theorem ok_plan_move__0 (F : FunD K "plan_move" "plan_move" (defArgs s_plan_move) (defBody s_plan_move) (defScope s_plan_move) [] [] f fd) : Pm P w K mg base (L2.CX P w) 1 f fd (["lot", "plan", "depth"] : List Str) (spM K m_plan_move__0) := by unfold m_plan_move__0; exact fn_ok F sc_plan_move rfl rfl fun cdv A outer s H E hr => have hu := hr.units; have hg := hr.g; qs_cons q_never (qs_cons q_never (qs_cons q_never (qs_one q_never)))
theorem sc_part_move : FnScope (["lot", "part", "depth"] : List Str) (["lot", "part", "depth"] : List Str) (defScope s_part_move) := ⟨rfl, rfl, rfl, by decide +kernel, rfl, by decide +kernel, by decide +kernel⟩
theorem ok_part_move__1 (F : FunD K "part_move" "part_move" (defArgs s_part_move) (defBody s_part_move) (defScope s_part_move) [] [] f fd) (b_isinstance : mg "isinstance" = none) (b_len : mg "len" = none) (b_tuple : mg "tuple" = none) (fl_Lot_own_buttons : SltK K "Lot" "own_buttons" 0) (c_is_integer : FnG P w K mg base "is_integer" 1 m_is_integer) (c_plan_move__0 : FnG P w K mg base "plan_move" 1 m_plan_move__0) (me_Lot__len : MethG P w K mg base "Lot" "__len__" 1 m_Lot__len) : Pm P w K mg base (L2.CX P w) 4 f fd (["lot", "part", "depth"] : List Str) (spM K m_part_move__1) := by unfold m_part_move__1; exact fn_ok F sc_part_move rfl rfl fun cdv A outer s H E hr => have hu := hr.units; have hg := hr.g; qs_cons (q_ifS (qt_tru (q_callB (cd_isa) b_isinstance rfl (qa_cons (qv 1) (qa_cons (q_ty b_tuple rfl) (qa_nil))))) (qs_one (q_ret (q_call c_plan_move__0 (hr.mono (by decide)) (passes_call (takes_of rfl rfl rfl rfl) fun _ _ _ _ h => h) (qa_cons (qv 0) (qa_cons (qv 1) (qa_cons (q_op od_subI (qv 2) (q_int)) (qa_nil))))))) (qs_nil)) (qs_cons (q_ifS (qt_w (qw_or (qt_not (qt_tru (q_call c_is_integer (hr.mono (by decide)) (passes_call (takes_of rfl rfl rfl rfl) fun _ _ _ _ h => h) (qa_cons (qv 1) (qa_nil))))) (qw_one_or (qt_not (qt_chain od_le od_lt (q_int) (qv 1) (q_lenO me_Lot__len (hr.mono (by decide)) (passes_call (takes_of rfl rfl rfl rfl) fun _ _ _ _ h => h) b_len (qv 0))))))) (qs_one (q_ret (q_non))) (qs_nil)) (qs_one (q_ret (q_ix (q_slt fl_Lot_own_buttons (qv 0)) (qv 1)))))
theorem ok_plan_move__2 (F : FunD K "plan_move" "plan_move" (defArgs s_plan_move) (defBody s_plan_move) (defScope s_plan_move) [] [] f fd) (b_isinstance : mg "isinstance" = none) (b_len : mg "len" = none) (b_tuple : mg "tuple" = none) (k_PLAIN : GloC K mg "PLAIN" (.tup [.int 0, .int 0, .int 0])) (c_is_integer : FnG P w K mg base "is_integer" 1 m_is_integer) (c_often_move : FnG P w K mg base "often_move" 1 m_often_move) (c_part_move__1 : FnG P w K mg base "part_move" 4 m_part_move__1) (c_then_move : FnG P w K mg base "then_move" 1 m_then_move) : Pm P w K mg base (L2.CX P w) 5 f fd (["lot", "plan", "depth"] : List Str) (spM K m_plan_move__2) := by unfold m_plan_move__2; exact fn_ok F sc_plan_move rfl rfl fun cdv A outer s H E hr => have hu := hr.units; have hg := hr.g; qs_cons (q_ifS (qt_w (qw_or (qt_not (qt_tru (q_callB (cd_isa) b_isinstance rfl (qa_cons (qv 1) (qa_cons (q_ty b_tuple rfl) (qa_nil)))))) (qw_one_or (qt_cmp (od_eq hu) (qv 2) (q_int))))) (qs_one (q_ret (q_non))) (qs_nil)) (qs_cons (q_set 3 sc_plan_move.nd (q_glob k_PLAIN.v)) (qs_cons (q_for (passes_of rfl) rfl (qi_seq (qv 1)) (qg_name 4 sc_plan_move.nd) (qs_cons (q_ifS (qt_w (qw_or (qt_not (qt_tru (q_callB (cd_isa) b_isinstance rfl (qa_cons (qv 4) (qa_cons (q_ty b_tuple rfl) (qa_nil)))))) (qw_or (qt_cmp (od_ne hu) (q_callB (cd_len) b_len rfl (qa_cons (qv 4) (qa_nil))) (q_int)) (qw_or (qt_not (qt_tru (q_call c_is_integer (hr.mono (by decide)) (passes_call (takes_of rfl rfl rfl rfl) fun _ _ _ _ h => h) (qa_cons (q_ix (qv 4) (q_int)) (qa_nil))))) (qw_one_or (qt_cmp (od_eq hu) (q_ix (qv 4) (q_int)) (q_int))))))) (qs_one (q_ret (q_non))) (qs_nil)) (qs_cons (q_set 5 sc_plan_move.nd (q_call c_part_move__1 (hr.mono (by decide)) (passes_call (takes_of rfl rfl rfl rfl) fun _ _ _ _ h => h) (qa_cons (qv 0) (qa_cons (q_ix (qv 4) (q_int)) (qa_cons (qv 2) (qa_nil)))))) (qs_cons (q_ifS (qt_cmp od_is (qv 5) (q_non)) (qs_one (q_ret (q_non))) (qs_nil)) (qs_one (q_set 3 sc_plan_move.nd (q_call c_then_move (hr.mono (by decide)) (passes_call (takes_of rfl rfl rfl rfl) fun _ _ _ _ h => h) (qa_cons (qv 3) (qa_cons (q_call c_often_move (hr.mono (by decide)) (passes_call (takes_of rfl rfl rfl rfl) fun _ _ _ _ h => h) (qa_cons (qv 5) (qa_cons (q_ix (qv 4) (q_int)) (qa_nil)))) (qa_nil)))))))))) (qs_one (q_ret (qv 3)))))
theorem ok_part_move__3 (F : FunD K "part_move" "part_move" (defArgs s_part_move) (defBody s_part_move) (defScope s_part_move) [] [] f fd) (b_isinstance : mg "isinstance" = none) (b_len : mg "len" = none) (b_tuple : mg "tuple" = none) (fl_Lot_own_buttons : SltK K "Lot" "own_buttons" 0) (c_is_integer : FnG P w K mg base "is_integer" 1 m_is_integer) (c_plan_move__2 : FnG P w K mg base "plan_move" 5 m_plan_move__2) (me_Lot__len : MethG P w K mg base "Lot" "__len__" 1 m_Lot__len) : Pm P w K mg base (L2.CX P w) 6 f fd (["lot", "part", "depth"] : List Str) (spM K m_part_move__3) := by unfold m_part_move__3; exact fn_ok F sc_part_move rfl rfl fun cdv A outer s H E hr => have hu := hr.units; have hg := hr.g; qs_cons (q_ifS (qt_tru (q_callB (cd_isa) b_isinstance rfl (qa_cons (qv 1) (qa_cons (q_ty b_tuple rfl) (qa_nil))))) (qs_one (q_ret (q_call c_plan_move__2 (hr.mono (by decide)) (passes_call (takes_of rfl rfl rfl rfl) fun _ _ _ _ h => h) (qa_cons (qv 0) (qa_cons (qv 1) (qa_cons (q_op od_subI (qv 2) (q_int)) (qa_nil))))))) (qs_nil)) (qs_cons (q_ifS (qt_w (qw_or (qt_not (qt_tru (q_call c_is_integer (hr.mono (by decide)) (passes_call (takes_of rfl rfl rfl rfl) fun _ _ _ _ h => h) (qa_cons (qv 1) (qa_nil))))) (qw_one_or (qt_not (qt_chain od_le od_lt (q_int) (qv 1) (q_lenO me_Lot__len (hr.mono (by decide)) (passes_call (takes_of rfl rfl rfl rfl) fun _ _ _ _ h => h) b_len (qv 0))))))) (qs_one (q_ret (q_non))) (qs_nil)) (qs_one (q_ret (q_ix (q_slt fl_Lot_own_buttons (qv 0)) (qv 1)))))
theorem ok_plan_move__4 (F : FunD K "plan_move" "plan_move" (defArgs s_plan_move) (defBody s_plan_move) (defScope s_plan_move) [] [] f fd) (b_isinstance : mg "isinstance" = none) (b_len : mg "len" = none) (b_tuple : mg "tuple" = none) (k_PLAIN : GloC K mg "PLAIN" (.tup [.int 0, .int 0, .int 0])) (c_is_integer : FnG P w K mg base "is_integer" 1 m_is_integer) (c_often_move : FnG P w K mg base "often_move" 1 m_often_move) (c_part_move__3 : FnG P w K mg base "part_move" 6 m_part_move__3) (c_then_move : FnG P w K mg base "then_move" 1 m_then_move) : Pm P w K mg base (L2.CX P w) 7 f fd (["lot", "plan", "depth"] : List Str) (spM K m_plan_move__4) := by unfold m_plan_move__4; exact fn_ok F sc_plan_move rfl rfl fun cdv A outer s H E hr => have hu := hr.units; have hg := hr.g; qs_cons (q_ifS (qt_w (qw_or (qt_not (qt_tru (q_callB (cd_isa) b_isinstance rfl (qa_cons (qv 1) (qa_cons (q_ty b_tuple rfl) (qa_nil)))))) (qw_one_or (qt_cmp (od_eq hu) (qv 2) (q_int))))) (qs_one (q_ret (q_non))) (qs_nil)) (qs_cons (q_set 3 sc_plan_move.nd (q_glob k_PLAIN.v)) (qs_cons (q_for (passes_of rfl) rfl (qi_seq (qv 1)) (qg_name 4 sc_plan_move.nd) (qs_cons (q_ifS (qt_w (qw_or (qt_not (qt_tru (q_callB (cd_isa) b_isinstance rfl (qa_cons (qv 4) (qa_cons (q_ty b_tuple rfl) (qa_nil)))))) (qw_or (qt_cmp (od_ne hu) (q_callB (cd_len) b_len rfl (qa_cons (qv 4) (qa_nil))) (q_int)) (qw_or (qt_not (qt_tru (q_call c_is_integer (hr.mono (by decide)) (passes_call (takes_of rfl rfl rfl rfl) fun _ _ _ _ h => h) (qa_cons (q_ix (qv 4) (q_int)) (qa_nil))))) (qw_one_or (qt_cmp (od_eq hu) (q_ix (qv 4) (q_int)) (q_int))))))) (qs_one (q_ret (q_non))) (qs_nil)) (qs_cons (q_set 5 sc_plan_move.nd (q_call c_part_move__3 (hr.mono (by decide)) (passes_call (takes_of rfl rfl rfl rfl) fun _ _ _ _ h => h) (qa_cons (qv 0) (qa_cons (q_ix (qv 4) (q_int)) (qa_cons (qv 2) (qa_nil)))))) (qs_cons (q_ifS (qt_cmp od_is (qv 5) (q_non)) (qs_one (q_ret (q_non))) (qs_nil)) (qs_one (q_set 3 sc_plan_move.nd (q_call c_then_move (hr.mono (by decide)) (passes_call (takes_of rfl rfl rfl rfl) fun _ _ _ _ h => h) (qa_cons (qv 3) (qa_cons (q_call c_often_move (hr.mono (by decide)) (passes_call (takes_of rfl rfl rfl rfl) fun _ _ _ _ h => h) (qa_cons (qv 5) (qa_cons (q_ix (qv 4) (q_int)) (qa_nil)))) (qa_nil)))))))))) (qs_one (q_ret (qv 3)))))
theorem ok_part_move__5 (F : FunD K "part_move" "part_move" (defArgs s_part_move) (defBody s_part_move) (defScope s_part_move) [] [] f fd) (b_isinstance : mg "isinstance" = none) (b_len : mg "len" = none) (b_tuple : mg "tuple" = none) (fl_Lot_own_buttons : SltK K "Lot" "own_buttons" 0) (c_is_integer : FnG P w K mg base "is_integer" 1 m_is_integer) (c_plan_move__4 : FnG P w K mg base "plan_move" 7 m_plan_move__4) (me_Lot__len : MethG P w K mg base "Lot" "__len__" 1 m_Lot__len) : Pm P w K mg base (L2.CX P w) 8 f fd (["lot", "part", "depth"] : List Str) (spM K m_part_move__5) := by unfold m_part_move__5; exact fn_ok F sc_part_move rfl rfl fun cdv A outer s H E hr => have hu := hr.units; have hg := hr.g; qs_cons (q_ifS (qt_tru (q_callB (cd_isa) b_isinstance rfl (qa_cons (qv 1) (qa_cons (q_ty b_tuple rfl) (qa_nil))))) (qs_one (q_ret (q_call c_plan_move__4 (hr.mono (by decide)) (passes_call (takes_of rfl rfl rfl rfl) fun _ _ _ _ h => h) (qa_cons (qv 0) (qa_cons (qv 1) (qa_cons (q_op od_subI (qv 2) (q_int)) (qa_nil))))))) (qs_nil)) (qs_cons (q_ifS (qt_w (qw_or (qt_not (qt_tru (q_call c_is_integer (hr.mono (by decide)) (passes_call (takes_of rfl rfl rfl rfl) fun _ _ _ _ h => h) (qa_cons (qv 1) (qa_nil))))) (qw_one_or (qt_not (qt_chain od_le od_lt (q_int) (qv 1) (q_lenO me_Lot__len (hr.mono (by decide)) (passes_call (takes_of rfl rfl rfl rfl) fun _ _ _ _ h => h) b_len (qv 0))))))) (qs_one (q_ret (q_non))) (qs_nil)) (qs_one (q_ret (q_ix (q_slt fl_Lot_own_buttons (qv 0)) (qv 1)))))
theorem ok_plan_move__6 (F : FunD K "plan_move" "plan_move" (defArgs s_plan_move) (defBody s_plan_move) (defScope s_plan_move) [] [] f fd) (b_isinstance : mg "isinstance" = none) (b_len : mg "len" = none) (b_tuple : mg "tuple" = none) (k_PLAIN : GloC K mg "PLAIN" (.tup [.int 0, .int 0, .int 0])) (c_is_integer : FnG P w K mg base "is_integer" 1 m_is_integer) (c_often_move : FnG P w K mg base "often_move" 1 m_often_move) (c_part_move__5 : FnG P w K mg base "part_move" 8 m_part_move__5) (c_then_move : FnG P w K mg base "then_move" 1 m_then_move) : Pm P w K mg base (L2.CX P w) 9 f fd (["lot", "plan", "depth"] : List Str) (spM K m_plan_move__6) := by unfold m_plan_move__6; exact fn_ok F sc_plan_move rfl rfl fun cdv A outer s H E hr => have hu := hr.units; have hg := hr.g; qs_cons (q_ifS (qt_w (qw_or (qt_not (qt_tru (q_callB (cd_isa) b_isinstance rfl (qa_cons (qv 1) (qa_cons (q_ty b_tuple rfl) (qa_nil)))))) (qw_one_or (qt_cmp (od_eq hu) (qv 2) (q_int))))) (qs_one (q_ret (q_non))) (qs_nil)) (qs_cons (q_set 3 sc_plan_move.nd (q_glob k_PLAIN.v)) (qs_cons (q_for (passes_of rfl) rfl (qi_seq (qv 1)) (qg_name 4 sc_plan_move.nd) (qs_cons (q_ifS (qt_w (qw_or (qt_not (qt_tru (q_callB (cd_isa) b_isinstance rfl (qa_cons (qv 4) (qa_cons (q_ty b_tuple rfl) (qa_nil)))))) (qw_or (qt_cmp (od_ne hu) (q_callB (cd_len) b_len rfl (qa_cons (qv 4) (qa_nil))) (q_int)) (qw_or (qt_not (qt_tru (q_call c_is_integer (hr.mono (by decide)) (passes_call (takes_of rfl rfl rfl rfl) fun _ _ _ _ h => h) (qa_cons (q_ix (qv 4) (q_int)) (qa_nil))))) (qw_one_or (qt_cmp (od_eq hu) (q_ix (qv 4) (q_int)) (q_int))))))) (qs_one (q_ret (q_non))) (qs_nil)) (qs_cons (q_set 5 sc_plan_move.nd (q_call c_part_move__5 (hr.mono (by decide)) (passes_call (takes_of rfl rfl rfl rfl) fun _ _ _ _ h => h) (qa_cons (qv 0) (qa_cons (q_ix (qv 4) (q_int)) (qa_cons (qv 2) (qa_nil)))))) (qs_cons (q_ifS (qt_cmp od_is (qv 5) (q_non)) (qs_one (q_ret (q_non))) (qs_nil)) (qs_one (q_set 3 sc_plan_move.nd (q_call c_then_move (hr.mono (by decide)) (passes_call (takes_of rfl rfl rfl rfl) fun _ _ _ _ h => h) (qa_cons (qv 3) (qa_cons (q_call c_often_move (hr.mono (by decide)) (passes_call (takes_of rfl rfl rfl rfl) fun _ _ _ _ h => h) (qa_cons (qv 5) (qa_cons (q_ix (qv 4) (q_int)) (qa_nil)))) (qa_nil)))))))))) (qs_one (q_ret (qv 3)))))
theorem ok_part_move__7 (F : FunD K "part_move" "part_move" (defArgs s_part_move) (defBody s_part_move) (defScope s_part_move) [] [] f fd) (b_isinstance : mg "isinstance" = none) (b_len : mg "len" = none) (b_tuple : mg "tuple" = none) (fl_Lot_own_buttons : SltK K "Lot" "own_buttons" 0) (c_is_integer : FnG P w K mg base "is_integer" 1 m_is_integer) (c_plan_move__6 : FnG P w K mg base "plan_move" 9 m_plan_move__6) (me_Lot__len : MethG P w K mg base "Lot" "__len__" 1 m_Lot__len) : Pm P w K mg base (L2.CX P w) 10 f fd (["lot", "part", "depth"] : List Str) (spM K m_part_move__7) := by unfold m_part_move__7; exact fn_ok F sc_part_move rfl rfl fun cdv A outer s H E hr => have hu := hr.units; have hg := hr.g; qs_cons (q_ifS (qt_tru (q_callB (cd_isa) b_isinstance rfl (qa_cons (qv 1) (qa_cons (q_ty b_tuple rfl) (qa_nil))))) (qs_one (q_ret (q_call c_plan_move__6 (hr.mono (by decide)) (passes_call (takes_of rfl rfl rfl rfl) fun _ _ _ _ h => h) (qa_cons (qv 0) (qa_cons (qv 1) (qa_cons (q_op od_subI (qv 2) (q_int)) (qa_nil))))))) (qs_nil)) (qs_cons (q_ifS (qt_w (qw_or (qt_not (qt_tru (q_call c_is_integer (hr.mono (by decide)) (passes_call (takes_of rfl rfl rfl rfl) fun _ _ _ _ h => h) (qa_cons (qv 1) (qa_nil))))) (qw_one_or (qt_not (qt_chain od_le od_lt (q_int) (qv 1) (q_lenO me_Lot__len (hr.mono (by decide)) (passes_call (takes_of rfl rfl rfl rfl) fun _ _ _ _ h => h) b_len (qv 0))))))) (qs_one (q_ret (q_non))) (qs_nil)) (qs_one (q_ret (q_ix (q_slt fl_Lot_own_buttons (qv 0)) (qv 1)))))
theorem ok_plan_move__8 (F : FunD K "plan_move" "plan_move" (defArgs s_plan_move) (defBody s_plan_move) (defScope s_plan_move) [] [] f fd) (b_isinstance : mg "isinstance" = none) (b_len : mg "len" = none) (b_tuple : mg "tuple" = none) (k_PLAIN : GloC K mg "PLAIN" (.tup [.int 0, .int 0, .int 0])) (c_is_integer : FnG P w K mg base "is_integer" 1 m_is_integer) (c_often_move : FnG P w K mg base "often_move" 1 m_often_move) (c_part_move__7 : FnG P w K mg base "part_move" 10 m_part_move__7) (c_then_move : FnG P w K mg base "then_move" 1 m_then_move) : Pm P w K mg base (L2.CX P w) 11 f fd (["lot", "plan", "depth"] : List Str) (spM K m_plan_move__8) := by unfold m_plan_move__8; exact fn_ok F sc_plan_move rfl rfl fun cdv A outer s H E hr => have hu := hr.units; have hg := hr.g; qs_cons (q_ifS (qt_w (qw_or (qt_not (qt_tru (q_callB (cd_isa) b_isinstance rfl (qa_cons (qv 1) (qa_cons (q_ty b_tuple rfl) (qa_nil)))))) (qw_one_or (qt_cmp (od_eq hu) (qv 2) (q_int))))) (qs_one (q_ret (q_non))) (qs_nil)) (qs_cons (q_set 3 sc_plan_move.nd (q_glob k_PLAIN.v)) (qs_cons (q_for (passes_of rfl) rfl (qi_seq (qv 1)) (qg_name 4 sc_plan_move.nd) (qs_cons (q_ifS (qt_w (qw_or (qt_not (qt_tru (q_callB (cd_isa) b_isinstance rfl (qa_cons (qv 4) (qa_cons (q_ty b_tuple rfl) (qa_nil)))))) (qw_or (qt_cmp (od_ne hu) (q_callB (cd_len) b_len rfl (qa_cons (qv 4) (qa_nil))) (q_int)) (qw_or (qt_not (qt_tru (q_call c_is_integer (hr.mono (by decide)) (passes_call (takes_of rfl rfl rfl rfl) fun _ _ _ _ h => h) (qa_cons (q_ix (qv 4) (q_int)) (qa_nil))))) (qw_one_or (qt_cmp (od_eq hu) (q_ix (qv 4) (q_int)) (q_int))))))) (qs_one (q_ret (q_non))) (qs_nil)) (qs_cons (q_set 5 sc_plan_move.nd (q_call c_part_move__7 (hr.mono (by decide)) (passes_call (takes_of rfl rfl rfl rfl) fun _ _ _ _ h => h) (qa_cons (qv 0) (qa_cons (q_ix (qv 4) (q_int)) (qa_cons (qv 2) (qa_nil)))))) (qs_cons (q_ifS (qt_cmp od_is (qv 5) (q_non)) (qs_one (q_ret (q_non))) (qs_nil)) (qs_one (q_set 3 sc_plan_move.nd (q_call c_then_move (hr.mono (by decide)) (passes_call (takes_of rfl rfl rfl rfl) fun _ _ _ _ h => h) (qa_cons (qv 3) (qa_cons (q_call c_often_move (hr.mono (by decide)) (passes_call (takes_of rfl rfl rfl rfl) fun _ _ _ _ h => h) (qa_cons (qv 5) (qa_cons (q_ix (qv 4) (q_int)) (qa_nil)))) (qa_nil)))))))))) (qs_one (q_ret (qv 3)))))
theorem ok_part_move__9 (F : FunD K "part_move" "part_move" (defArgs s_part_move) (defBody s_part_move) (defScope s_part_move) [] [] f fd) (b_isinstance : mg "isinstance" = none) (b_len : mg "len" = none) (b_tuple : mg "tuple" = none) (fl_Lot_own_buttons : SltK K "Lot" "own_buttons" 0) (c_is_integer : FnG P w K mg base "is_integer" 1 m_is_integer) (c_plan_move__8 : FnG P w K mg base "plan_move" 11 m_plan_move__8) (me_Lot__len : MethG P w K mg base "Lot" "__len__" 1 m_Lot__len) : Pm P w K mg base (L2.CX P w) 12 f fd (["lot", "part", "depth"] : List Str) (spM K m_part_move__9) := by unfold m_part_move__9; exact fn_ok F sc_part_move rfl rfl fun cdv A outer s H E hr => have hu := hr.units; have hg := hr.g; qs_cons (q_ifS (qt_tru (q_callB (cd_isa) b_isinstance rfl (qa_cons (qv 1) (qa_cons (q_ty b_tuple rfl) (qa_nil))))) (qs_one (q_ret (q_call c_plan_move__8 (hr.mono (by decide)) (passes_call (takes_of rfl rfl rfl rfl) fun _ _ _ _ h => h) (qa_cons (qv 0) (qa_cons (qv 1) (qa_cons (q_op od_subI (qv 2) (q_int)) (qa_nil))))))) (qs_nil)) (qs_cons (q_ifS (qt_w (qw_or (qt_not (qt_tru (q_call c_is_integer (hr.mono (by decide)) (passes_call (takes_of rfl rfl rfl rfl) fun _ _ _ _ h => h) (qa_cons (qv 1) (qa_nil))))) (qw_one_or (qt_not (qt_chain od_le od_lt (q_int) (qv 1) (q_lenO me_Lot__len (hr.mono (by decide)) (passes_call (takes_of rfl rfl rfl rfl) fun _ _ _ _ h => h) b_len (qv 0))))))) (qs_one (q_ret (q_non))) (qs_nil)) (qs_one (q_ret (q_ix (q_slt fl_Lot_own_buttons (qv 0)) (qv 1)))))
theorem ok_plan_move__10 (F : FunD K "plan_move" "plan_move" (defArgs s_plan_move) (defBody s_plan_move) (defScope s_plan_move) [] [] f fd) (b_isinstance : mg "isinstance" = none) (b_len : mg "len" = none) (b_tuple : mg "tuple" = none) (k_PLAIN : GloC K mg "PLAIN" (.tup [.int 0, .int 0, .int 0])) (c_is_integer : FnG P w K mg base "is_integer" 1 m_is_integer) (c_often_move : FnG P w K mg base "often_move" 1 m_often_move) (c_part_move__9 : FnG P w K mg base "part_move" 12 m_part_move__9) (c_then_move : FnG P w K mg base "then_move" 1 m_then_move) : Pm P w K mg base (L2.CX P w) 13 f fd (["lot", "plan", "depth"] : List Str) (spM K m_plan_move__10) := by unfold m_plan_move__10; exact fn_ok F sc_plan_move rfl rfl fun cdv A outer s H E hr => have hu := hr.units; have hg := hr.g; qs_cons (q_ifS (qt_w (qw_or (qt_not (qt_tru (q_callB (cd_isa) b_isinstance rfl (qa_cons (qv 1) (qa_cons (q_ty b_tuple rfl) (qa_nil)))))) (qw_one_or (qt_cmp (od_eq hu) (qv 2) (q_int))))) (qs_one (q_ret (q_non))) (qs_nil)) (qs_cons (q_set 3 sc_plan_move.nd (q_glob k_PLAIN.v)) (qs_cons (q_for (passes_of rfl) rfl (qi_seq (qv 1)) (qg_name 4 sc_plan_move.nd) (qs_cons (q_ifS (qt_w (qw_or (qt_not (qt_tru (q_callB (cd_isa) b_isinstance rfl (qa_cons (qv 4) (qa_cons (q_ty b_tuple rfl) (qa_nil)))))) (qw_or (qt_cmp (od_ne hu) (q_callB (cd_len) b_len rfl (qa_cons (qv 4) (qa_nil))) (q_int)) (qw_or (qt_not (qt_tru (q_call c_is_integer (hr.mono (by decide)) (passes_call (takes_of rfl rfl rfl rfl) fun _ _ _ _ h => h) (qa_cons (q_ix (qv 4) (q_int)) (qa_nil))))) (qw_one_or (qt_cmp (od_eq hu) (q_ix (qv 4) (q_int)) (q_int))))))) (qs_one (q_ret (q_non))) (qs_nil)) (qs_cons (q_set 5 sc_plan_move.nd (q_call c_part_move__9 (hr.mono (by decide)) (passes_call (takes_of rfl rfl rfl rfl) fun _ _ _ _ h => h) (qa_cons (qv 0) (qa_cons (q_ix (qv 4) (q_int)) (qa_cons (qv 2) (qa_nil)))))) (qs_cons (q_ifS (qt_cmp od_is (qv 5) (q_non)) (qs_one (q_ret (q_non))) (qs_nil)) (qs_one (q_set 3 sc_plan_move.nd (q_call c_then_move (hr.mono (by decide)) (passes_call (takes_of rfl rfl rfl rfl) fun _ _ _ _ h => h) (qa_cons (qv 3) (qa_cons (q_call c_often_move (hr.mono (by decide)) (passes_call (takes_of rfl rfl rfl rfl) fun _ _ _ _ h => h) (qa_cons (qv 5) (qa_cons (q_ix (qv 4) (q_int)) (qa_nil)))) (qa_nil)))))))))) (qs_one (q_ret (qv 3)))))
theorem ok_part_move__11 (F : FunD K "part_move" "part_move" (defArgs s_part_move) (defBody s_part_move) (defScope s_part_move) [] [] f fd) (b_isinstance : mg "isinstance" = none) (b_len : mg "len" = none) (b_tuple : mg "tuple" = none) (fl_Lot_own_buttons : SltK K "Lot" "own_buttons" 0) (c_is_integer : FnG P w K mg base "is_integer" 1 m_is_integer) (c_plan_move__10 : FnG P w K mg base "plan_move" 13 m_plan_move__10) (me_Lot__len : MethG P w K mg base "Lot" "__len__" 1 m_Lot__len) : Pm P w K mg base (L2.CX P w) 14 f fd (["lot", "part", "depth"] : List Str) (spM K m_part_move__11) := by unfold m_part_move__11; exact fn_ok F sc_part_move rfl rfl fun cdv A outer s H E hr => have hu := hr.units; have hg := hr.g; qs_cons (q_ifS (qt_tru (q_callB (cd_isa) b_isinstance rfl (qa_cons (qv 1) (qa_cons (q_ty b_tuple rfl) (qa_nil))))) (qs_one (q_ret (q_call c_plan_move__10 (hr.mono (by decide)) (passes_call (takes_of rfl rfl rfl rfl) fun _ _ _ _ h => h) (qa_cons (qv 0) (qa_cons (qv 1) (qa_cons (q_op od_subI (qv 2) (q_int)) (qa_nil))))))) (qs_nil)) (qs_cons (q_ifS (qt_w (qw_or (qt_not (qt_tru (q_call c_is_integer (hr.mono (by decide)) (passes_call (takes_of rfl rfl rfl rfl) fun _ _ _ _ h => h) (qa_cons (qv 1) (qa_nil))))) (qw_one_or (qt_not (qt_chain od_le od_lt (q_int) (qv 1) (q_lenO me_Lot__len (hr.mono (by decide)) (passes_call (takes_of rfl rfl rfl rfl) fun _ _ _ _ h => h) b_len (qv 0))))))) (qs_one (q_ret (q_non))) (qs_nil)) (qs_one (q_ret (q_ix (q_slt fl_Lot_own_buttons (qv 0)) (qv 1)))))
theorem ok_plan_move__12 (F : FunD K "plan_move" "plan_move" (defArgs s_plan_move) (defBody s_plan_move) (defScope s_plan_move) [] [] f fd) (b_isinstance : mg "isinstance" = none) (b_len : mg "len" = none) (b_tuple : mg "tuple" = none) (k_PLAIN : GloC K mg "PLAIN" (.tup [.int 0, .int 0, .int 0])) (c_is_integer : FnG P w K mg base "is_integer" 1 m_is_integer) (c_often_move : FnG P w K mg base "often_move" 1 m_often_move) (c_part_move__11 : FnG P w K mg base "part_move" 14 m_part_move__11) (c_then_move : FnG P w K mg base "then_move" 1 m_then_move) : Pm P w K mg base (L2.CX P w) 15 f fd (["lot", "plan", "depth"] : List Str) (spM K m_plan_move__12) := by unfold m_plan_move__12; exact fn_ok F sc_plan_move rfl rfl fun cdv A outer s H E hr => have hu := hr.units; have hg := hr.g; qs_cons (q_ifS (qt_w (qw_or (qt_not (qt_tru (q_callB (cd_isa) b_isinstance rfl (qa_cons (qv 1) (qa_cons (q_ty b_tuple rfl) (qa_nil)))))) (qw_one_or (qt_cmp (od_eq hu) (qv 2) (q_int))))) (qs_one (q_ret (q_non))) (qs_nil)) (qs_cons (q_set 3 sc_plan_move.nd (q_glob k_PLAIN.v)) (qs_cons (q_for (passes_of rfl) rfl (qi_seq (qv 1)) (qg_name 4 sc_plan_move.nd) (qs_cons (q_ifS (qt_w (qw_or (qt_not (qt_tru (q_callB (cd_isa) b_isinstance rfl (qa_cons (qv 4) (qa_cons (q_ty b_tuple rfl) (qa_nil)))))) (qw_or (qt_cmp (od_ne hu) (q_callB (cd_len) b_len rfl (qa_cons (qv 4) (qa_nil))) (q_int)) (qw_or (qt_not (qt_tru (q_call c_is_integer (hr.mono (by decide)) (passes_call (takes_of rfl rfl rfl rfl) fun _ _ _ _ h => h) (qa_cons (q_ix (qv 4) (q_int)) (qa_nil))))) (qw_one_or (qt_cmp (od_eq hu) (q_ix (qv 4) (q_int)) (q_int))))))) (qs_one (q_ret (q_non))) (qs_nil)) (qs_cons (q_set 5 sc_plan_move.nd (q_call c_part_move__11 (hr.mono (by decide)) (passes_call (takes_of rfl rfl rfl rfl) fun _ _ _ _ h => h) (qa_cons (qv 0) (qa_cons (q_ix (qv 4) (q_int)) (qa_cons (qv 2) (qa_nil)))))) (qs_cons (q_ifS (qt_cmp od_is (qv 5) (q_non)) (qs_one (q_ret (q_non))) (qs_nil)) (qs_one (q_set 3 sc_plan_move.nd (q_call c_then_move (hr.mono (by decide)) (passes_call (takes_of rfl rfl rfl rfl) fun _ _ _ _ h => h) (qa_cons (qv 3) (qa_cons (q_call c_often_move (hr.mono (by decide)) (passes_call (takes_of rfl rfl rfl rfl) fun _ _ _ _ h => h) (qa_cons (qv 5) (qa_cons (q_ix (qv 4) (q_int)) (qa_nil)))) (qa_nil)))))))))) (qs_one (q_ret (qv 3)))))
theorem sc_shows_made : FnScope (["lot", "move", "certificate"] : List Str) (["lot", "move", "certificate"] : List Str) (defScope s_shows_made) := ⟨rfl, rfl, rfl, by decide +kernel, rfl, by decide +kernel, by decide +kernel⟩
theorem ok_shows_made (F : FunD K "shows_made" "shows_made" (defArgs s_shows_made) (defBody s_shows_made) (defScope s_shows_made) [] [] f fd) (k_MOST_DEPTH : GloC K mg "MOST_DEPTH" (.int 5)) (c_is_move : FnG P w K mg base "is_move" 2 m_is_move) (c_plan_move__12 : FnG P w K mg base "plan_move" 15 m_plan_move__12) : Pm P w K mg base (L2.CX P w) 16 f fd (["lot", "move", "certificate"] : List Str) (spM K m_shows_made) := by unfold m_shows_made; exact fn_ok F sc_shows_made rfl rfl fun cdv A outer s H E hr => have hu := hr.units; have hg := hr.g; qs_one (q_ret (q_and (q_call c_is_move (hr.mono (by decide)) (passes_call (takes_of rfl rfl rfl rfl) fun _ _ _ _ h => h) (qa_cons (qv 1) (qa_nil))) (q_one (q_cmp (od_eq hu) (q_call c_plan_move__12 (hr.mono (by decide)) (passes_call (takes_of rfl rfl rfl rfl) fun _ _ _ _ h => h) (qa_cons (qv 0) (qa_cons (qv 2) (qa_cons (q_glob k_MOST_DEPTH.v) (qa_nil))))) (qv 1)))))
theorem sc_rest_of : FnScope (["number", "step"] : List Str) (["number", "step"] : List Str) (defScope s_rest_of) := ⟨rfl, rfl, rfl, by decide +kernel, rfl, by decide +kernel, by decide +kernel⟩
theorem ok_rest_of (F : FunD K "rest_of" "rest_of" (defArgs s_rest_of) (defBody s_rest_of) (defScope s_rest_of) [] [] f fd) : Pm P w K mg base (L2.CX P w) 1 f fd (["number", "step"] : List Str) (spM K m_rest_of) := by unfold m_rest_of; exact fn_ok F sc_rest_of rfl rfl fun cdv A outer s H E hr => have hu := hr.units; have hg := hr.g; qs_one (q_ret (q_if (qt_cmp (od_eq hu) (qv 1) (q_int)) (qv 0) (q_op od_modI (qv 0) (qv 1))))
theorem sc_shares_of : FnScope (["form", "x", "y", "east", "north", "step", "many", "rest"] : List Str) (["form", "x", "y"] : List Str) (defScope s_shares_of) := ⟨rfl, rfl, rfl, by decide +kernel, rfl, by decide +kernel, by decide +kernel⟩
theorem ok_shares_of (F : FunD K "shares_of" "shares_of" (defArgs s_shares_of) (defBody s_shares_of) (defScope s_shares_of) [] [] f fd) : Pm P w K mg base (L2.CX P w) 1 f fd (["form", "x", "y"] : List Str) (spM K m_shares_of) := by unfold m_shares_of; exact fn_ok F sc_shares_of rfl rfl fun cdv A outer s H E hr => have hu := hr.units; have hg := hr.g; qs_cons (q_asg (qv 0) (qg_tup rfl (qgs_cons (qg_name 3 sc_shares_of.nd) (qgs_cons (qg_name 4 sc_shares_of.nd) (qgs_cons (qg_name 5 sc_shares_of.nd) (qgs_nil)))))) (qs_cons (q_ifS (qt_if (qt_cmp (od_eqN hu) (qv 3) (q_tup (qa_nil))) (qt_cmp (od_ne hu) (qv 1) (q_int)) (qt_cmp (od_ne hu) (q_op od_modI (qv 1) (q_ix (qv 3) (q_int))) (q_int))) (qs_one (q_ret (q_non))) (qs_nil)) (qs_cons (q_set 6 sc_shares_of.nd (q_if (qt_cmp (od_eqN hu) (qv 3) (q_tup (qa_nil))) (q_int) (q_op od_divI (qv 1) (q_ix (qv 3) (q_int))))) (qs_cons (q_set 7 sc_shares_of.nd (q_if (qt_cmp (od_eqN hu) (qv 3) (q_tup (qa_nil))) (qv 2) (q_op od_subI (qv 2) (q_op od_mul (qv 6) (q_ix (qv 3) (q_int)))))) (qs_cons (q_ifS (qt_if (qt_cmp (od_eqN hu) (qv 4) (q_tup (qa_nil))) (qt_cmp (od_ne hu) (qv 7) (q_int)) (qt_cmp (od_ne hu) (q_op od_modI (qv 7) (q_ix (qv 4) (q_int))) (q_int))) (qs_one (q_ret (q_non))) (qs_nil)) (qs_one (q_ret (q_tup (qa_cons (qv 6) (qa_cons (q_if (qt_cmp (od_eqN hu) (qv 4) (q_tup (qa_nil))) (q_int) (q_op od_divI (qv 7) (q_ix (qv 4) (q_int)))) (qa_nil))))))))))
theorem sc_led_to : FnScope (["form", "shares", "first"] : List Str) (["form", "shares"] : List Str) (defScope s_led_to) := ⟨rfl, rfl, rfl, by decide +kernel, rfl, by decide +kernel, by decide +kernel⟩
theorem ok_led_to (F : FunD K "led_to" "led_to" (defArgs s_led_to) (defBody s_led_to) (defScope s_led_to) [] [] f fd) (k_PLAIN : GloC K mg "PLAIN" (.tup [.int 0, .int 0, .int 0])) (c_often_move : FnG P w K mg base "often_move" 1 m_often_move) (c_then_move : FnG P w K mg base "then_move" 1 m_then_move) : Pm P w K mg base (L2.CX P w) 2 f fd (["form", "shares"] : List Str) (spM K m_led_to) := by unfold m_led_to; exact fn_ok F sc_led_to rfl rfl fun cdv A outer s H E hr => have hu := hr.units; have hg := hr.g; qs_cons (q_set 2 sc_led_to.nd (q_if (qt_cmp (od_eqN hu) (q_ix (qv 0) (q_int)) (q_tup (qa_nil))) (q_glob k_PLAIN.v) (q_call c_often_move (hr.mono (by decide)) (passes_call (takes_of rfl rfl rfl rfl) fun _ _ _ _ h => h) (qa_cons (q_ix (qv 0) (q_int)) (qa_cons (q_ix (qv 1) (q_int)) (qa_nil)))))) (qs_one (q_ret (q_if (qt_cmp (od_eqN hu) (q_ix (qv 0) (q_int)) (q_tup (qa_nil))) (qv 2) (q_call c_then_move (hr.mono (by decide)) (passes_call (takes_of rfl rfl rfl rfl) fun _ _ _ _ h => h) (qa_cons (qv 2) (qa_cons (q_call c_often_move (hr.mono (by decide)) (passes_call (takes_of rfl rfl rfl rfl) fun _ _ _ _ h => h) (qa_cons (q_ix (qv 0) (q_int)) (qa_cons (q_ix (qv 1) (q_int)) (qa_nil)))) (qa_nil)))))))
theorem sc_tells : FnScope (["form", "move", "shares"] : List Str) (["form", "move"] : List Str) (defScope s_tells) := ⟨rfl, rfl, rfl, by decide +kernel, rfl, by decide +kernel, by decide +kernel⟩
theorem ok_tells (F : FunD K "tells" "tells" (defArgs s_tells) (defBody s_tells) (defScope s_tells) [] [] f fd) (c_led_to : FnG P w K mg base "led_to" 2 m_led_to) (c_rest_of : FnG P w K mg base "rest_of" 1 m_rest_of) (c_shares_of : FnG P w K mg base "shares_of" 1 m_shares_of) : Pm P w K mg base (L2.CX P w) 3 f fd (["form", "move"] : List Str) (spM K m_tells) := by unfold m_tells; exact fn_ok F sc_tells rfl rfl fun cdv A outer s H E hr => have hu := hr.units; have hg := hr.g; qs_cons (q_set 2 sc_tells.nd (q_call c_shares_of (hr.mono (by decide)) (passes_call (takes_of rfl rfl rfl rfl) fun _ _ _ _ h => h) (qa_cons (qv 0) (qa_cons (q_ix (qv 1) (q_int)) (qa_cons (q_ix (qv 1) (q_int)) (qa_nil)))))) (qs_cons (q_ifS (qt_cmp od_is (qv 2) (q_non)) (qs_one (q_ret (q_bl))) (qs_nil)) (qs_one (q_ret (q_cmp (od_eq hu) (q_call c_rest_of (hr.mono (by decide)) (passes_call (takes_of rfl rfl rfl rfl) fun _ _ _ _ h => h) (qa_cons (q_op od_subI (q_ix (qv 1) (q_int)) (q_ix (q_call c_led_to (hr.mono (by decide)) (passes_call (takes_of rfl rfl rfl rfl) fun _ _ _ _ h => h) (qa_cons (qv 0) (qa_cons (qv 2) (qa_nil)))) (q_int))) (qa_cons (q_ix (qv 0) (q_int)) (qa_nil)))) (q_int)))))
theorem sc_is_count : FnScope (["value"] : List Str) (["value"] : List Str) (defScope s_is_count) := ⟨rfl, rfl, rfl, by decide +kernel, rfl, by decide +kernel, by decide +kernel⟩
theorem ok_is_count (F : FunD K "is_count" "is_count" (defArgs s_is_count) (defBody s_is_count) (defScope s_is_count) [] [] f fd) (c_is_integer : FnG P w K mg base "is_integer" 1 m_is_integer) : Pm P w K mg base (L2.CX P w) 2 f fd (["value"] : List Str) (spM K m_is_count) := by unfold m_is_count; exact fn_ok F sc_is_count rfl rfl fun cdv A outer s H E hr => have hu := hr.units; have hg := hr.g; qs_one (q_ret (q_and (q_call c_is_integer (hr.mono (by decide)) (passes_call (takes_of rfl rfl rfl rfl) fun _ _ _ _ h => h) (qa_cons (qv 0) (qa_nil))) (q_one (q_cmp od_ge (qv 0) (q_int)))))
theorem sc_is_within : FnScope (["value", "step"] : List Str) (["value", "step"] : List Str) (defScope s_is_within) := ⟨rfl, rfl, rfl, by decide +kernel, rfl, by decide +kernel, by decide +kernel⟩
theorem ok_is_within (F : FunD K "is_within" "is_within" (defArgs s_is_within) (defBody s_is_within) (defScope s_is_within) [] [] f fd) : Pm P w K mg base (L2.CX P w) 1 f fd (["value", "step"] : List Str) (spM K m_is_within) := by unfold m_is_within; exact fn_ok F sc_is_within rfl rfl fun cdv A outer s H E hr => have hu := hr.units; have hg := hr.g; qs_one (q_ret (q_or (q_cmp (od_eq hu) (qv 1) (q_int)) (q_one (q_chain od_le od_lt (q_int) (qv 0) (qv 1)))))
theorem sc_is_east : FnScope (["value", "form"] : List Str) (["value", "form"] : List Str) (defScope s_is_east) := ⟨rfl, rfl, rfl, by decide +kernel, rfl, by decide +kernel, by decide +kernel⟩
theorem ok_is_east (F : FunD K "is_east" "is_east" (defArgs s_is_east) (defBody s_is_east) (defScope s_is_east) [] [] f fd) (c_is_move : FnG P w K mg base "is_move" 2 m_is_move) (c_is_within : FnG P w K mg base "is_within" 1 m_is_within) : Pm P w K mg base (L2.CX P w) 3 f fd (["value", "form"] : List Str) (spM K m_is_east) := by unfold m_is_east; exact fn_ok F sc_is_east rfl rfl fun cdv A outer s H E hr => have hu := hr.units; have hg := hr.g; qs_cons (q_ifS (qt_w (qw_or (qt_not (qt_tru (q_call c_is_move (hr.mono (by decide)) (passes_call (takes_of rfl rfl rfl rfl) fun _ _ _ _ h => h) (qa_cons (qv 0) (qa_nil))))) (qw_or (qt_cmp od_lt (q_ix (qv 0) (q_int)) (q_int)) (qw_one_or (qt_not (qt_tru (q_call c_is_within (hr.mono (by decide)) (passes_call (takes_of rfl rfl rfl rfl) fun _ _ _ _ h => h) (qa_cons (q_ix (qv 0) (q_int)) (qa_cons (q_ix (qv 1) (q_int)) (qa_nil)))))))))) (qs_one (q_ret (q_bl))) (qs_nil)) (qs_one (q_ret (q_or (q_cmp (od_eqN hu) (q_ix (qv 1) (q_int)) (q_tup (qa_nil))) (q_one (q_and (q_chain od_le od_lt (q_int) (q_ix (qv 0) (q_int)) (q_ix (q_ix (qv 1) (q_int)) (q_int))) (q_and (q_cmp od_gt (q_ix (qv 1) (q_int)) (q_int)) (q_one (q_cmp (od_eq hu) (q_op od_modI (q_op od_mul (q_ix (qv 0) (q_int)) (q_ix (q_ix (qv 1) (q_int)) (q_int))) (q_ix (qv 1) (q_int))) (q_int)))))))))
theorem sc_is_none : FnScope (["value"] : List Str) (["value"] : List Str) (defScope s_is_none) := ⟨rfl, rfl, rfl, by decide +kernel, rfl, by decide +kernel, by decide +kernel⟩
theorem ok_is_none (F : FunD K "is_none" "is_none" (defArgs s_is_none) (defBody s_is_none) (defScope s_is_none) [] [] f fd) (b_isinstance : mg "isinstance" = none) (b_len : mg "len" = none) (b_tuple : mg "tuple" = none) : Pm P w K mg base (L2.CX P w) 1 f fd (["value"] : List Str) (spM K m_is_none) := by unfold m_is_none; exact fn_ok F sc_is_none rfl rfl fun cdv A outer s H E hr => have hu := hr.units; have hg := hr.g; qs_one (q_ret (q_and (q_callB (cd_isa) b_isinstance rfl (qa_cons (qv 0) (qa_cons (q_ty b_tuple rfl) (qa_nil)))) (q_one (q_cmp (od_eq hu) (q_callB (cd_len) b_len rfl (qa_cons (qv 0) (qa_nil))) (q_int)))))
theorem sc_is_north : FnScope (["value", "step"] : List Str) (["value", "step"] : List Str) (defScope s_is_north) := ⟨rfl, rfl, rfl, by decide +kernel, rfl, by decide +kernel, by decide +kernel⟩
theorem ok_is_north (F : FunD K "is_north" "is_north" (defArgs s_is_north) (defBody s_is_north) (defScope s_is_north) [] [] f fd) (c_is_move : FnG P w K mg base "is_move" 2 m_is_move) (c_is_within : FnG P w K mg base "is_within" 1 m_is_within) : Pm P w K mg base (L2.CX P w) 3 f fd (["value", "step"] : List Str) (spM K m_is_north) := by unfold m_is_north; exact fn_ok F sc_is_north rfl rfl fun cdv A outer s H E hr => have hu := hr.units; have hg := hr.g; qs_one (q_ret (q_and (q_call c_is_move (hr.mono (by decide)) (passes_call (takes_of rfl rfl rfl rfl) fun _ _ _ _ h => h) (qa_cons (qv 0) (qa_nil))) (q_and (q_cmp (od_eq hu) (q_ix (qv 0) (q_int)) (q_int)) (q_and (q_cmp od_gt (q_ix (qv 0) (q_int)) (q_int)) (q_one (q_call c_is_within (hr.mono (by decide)) (passes_call (takes_of rfl rfl rfl rfl) fun _ _ _ _ h => h) (qa_cons (q_ix (qv 0) (q_int)) (qa_cons (qv 1) (qa_nil)))))))))
theorem sc_is_form : FnScope (["value"] : List Str) (["value"] : List Str) (defScope s_is_form) := ⟨rfl, rfl, rfl, by decide +kernel, rfl, by decide +kernel, by decide +kernel⟩
theorem ok_is_form (F : FunD K "is_form" "is_form" (defArgs s_is_form) (defBody s_is_form) (defScope s_is_form) [] [] f fd) (b_isinstance : mg "isinstance" = none) (b_len : mg "len" = none) (b_tuple : mg "tuple" = none) (c_is_count : FnG P w K mg base "is_count" 2 m_is_count) (c_is_east : FnG P w K mg base "is_east" 3 m_is_east) (c_is_none : FnG P w K mg base "is_none" 1 m_is_none) (c_is_north : FnG P w K mg base "is_north" 3 m_is_north) : Pm P w K mg base (L2.CX P w) 4 f fd (["value"] : List Str) (spM K m_is_form) := by unfold m_is_form; exact fn_ok F sc_is_form rfl rfl fun cdv A outer s H E hr => have hu := hr.units; have hg := hr.g; qs_cons (q_ifS (qt_w (qw_or (qt_not (qt_tru (q_callB (cd_isa) b_isinstance rfl (qa_cons (qv 0) (qa_cons (q_ty b_tuple rfl) (qa_nil)))))) (qw_or (qt_cmp (od_ne hu) (q_callB (cd_len) b_len rfl (qa_cons (qv 0) (qa_nil))) (q_int)) (qw_one_or (qt_not (qt_tru (q_call c_is_count (hr.mono (by decide)) (passes_call (takes_of rfl rfl rfl rfl) fun _ _ _ _ h => h) (qa_cons (q_ix (qv 0) (q_int)) (qa_nil))))))))) (qs_one (q_ret (q_bl))) (qs_nil)) (qs_cons (q_ifS (qt_w (qw_and (qt_not (qt_tru (q_call c_is_none (hr.mono (by decide)) (passes_call (takes_of rfl rfl rfl rfl) fun _ _ _ _ h => h) (qa_cons (q_ix (qv 0) (q_int)) (qa_nil))))) (qw_one_and (qt_not (qt_tru (q_call c_is_north (hr.mono (by decide)) (passes_call (takes_of rfl rfl rfl rfl) fun _ _ _ _ h => h) (qa_cons (q_ix (qv 0) (q_int)) (qa_cons (q_ix (qv 0) (q_int)) (qa_nil))))))))) (qs_one (q_ret (q_bl))) (qs_nil)) (qs_one (q_ret (q_or (q_call c_is_none (hr.mono (by decide)) (passes_call (takes_of rfl rfl rfl rfl) fun _ _ _ _ h => h) (qa_cons (q_ix (qv 0) (q_int)) (qa_nil))) (q_one (q_call c_is_east (hr.mono (by decide)) (passes_call (takes_of rfl rfl rfl rfl) fun _ _ _ _ h => h) (qa_cons (q_ix (qv 0) (q_int)) (qa_cons (qv 0) (qa_nil)))))))))
theorem sc_shows_missed : FnScope (["lot", "move", "certificate", "button"] : List Str) (["lot", "move", "certificate"] : List Str) (defScope s_shows_missed) := ⟨rfl, rfl, rfl, by decide +kernel, rfl, by decide +kernel, by decide +kernel⟩
theorem ok_shows_missed (F : FunD K "shows_missed" "shows_missed" (defArgs s_shows_missed) (defBody s_shows_missed) (defScope s_shows_missed) [] [] f fd) (b_all : mg "all" = none) (fl_Lot_own_buttons : SltK K "Lot" "own_buttons" 0) (c_is_form : FnG P w K mg base "is_form" 4 m_is_form) (c_is_move : FnG P w K mg base "is_move" 2 m_is_move) (c_tells : FnG P w K mg base "tells" 3 m_tells) : Pm P w K mg base (L2.CX P w) 5 f fd (["lot", "move", "certificate"] : List Str) (spM K m_shows_missed) := by unfold m_shows_missed; exact fn_ok F sc_shows_missed rfl rfl fun cdv A outer s H E hr => have hu := hr.units; have hg := hr.g; qs_cons (q_ifS (qt_w (qw_or (qt_not (qt_tru (q_call c_is_move (hr.mono (by decide)) (passes_call (takes_of rfl rfl rfl rfl) fun _ _ _ _ h => h) (qa_cons (qv 1) (qa_nil))))) (qw_one_or (qt_not (qt_tru (q_call c_is_form (hr.mono (by decide)) (passes_call (takes_of rfl rfl rfl rfl) fun _ _ _ _ h => h) (qa_cons (qv 2) (qa_nil)))))))) (qs_one (q_ret (q_bl))) (qs_nil)) (qs_one (q_ret (q_and (q_callB (cd_all rfl) b_all rfl (qa_cons (q_lc [("button", 3)] fin_L rfl sc_shows_missed.nd (qi_seq (q_slt fl_Lot_own_buttons (qv 0))) (blk rfl (by kernel_rfl) (by kernel_rfl) (by kernel_rfl) (by kernel_rfl)) (qgb_name 3 sc_shows_missed.nd) (fun _ _ _ _ _ => qts_nil) (fun _ _ _ _ _ => q_call c_tells (hr.mono (by decide)) passL (qa_cons (qv 2) (qa_cons (qv 3) (qa_nil))))) (qa_nil))) (q_one (q_not (q_call c_tells (hr.mono (by decide)) (passes_call (takes_of rfl rfl rfl rfl) fun _ _ _ _ h => h) (qa_cons (qv 2) (qa_cons (qv 1) (qa_nil)))))))))
theorem sc_shows_all : FnScope (["lot", "goals", "plans", "plan", "goal"] : List Str) (["lot", "goals", "plans"] : List Str) (defScope s_shows_all) := ⟨rfl, rfl, rfl, by decide +kernel, rfl, by decide +kernel, by decide +kernel⟩
theorem ok_shows_all (F : FunD K "shows_all" "shows_all" (defArgs s_shows_all) (defBody s_shows_all) (defScope s_shows_all) [] [] f fd) (b_all : mg "all" = none) (b_isinstance : mg "isinstance" = none) (b_len : mg "len" = none) (b_tuple : mg "tuple" = none) (b_zip : mg "zip" = none) (k_MOST_DEPTH : GloC K mg "MOST_DEPTH" (.int 5)) (c_plan_move__12 : FnG P w K mg base "plan_move" 15 m_plan_move__12) : Pm P w K mg base (L2.CX P w) 16 f fd (["lot", "goals", "plans"] : List Str) (spM K m_shows_all) := by unfold m_shows_all; exact fn_ok F sc_shows_all rfl rfl fun cdv A outer s H E hr => have hu := hr.units; have hg := hr.g; qs_cons (q_ifS (qt_w (qw_or (qt_not (qt_tru (q_callB (cd_isa) b_isinstance rfl (qa_cons (qv 2) (qa_cons (q_ty b_tuple rfl) (qa_nil)))))) (qw_one_or (qt_cmp (od_ne hu) (q_callB (cd_len) b_len rfl (qa_cons (qv 2) (qa_nil))) (q_callB (cd_len) b_len rfl (qa_cons (qv 1) (qa_nil))))))) (qs_one (q_ret (q_bl))) (qs_nil)) (qs_one (q_ret (q_callB (cd_all rfl) b_all rfl (qa_cons (q_lc [("plan", 3), ("goal", 4)] fin_L rfl sc_shows_all.nd (qi_zipX b_zip (qa_cons (qv 2) (qa_cons (qv 1) (qa_nil)))) (blk rfl (by kernel_rfl) (by kernel_rfl) (by kernel_rfl) (by kernel_rfl)) (qgb_tup2 3 4 sc_shows_all.nd rfl) (fun _ _ _ _ _ => qts_nil) (fun _ _ _ _ _ => q_cmp (od_eq hu) (q_call c_plan_move__12 (hr.mono (by decide)) passL (qa_cons (qv 0) (qa_cons (qv 3) (qa_cons (q_glob k_MOST_DEPTH.v) (qa_nil))))) (qv 4))) (qa_nil)))))
theorem sc_shows_same : FnScope (["lot", "other", "certificate"] : List Str) (["lot", "other", "certificate"] : List Str) (defScope s_shows_same) := ⟨rfl, rfl, rfl, by decide +kernel, rfl, by decide +kernel, by decide +kernel⟩
theorem ok_shows_same (F : FunD K "shows_same" "shows_same" (defArgs s_shows_same) (defBody s_shows_same) (defScope s_shows_same) [] [] f fd) (b_isinstance : mg "isinstance" = none) (b_len : mg "len" = none) (b_tuple : mg "tuple" = none) (fl_Lot_own_buttons : SltK K "Lot" "own_buttons" 0) (c_shows_all : FnG P w K mg base "shows_all" 16 m_shows_all) : Pm P w K mg base (L2.CX P w) 17 f fd (["lot", "other", "certificate"] : List Str) (spM K m_shows_same) := by unfold m_shows_same; exact fn_ok F sc_shows_same rfl rfl fun cdv A outer s H E hr => have hu := hr.units; have hg := hr.g; qs_cons (q_ifS (qt_w (qw_or (qt_not (qt_tru (q_callB (cd_isa) b_isinstance rfl (qa_cons (qv 2) (qa_cons (q_ty b_tuple rfl) (qa_nil)))))) (qw_one_or (qt_cmp (od_ne hu) (q_callB (cd_len) b_len rfl (qa_cons (qv 2) (qa_nil))) (q_int))))) (qs_one (q_ret (q_bl))) (qs_nil)) (qs_cons (q_ifS (qt_not (qt_tru (q_call c_shows_all (hr.mono (by decide)) (passes_call (takes_of rfl rfl rfl rfl) fun _ _ _ _ h => h) (qa_cons (qv 0) (qa_cons (q_slt fl_Lot_own_buttons (qv 1)) (qa_cons (q_ix (qv 2) (q_int)) (qa_nil))))))) (qs_one (q_ret (q_bl))) (qs_nil)) (qs_one (q_ret (q_call c_shows_all (hr.mono (by decide)) (passes_call (takes_of rfl rfl rfl rfl) fun _ _ _ _ h => h) (qa_cons (qv 1) (qa_cons (q_slt fl_Lot_own_buttons (qv 0)) (qa_cons (q_ix (qv 2) (q_int)) (qa_nil))))))))
theorem sc_undone_move : FnScope (["move"] : List Str) (["move"] : List Str) (defScope s_undone_move) := ⟨rfl, rfl, rfl, by decide +kernel, rfl, by decide +kernel, by decide +kernel⟩
theorem ok_undone_move (F : FunD K "undone_move" "undone_move" (defArgs s_undone_move) (defBody s_undone_move) (defScope s_undone_move) [] [] f fd) : Pm P w K mg base (L2.CX P w) 1 f fd (["move"] : List Str) (spM K m_undone_move) := by unfold m_undone_move; exact fn_ok F sc_undone_move rfl rfl fun cdv A outer s H E hr => have hu := hr.units; have hg := hr.g; qs_one (q_ret (q_tup (qa_cons (q_neg (q_ix (qv 0) (q_int))) (qa_cons (q_neg (q_ix (qv 0) (q_int))) (qa_cons (q_op od_subI (q_op od_mul (q_ix (qv 0) (q_int)) (q_ix (qv 0) (q_int))) (q_ix (qv 0) (q_int))) (qa_nil))))))
theorem sc_around_move : FnScope (["ahead", "move"] : List Str) (["ahead", "move"] : List Str) (defScope s_around_move) := ⟨rfl, rfl, rfl, by decide +kernel, rfl, by decide +kernel, by decide +kernel⟩
theorem ok_around_move (F : FunD K "around_move" "around_move" (defArgs s_around_move) (defBody s_around_move) (defScope s_around_move) [] [] f fd) : Pm P w K mg base (L2.CX P w) 1 f fd (["ahead", "move"] : List Str) (spM K m_around_move) := by unfold m_around_move; exact fn_ok F sc_around_move rfl rfl fun cdv A outer s H E hr => have hu := hr.units; have hg := hr.g; qs_one (q_ret (q_tup (qa_cons (q_ix (qv 1) (q_int)) (qa_cons (q_ix (qv 1) (q_int)) (qa_cons (q_op od_subI (q_op od_add (q_ix (qv 1) (q_int)) (q_op od_mul (q_ix (qv 0) (q_int)) (q_ix (qv 1) (q_int)))) (q_op od_mul (q_ix (qv 0) (q_int)) (q_ix (qv 1) (q_int)))) (qa_nil))))))
theorem sc_shows_moved : FnScope (["lot", "other", "certificate", "ahead", "back", "move"] : List Str) (["lot", "other", "certificate"] : List Str) (defScope s_shows_moved) := ⟨rfl, rfl, rfl, by decide +kernel, rfl, by decide +kernel, by decide +kernel⟩
theorem ok_shows_moved (F : FunD K "shows_moved" "shows_moved" (defArgs s_shows_moved) (defBody s_shows_moved) (defScope s_shows_moved) [] [] f fd) (b_isinstance : mg "isinstance" = none) (b_len : mg "len" = none) (b_tuple : mg "tuple" = none) (fl_Lot_own_buttons : SltK K "Lot" "own_buttons" 0) (c_around_move : FnG P w K mg base "around_move" 1 m_around_move) (c_is_move : FnG P w K mg base "is_move" 2 m_is_move) (c_shows_all : FnG P w K mg base "shows_all" 16 m_shows_all) (c_undone_move : FnG P w K mg base "undone_move" 1 m_undone_move) : Pm P w K mg base (L2.CX P w) 17 f fd (["lot", "other", "certificate"] : List Str) (spM K m_shows_moved) := by unfold m_shows_moved; exact fn_ok F sc_shows_moved rfl rfl fun cdv A outer s H E hr => have hu := hr.units; have hg := hr.g; qs_cons (q_ifS (qt_w (qw_or (qt_not (qt_tru (q_callB (cd_isa) b_isinstance rfl (qa_cons (qv 2) (qa_cons (q_ty b_tuple rfl) (qa_nil)))))) (qw_or (qt_cmp (od_ne hu) (q_callB (cd_len) b_len rfl (qa_cons (qv 2) (qa_nil))) (q_int)) (qw_one_or (qt_not (qt_tru (q_call c_is_move (hr.mono (by decide)) (passes_call (takes_of rfl rfl rfl rfl) fun _ _ _ _ h => h) (qa_cons (q_ix (qv 2) (q_int)) (qa_nil))))))))) (qs_one (q_ret (q_bl))) (qs_nil)) (qs_cons (q_set 3 sc_shows_moved.nd (q_ix (qv 2) (q_int))) (qs_cons (q_set 4 sc_shows_moved.nd (q_call c_undone_move (hr.mono (by decide)) (passes_call (takes_of rfl rfl rfl rfl) fun _ _ _ _ h => h) (qa_cons (qv 3) (qa_nil)))) (qs_cons (q_ifS (qt_not (qt_tru (q_call c_shows_all (hr.mono (by decide)) (passes_call (takes_of rfl rfl rfl rfl) fun _ _ _ _ h => h) (qa_cons (qv 0) (qa_cons (q_lc [("move", 5)] fin_L rfl sc_shows_moved.nd (qi_seq (q_slt fl_Lot_own_buttons (qv 1))) (blk rfl (by kernel_rfl) (by kernel_rfl) (by kernel_rfl) (by kernel_rfl)) (qgb_name 5 sc_shows_moved.nd) (fun _ _ _ _ _ => qts_nil) (fun _ _ _ _ _ => q_call c_around_move (hr.mono (by decide)) passL (qa_cons (qv 4) (qa_cons (qv 5) (qa_nil))))) (qa_cons (q_ix (qv 2) (q_int)) (qa_nil))))))) (qs_one (q_ret (q_bl))) (qs_nil)) (qs_one (q_ret (q_call c_shows_all (hr.mono (by decide)) (passes_call (takes_of rfl rfl rfl rfl) fun _ _ _ _ h => h) (qa_cons (qv 1) (qa_cons (q_lc [("move", 5)] fin_L rfl sc_shows_moved.nd (qi_seq (q_slt fl_Lot_own_buttons (qv 0))) (blk rfl (by kernel_rfl) (by kernel_rfl) (by kernel_rfl) (by kernel_rfl)) (qgb_name 5 sc_shows_moved.nd) (fun _ _ _ _ _ => qts_nil) (fun _ _ _ _ _ => q_call c_around_move (hr.mono (by decide)) passL (qa_cons (qv 3) (qa_cons (qv 5) (qa_nil))))) (qa_cons (q_ix (qv 2) (q_int)) (qa_nil))))))))))
theorem sc_shows_of_lots : FnScope (["claim", "certificate", "lot", "other", "shows"] : List Str) (["claim", "certificate"] : List Str) (defScope s_shows_of_lots) := ⟨rfl, rfl, rfl, by decide +kernel, rfl, by decide +kernel, by decide +kernel⟩
theorem ok_shows_of_lots (F : FunD K "shows_of_lots" "shows_of_lots" (defArgs s_shows_of_lots) (defBody s_shows_of_lots) (defScope s_shows_of_lots) [] [] f fd) (gv_shows_moved : mg "shows_moved" = some (.ref (He.ga K "shows_moved"))) (gv_shows_same : mg "shows_same" = some (.ref (He.ga K "shows_same"))) (c_shows_moved : FnG P w K mg base "shows_moved" 17 m_shows_moved) (c_shows_same : FnG P w K mg base "shows_same" 17 m_shows_same) (c_text_lot : FnG P w K mg base "text_lot" 7 m_text_lot) : Pm P w K mg base (L2.CX P w) 18 f fd (["claim", "certificate"] : List Str) (spM K m_shows_of_lots) := by unfold m_shows_of_lots; exact fn_ok F sc_shows_of_lots rfl rfl fun cdv A outer s H E hr => have hu := hr.units; have hg := hr.g; qs_cons (q_par 2 3 rfl sc_shows_of_lots.nd (qa_cons (q_call c_text_lot (hr.mono (by decide)) (passes_call (takes_of rfl rfl rfl rfl) fun _ _ _ _ h => h) (qa_cons (q_ix (qv 0) (q_int)) (qa_nil))) (qa_cons (q_call c_text_lot (hr.mono (by decide)) (passes_call (takes_of rfl rfl rfl rfl) fun _ _ _ _ h => h) (qa_cons (q_ix (qv 0) (q_int)) (qa_nil))) (qa_nil)))) (qs_cons (q_ifS (qt_w (qw_or (qt_cmp od_is (qv 2) (q_non)) (qw_one_or (qt_cmp od_is (qv 3) (q_non))))) (qs_one (q_ret (q_bl))) (qs_nil)) (qs_cons (q_set 4 sc_shows_of_lots.nd (q_if (qt_cmp (od_eq hu) (q_ix (qv 0) (q_int)) (q_str)) (q_gloV gv_shows_same) (q_gloV gv_shows_moved))) (qs_one (q_ret (q_callV 4 gv_shows_same c_shows_same (hr.mono (by decide)) gv_shows_moved c_shows_moved (hr.mono (by decide)) (passes_call (takes_of rfl rfl rfl rfl) fun _ _ _ _ h => h) (qa_cons (qv 2) (qa_cons (qv 3) (qa_cons (qv 1) (qa_nil)))))))))
theorem sc_shows_of_moves : FnScope (["claim", "certificate"] : List Str) (["claim", "certificate"] : List Str) (defScope s_shows_of_moves) := ⟨rfl, rfl, rfl, by decide +kernel, rfl, by decide +kernel, by decide +kernel⟩
theorem ok_shows_of_moves (F : FunD K "shows_of_moves" "shows_of_moves" (defArgs s_shows_of_moves) (defBody s_shows_of_moves) (defScope s_shows_of_moves) [] [] f fd) (c_around_move : FnG P w K mg base "around_move" 1 m_around_move) (c_is_integer : FnG P w K mg base "is_integer" 1 m_is_integer) (c_is_move : FnG P w K mg base "is_move" 2 m_is_move) (c_often_move : FnG P w K mg base "often_move" 1 m_often_move) : Pm P w K mg base (L2.CX P w) 3 f fd (["claim", "certificate"] : List Str) (spM K m_shows_of_moves) := by unfold m_shows_of_moves; exact fn_ok F sc_shows_of_moves rfl rfl fun cdv A outer s H E hr => have hu := hr.units; have hg := hr.g; qs_cons (q_ifS (qt_w (qw_or (qt_not (qt_tru (q_call c_is_move (hr.mono (by decide)) (passes_call (takes_of rfl rfl rfl rfl) fun _ _ _ _ h => h) (qa_cons (q_ix (qv 0) (q_int)) (qa_nil))))) (qw_one_or (qt_not (qt_tru (q_call c_is_move (hr.mono (by decide)) (passes_call (takes_of rfl rfl rfl rfl) fun _ _ _ _ h => h) (qa_cons (qv 1) (qa_nil)))))))) (qs_one (q_ret (q_bl))) (qs_nil)) (qs_cons (q_ifS (qt_cmp (od_eq hu) (q_ix (qv 0) (q_int)) (q_str)) (qs_one (q_ret (q_and (q_call c_is_move (hr.mono (by decide)) (passes_call (takes_of rfl rfl rfl rfl) fun _ _ _ _ h => h) (qa_cons (q_ix (qv 0) (q_int)) (qa_nil))) (q_one (q_cmp (od_eq hu) (q_call c_around_move (hr.mono (by decide)) (passes_call (takes_of rfl rfl rfl rfl) fun _ _ _ _ h => h) (qa_cons (qv 1) (qa_cons (q_ix (qv 0) (q_int)) (qa_nil)))) (q_ix (qv 0) (q_int))))))) (qs_nil)) (qs_one (q_ret (q_and (q_call c_is_integer (hr.mono (by decide)) (passes_call (takes_of rfl rfl rfl rfl) fun _ _ _ _ h => h) (qa_cons (q_ix (qv 0) (q_int)) (qa_nil))) (q_and (q_cmp od_gt (q_ix (qv 0) (q_int)) (q_int)) (q_one (q_cmp (od_eq hu) (q_call c_often_move (hr.mono (by decide)) (passes_call (takes_of rfl rfl rfl rfl) fun _ _ _ _ h => h) (qa_cons (qv 1) (qa_cons (q_ix (qv 0) (q_int)) (qa_nil)))) (q_ix (qv 0) (q_int)))))))))
theorem sc_accepts : FnScope (["claim", "certificate", "lot", "shows"] : List Str) (["claim", "certificate"] : List Str) (defScope s_accepts) := ⟨rfl, rfl, rfl, by decide +kernel, rfl, by decide +kernel, by decide +kernel⟩
theorem ok_accepts (F : FunD K "accepts" "accepts" (defArgs s_accepts) (defBody s_accepts) (defScope s_accepts) [] [] f fd) (b_isinstance : mg "isinstance" = none) (b_len : mg "len" = none) (b_str : mg "str" = none) (b_tuple : mg "tuple" = none) (k_LENGTHS : DctC K w mg "LENGTHS" [("makes", .int 3), ("misses", .int 3), ("same", .int 3), ("moved", .int 3), ("alike", .int 3), ("root", .int 3)]) (gv_shows_made : mg "shows_made" = some (.ref (He.ga K "shows_made"))) (gv_shows_missed : mg "shows_missed" = some (.ref (He.ga K "shows_missed"))) (c_shows_made : FnG P w K mg base "shows_made" 16 m_shows_made) (c_shows_missed : FnG P w K mg base "shows_missed" 5 m_shows_missed) (c_shows_of_lots : FnG P w K mg base "shows_of_lots" 18 m_shows_of_lots) (c_shows_of_moves : FnG P w K mg base "shows_of_moves" 3 m_shows_of_moves) (c_text_lot : FnG P w K mg base "text_lot" 7 m_text_lot) : Pm P w K mg base (L2.CX P w) 19 f fd (["claim", "certificate"] : List Str) (spM K m_accepts) := by unfold m_accepts; exact fn_ok F sc_accepts rfl rfl fun cdv A outer s H E hr => have hu := hr.units; have hg := hr.g; qs_cons (q_ifS (qt_w (qw_or (qt_not (qt_tru (q_callB (cd_isa) b_isinstance rfl (qa_cons (qv 0) (qa_cons (q_ty b_tuple rfl) (qa_nil)))))) (qw_or (qt_cmp (od_eq hu) (q_callB (cd_len) b_len rfl (qa_cons (qv 0) (qa_nil))) (q_int)) (qw_one_or (qt_not (qt_tru (q_callB (cd_isa) b_isinstance rfl (qa_cons (q_ix (qv 0) (q_int)) (qa_cons (q_ty b_str rfl) (qa_nil)))))))))) (qs_one (q_ret (q_bl))) (qs_nil)) (qs_cons (q_ifS (qt_cmp (od_ne hu) (q_getK k_LENGTHS (q_ix (qv 0) (q_int)) (q_int)) (q_callB (cd_len) b_len rfl (qa_cons (qv 0) (qa_nil)))) (qs_one (q_ret (q_bl))) (qs_nil)) (qs_cons (q_ifS (qt_cmp (od_in hu) (q_ix (qv 0) (q_int)) (q_tup (qa_cons (q_str) (qa_cons (q_str) (qa_nil))))) (qs_one (q_ret (q_call c_shows_of_lots (hr.mono (by decide)) (passes_call (takes_of rfl rfl rfl rfl) fun _ _ _ _ h => h) (qa_cons (qv 0) (qa_cons (qv 1) (qa_nil)))))) (qs_nil)) (qs_cons (q_ifS (qt_cmp (od_in hu) (q_ix (qv 0) (q_int)) (q_tup (qa_cons (q_str) (qa_cons (q_str) (qa_nil))))) (qs_one (q_ret (q_call c_shows_of_moves (hr.mono (by decide)) (passes_call (takes_of rfl rfl rfl rfl) fun _ _ _ _ h => h) (qa_cons (qv 0) (qa_cons (qv 1) (qa_nil)))))) (qs_nil)) (qs_cons (q_set 2 sc_accepts.nd (q_call c_text_lot (hr.mono (by decide)) (passes_call (takes_of rfl rfl rfl rfl) fun _ _ _ _ h => h) (qa_cons (q_ix (qv 0) (q_int)) (qa_nil)))) (qs_cons (q_set 3 sc_accepts.nd (q_if (qt_cmp (od_eq hu) (q_ix (qv 0) (q_int)) (q_str)) (q_gloV gv_shows_made) (q_gloV gv_shows_missed))) (qs_one (q_ret (q_and (q_cmp od_isNot (qv 2) (q_non)) (q_one (q_callV 3 gv_shows_made c_shows_made (hr.mono (by decide)) gv_shows_missed c_shows_missed (hr.mono (by decide)) (passes_call (takes_of rfl rfl rfl rfl) fun _ _ _ _ h => h) (qa_cons (qv 2) (qa_cons (q_ix (qv 0) (q_int)) (qa_cons (qv 1) (qa_nil))))))))))))))
theorem sc__law_draw : FnScope (["well", "many", "digit", "seed"] : List Str) (["well", "many"] : List Str) (defScope s__law_draw) := ⟨rfl, rfl, rfl, by decide +kernel, rfl, by decide +kernel, by decide +kernel⟩
theorem ok__law_draw (F : FunD K "_law_draw" "_law_draw" (defArgs s__law_draw) (defBody s__law_draw) (defScope s__law_draw) [] [] f fd) (b_divmod : mg "divmod" = none) (b_int : mg "int" = none) : Pm P w K mg base (L2.CX P w) 1 f fd (["well", "many"] : List Str) (spM K m__law_draw) := by unfold m__law_draw; exact fn_ok F sc__law_draw rfl rfl fun cdv A outer s H E hr => have hu := hr.units; have hg := hr.g; qs_cons (q_ifS (qt_cmp od_gt (q_ix (qv 0) (q_int)) (q_int)) (qs_cons (q_asg (q_callB (cd_divmod) b_divmod rfl (qa_cons (q_ix (qv 0) (q_int)) (qa_cons (qv 1) (qa_nil)))) (qg_tup rfl (qgs_cons (qg_sub (qv 0) (q_int)) (qgs_cons (qg_name 2 sc__law_draw.nd) (qgs_nil))))) (qs_one (q_ret (qv 2)))) (qs_nil)) (qs_cons (q_asg (q_op od_add (q_ix (qv 0) (q_int)) (q_int)) (qg_sub (qv 0) (q_int))) (qs_cons (q_set 3 sc__law_draw.nd (q_callTy cd_int b_int rfl (qa_cons (q_ix (qv 0) (q_int)) (qa_nil)))) (qs_cons (q_asg (q_op od_modI (q_callTy cd_int b_int rfl (qa_cons (q_op od_add (q_op od_add (q_op od_mul (qv 3) (q_int)) (q_op od_mul (q_ix (qv 0) (q_int)) (q_int))) (q_int)) (qa_nil))) (q_int)) (qg_sub (qv 0) (q_int))) (qs_one (q_ret (q_op od_modI (q_callTy cd_int b_int rfl (qa_cons (q_op od_divI (q_ix (qv 0) (q_int)) (q_int)) (qa_nil))) (qv 1)))))))
theorem sc__law_pick : FnScope (["well", "choices"] : List Str) (["well", "choices"] : List Str) (defScope s__law_pick) := ⟨rfl, rfl, rfl, by decide +kernel, rfl, by decide +kernel, by decide +kernel⟩
theorem ok__law_pick (F : FunD K "_law_pick" "_law_pick" (defArgs s__law_pick) (defBody s__law_pick) (defScope s__law_pick) [] [] f fd) (b_len : mg "len" = none) (c__law_draw : FnG P w K mg base "_law_draw" 1 m__law_draw) : Pm P w K mg base (L2.CX P w) 2 f fd (["well", "choices"] : List Str) (spM K m__law_pick) := by unfold m__law_pick; exact fn_ok F sc__law_pick rfl rfl fun cdv A outer s H E hr => have hu := hr.units; have hg := hr.g; qs_one (q_ret (q_ix (qv 1) (q_call c__law_draw (hr.mono (by decide)) (passes_call (takes_of rfl rfl rfl rfl) fun _ _ _ _ h => h) (qa_cons (qv 0) (qa_cons (q_callB (cd_len) b_len rfl (qa_cons (qv 1) (qa_nil))) (qa_nil))))))
theorem sc__law_great : FnScope (["well", "found", "turn"] : List Str) (["well"] : List Str) (defScope s__law_great) := ⟨rfl, rfl, rfl, by decide +kernel, rfl, by decide +kernel, by decide +kernel⟩
theorem ok__law_great (F : FunD K "_law_great" "_law_great" (defArgs s__law_great) (defBody s__law_great) (defScope s__law_great) [] [] f fd) (b_range : mg "range" = none) (c__law_draw : FnG P w K mg base "_law_draw" 1 m__law_draw) : Pm P w K mg base (L2.CX P w) 2 f fd (["well"] : List Str) (spM K m__law_great) := by unfold m__law_great; exact fn_ok F sc__law_great rfl rfl fun cdv A outer s H E hr => have hu := hr.units; have hg := hr.g; qs_cons (q_set 1 sc__law_great.nd (q_int)) (qs_cons (q_for (passes_of rfl) rfl (qi_range1 b_range (qa_cons (q_op od_add (q_int) (q_call c__law_draw (hr.mono (by decide)) (passes_call (takes_of rfl rfl rfl rfl) fun _ _ _ _ h => h) (qa_cons (qv 0) (qa_cons (q_int) (qa_nil))))) (qa_nil))) (qg_name 2 sc__law_great.nd) (qs_one (q_set 1 sc__law_great.nd (q_op od_add (q_op od_mul (q_int) (qv 1)) (q_call c__law_draw (hr.mono (by decide)) (passes_call (takes_of rfl rfl rfl rfl) fun _ _ _ _ h => h) (qa_cons (qv 0) (qa_cons (q_int) (qa_nil)))))))) (qs_one (q_ret (qv 1))))
theorem sc__law_good : FnScope (["well", "far", "lot_here", "pure", "found", "plain", "single", "lifted"] : List Str) (["well"] : List Str) (defScope s__law_good) := ⟨rfl, rfl, rfl, by decide +kernel, rfl, by decide +kernel, by decide +kernel⟩
theorem ok__law_good (F : FunD K "_law_good" "_law_good" (defArgs s__law_good) (defBody s__law_good) (defScope s__law_good) [] [] f fd) (b_str : mg "str" = none) (c__law_draw : FnG P w K mg base "_law_draw" 1 m__law_draw) (c__law_great : FnG P w K mg base "_law_great" 2 m__law_great) : Pm P w K mg base (L2.CX P w) 3 f fd (["well"] : List Str) (spM K m__law_good) := by unfold m__law_good; exact fn_ok F sc__law_good rfl rfl fun cdv A outer s H E hr => have hu := hr.units; have hg := hr.g; qs_cons (q_set 1 sc__law_good.nd (q_op od_add (q_int) (q_call c__law_great (hr.mono (by decide)) (passes_call (takes_of rfl rfl rfl rfl) fun _ _ _ _ h => h) (qa_cons (qv 0) (qa_nil))))) (qs_cons (q_set 2 sc__law_good.nd (q_op od_add (q_str) (q_callTy (cd_str2 hg hu) b_str rfl (qa_cons (q_op od_mul (q_int) (q_op od_add (q_int) (q_call c__law_draw (hr.mono (by decide)) (passes_call (takes_of rfl rfl rfl rfl) fun _ _ _ _ h => h) (qa_cons (qv 0) (qa_cons (q_int) (qa_nil)))))) (qa_nil))))) (qs_cons (q_set 3 sc__law_good.nd (q_tup (qa_cons (q_tup (qa_cons (q_tup (qa_cons (q_int) (qa_cons (q_int) (qa_nil)))) (qa_cons (q_tup (qa_cons (q_int) (qa_cons (q_int) (qa_nil)))) (qa_cons (q_tup (qa_cons (q_int) (qa_cons (q_neg (q_int)) (qa_nil)))) (qa_cons (q_tup (qa_cons (q_int) (qa_cons (q_neg (q_int)) (qa_nil)))) (qa_nil)))))) (qa_cons (qv 1) (qa_nil))))) (qs_cons (q_set 4 sc__law_good.nd (q_lstM (qa_cons (q_tup (qa_cons (q_tup (qa_cons (q_str) (qa_cons (qv 2) (qa_cons (q_tup (qa_cons (q_int) (qa_cons (q_int) (qa_cons (q_op od_mul (q_int) (qv 1)) (qa_nil))))) (qa_nil))))) (qa_cons (q_tup (qa_cons (qv 3) (qa_nil))) (qa_nil)))) (qa_nil)))) (qs_cons (q_expr (q_append (qv 4) (q_tup (qa_cons (q_tup (qa_cons (q_str) (qa_cons (qv 2) (qa_cons (q_tup (qa_cons (q_int) (qa_cons (q_int) (qa_cons (qv 1) (qa_nil))))) (qa_nil))))) (qa_cons (q_tup (qa_cons (q_tup (qa_cons (q_int) (qa_cons (q_int) (qa_cons (q_int) (qa_nil))))) (qa_cons (q_tup (qa_cons (q_int) (qa_cons (q_int) (qa_cons (q_int) (qa_nil))))) (qa_cons (q_int) (qa_nil))))) (qa_nil)))))) (qs_cons (q_expr (q_append (qv 4) (q_tup (qa_cons (q_tup (qa_cons (q_str) (qa_cons (q_tup (qa_cons (q_int) (qa_cons (q_int) (qa_cons (qv 1) (qa_nil))))) (qa_cons (q_tup (qa_cons (q_int) (qa_cons (q_int) (qa_cons (q_op od_add (qv 1) (q_int)) (qa_nil))))) (qa_nil))))) (qa_cons (q_tup (qa_cons (q_int) (qa_cons (q_int) (qa_cons (qv 1) (qa_nil))))) (qa_nil)))))) (qs_cons (q_expr (q_append (qv 4) (q_tup (qa_cons (q_tup (qa_cons (q_str) (qa_cons (q_tup (qa_cons (q_op od_mul (q_int) (qv 1)) (qa_cons (q_int) (qa_cons (q_op od_mul (q_int) (qv 1)) (qa_nil))))) (qa_cons (q_int) (qa_nil))))) (qa_cons (q_tup (qa_cons (qv 1) (qa_cons (q_int) (qa_cons (qv 1) (qa_nil))))) (qa_nil)))))) (qs_cons (q_par 5 6 rfl sc__law_good.nd (qa_cons (q_op od_add (q_op od_add (q_str) (q_callTy (cd_str2 hg hu) b_str rfl (qa_cons (qv 1) (qa_nil)))) (q_str)) (qa_cons (q_op od_add (q_op od_add (q_str) (q_callTy (cd_str2 hg hu) b_str rfl (qa_cons (q_op od_subI (q_int) (qv 1)) (qa_nil)))) (q_str)) (qa_nil)))) (qs_cons (q_expr (q_append (qv 4) (q_tup (qa_cons (q_tup (qa_cons (q_str) (qa_cons (qv 5) (qa_cons (qv 6) (qa_nil))))) (qa_cons (q_tup (qa_cons (q_tup (qa_cons (q_tup (qa_cons (q_tup (qa_cons (q_int) (qa_cons (q_neg (q_int)) (qa_nil)))) (qa_nil))) (qa_nil))) (qa_cons (q_tup (qa_cons (q_tup (qa_cons (q_tup (qa_cons (q_int) (qa_cons (q_neg (q_int)) (qa_nil)))) (qa_nil))) (qa_nil))) (qa_nil)))) (qa_nil)))))) (qs_cons (q_set 7 sc__law_good.nd (q_op od_add (q_op od_add (q_op od_add (q_str) (q_callTy (cd_str2 hg hu) b_str rfl (qa_cons (qv 1) (qa_nil)))) (q_str)) (q_callTy (cd_str2 hg hu) b_str rfl (qa_cons (qv 1) (qa_nil))))) (qs_cons (q_expr (q_append (qv 4) (q_tup (qa_cons (q_tup (qa_cons (q_str) (qa_cons (qv 5) (qa_cons (qv 7) (qa_nil))))) (qa_cons (q_tup (qa_cons (q_tup (qa_cons (q_int) (qa_cons (q_neg (q_int)) (qa_cons (qv 1) (qa_nil))))) (qa_cons (q_tup (qa_cons (q_tup (qa_cons (q_tup (qa_cons (q_int) (qa_cons (q_int) (qa_nil)))) (qa_nil))) (qa_nil))) (qa_cons (q_tup (qa_cons (q_tup (qa_cons (q_tup (qa_cons (q_int) (qa_cons (q_int) (qa_nil)))) (qa_nil))) (qa_nil))) (qa_nil))))) (qa_nil)))))) (qs_one (q_ret (qv 4)))))))))))))
theorem sc__law_odd : FnScope (["well"] : List Str) (["well"] : List Str) (defScope s__law_odd) := ⟨rfl, rfl, rfl, by decide +kernel, rfl, by decide +kernel, by decide +kernel⟩
theorem ok__law_odd (F : FunD K "_law_odd" "_law_odd" (defArgs s__law_odd) (defBody s__law_odd) (defScope s__law_odd) [] [] f fd) (c__law_pick : FnG P w K mg base "_law_pick" 2 m__law_pick) : Pm P w K mg base (L2.CX P w) 3 f fd (["well"] : List Str) (spM K m__law_odd) := by unfold m__law_odd; exact fn_ok F sc__law_odd rfl rfl fun cdv A outer s H E hr => have hu := hr.units; have hg := hr.g; qs_one (q_ret (q_call c__law_pick (hr.mono (by decide)) (passes_call (takes_of rfl rfl rfl rfl) fun _ _ _ _ h => h) (qa_cons (qv 0) (qa_cons (q_lst (qa_cons (q_bl) (qa_cons (q_emp) (qa_cons (q_lst (qa_nil)) (qa_cons (q_str) (qa_cons (q_tup (qa_cons (q_lst (qa_nil)) (qa_nil))) (qa_cons (q_tup (qa_cons (q_emp) (qa_nil))) (qa_cons (q_lst (qa_cons (q_str) (qa_nil))) (qa_cons (q_str) (qa_cons (q_lst (qa_cons (q_int) (qa_cons (q_int) (qa_nil)))) (qa_cons (q_bl) (qa_cons (q_str) (qa_cons (q_dct1) (qa_cons (q_tup (qa_cons (q_bl) (qa_nil))) (qa_nil))))))))))))))) (qa_nil)))))
theorem sc__law_put : FnScope (["well", "thing", "odd", "deep", "at", "inner"] : List Str) (["well", "thing", "odd", "deep"] : List Str) (defScope s__law_put) := ⟨rfl, rfl, rfl, by decide +kernel, rfl, by decide +kernel, by decide +kernel⟩
theorem ok__law_put__0 (F : FunD K "_law_put" "_law_put" (defArgs s__law_put) (defBody s__law_put) (defScope s__law_put) [] [] f fd) : Pm P w K mg base (L2.CX P w) 1 f fd (["well", "thing", "odd", "deep"] : List Str) (spM K m__law_put__0) := by unfold m__law_put__0; exact fn_ok F sc__law_put rfl rfl fun cdv A outer s H E hr => have hu := hr.units; have hg := hr.g; qs_cons q_never (qs_one q_never)
theorem ok__law_put__1 (F : FunD K "_law_put" "_law_put" (defArgs s__law_put) (defBody s__law_put) (defScope s__law_put) [] [] f fd) (b_isinstance : mg "isinstance" = none) (b_len : mg "len" = none) (b_tuple : mg "tuple" = none) (c__law_draw : FnG P w K mg base "_law_draw" 1 m__law_draw) (c__law_put__0 : FnG P w K mg base "_law_put" 1 m__law_put__0) : Pm P w K mg base (L2.CX P w) 2 f fd (["well", "thing", "odd", "deep"] : List Str) (spM K m__law_put__1) := by unfold m__law_put__1; exact fn_ok F sc__law_put rfl rfl fun cdv A outer s H E hr => have hu := hr.units; have hg := hr.g; qs_cons (q_ifS (qt_w (qw_and (qt_tru (q_callB (cd_isa) b_isinstance rfl (qa_cons (qv 1) (qa_cons (q_ty b_tuple rfl) (qa_nil))))) (qw_and (qt_cmp od_gt (q_callB (cd_len) b_len rfl (qa_cons (qv 1) (qa_nil))) (q_int)) (qw_and (qt_cmp od_gt (qv 3) (q_int)) (qw_one_and (qt_cmp od_gt (q_call c__law_draw (hr.mono (by decide)) (passes_call (takes_of rfl rfl rfl rfl) fun _ _ _ _ h => h) (qa_cons (qv 0) (qa_cons (q_int) (qa_nil)))) (q_int))))))) (qs_cons (q_set 4 sc__law_put.nd (q_call c__law_draw (hr.mono (by decide)) (passes_call (takes_of rfl rfl rfl rfl) fun _ _ _ _ h => h) (qa_cons (qv 0) (qa_cons (q_callB (cd_len) b_len rfl (qa_cons (qv 1) (qa_nil))) (qa_nil))))) (qs_cons (q_set 5 sc__law_put.nd (q_call c__law_put__0 (hr.mono (by decide)) (passes_call (takes_of rfl rfl rfl rfl) fun _ _ _ _ h => h) (qa_cons (qv 0) (qa_cons (q_ix (qv 1) (qv 4)) (qa_cons (qv 2) (qa_cons (q_op od_subI (qv 3) (q_int)) (qa_nil))))))) (qs_one (q_ret (q_op od_add (q_op od_add (q_sl (qv 1) (qo_none) (qo_some (qv 4))) (q_tup (qa_cons (qv 5) (qa_nil)))) (q_sl (qv 1) (qo_some (q_op od_add (qv 4) (q_int))) (qo_none))))))) (qs_nil)) (qs_one (q_ret (qv 2)))
theorem ok__law_put__2 (F : FunD K "_law_put" "_law_put" (defArgs s__law_put) (defBody s__law_put) (defScope s__law_put) [] [] f fd) (b_isinstance : mg "isinstance" = none) (b_len : mg "len" = none) (b_tuple : mg "tuple" = none) (c__law_draw : FnG P w K mg base "_law_draw" 1 m__law_draw) (c__law_put__1 : FnG P w K mg base "_law_put" 2 m__law_put__1) : Pm P w K mg base (L2.CX P w) 3 f fd (["well", "thing", "odd", "deep"] : List Str) (spM K m__law_put__2) := by unfold m__law_put__2; exact fn_ok F sc__law_put rfl rfl fun cdv A outer s H E hr => have hu := hr.units; have hg := hr.g; qs_cons (q_ifS (qt_w (qw_and (qt_tru (q_callB (cd_isa) b_isinstance rfl (qa_cons (qv 1) (qa_cons (q_ty b_tuple rfl) (qa_nil))))) (qw_and (qt_cmp od_gt (q_callB (cd_len) b_len rfl (qa_cons (qv 1) (qa_nil))) (q_int)) (qw_and (qt_cmp od_gt (qv 3) (q_int)) (qw_one_and (qt_cmp od_gt (q_call c__law_draw (hr.mono (by decide)) (passes_call (takes_of rfl rfl rfl rfl) fun _ _ _ _ h => h) (qa_cons (qv 0) (qa_cons (q_int) (qa_nil)))) (q_int))))))) (qs_cons (q_set 4 sc__law_put.nd (q_call c__law_draw (hr.mono (by decide)) (passes_call (takes_of rfl rfl rfl rfl) fun _ _ _ _ h => h) (qa_cons (qv 0) (qa_cons (q_callB (cd_len) b_len rfl (qa_cons (qv 1) (qa_nil))) (qa_nil))))) (qs_cons (q_set 5 sc__law_put.nd (q_call c__law_put__1 (hr.mono (by decide)) (passes_call (takes_of rfl rfl rfl rfl) fun _ _ _ _ h => h) (qa_cons (qv 0) (qa_cons (q_ix (qv 1) (qv 4)) (qa_cons (qv 2) (qa_cons (q_op od_subI (qv 3) (q_int)) (qa_nil))))))) (qs_one (q_ret (q_op od_add (q_op od_add (q_sl (qv 1) (qo_none) (qo_some (qv 4))) (q_tup (qa_cons (qv 5) (qa_nil)))) (q_sl (qv 1) (qo_some (q_op od_add (qv 4) (q_int))) (qo_none))))))) (qs_nil)) (qs_one (q_ret (qv 2)))
theorem ok__law_put__3 (F : FunD K "_law_put" "_law_put" (defArgs s__law_put) (defBody s__law_put) (defScope s__law_put) [] [] f fd) (b_isinstance : mg "isinstance" = none) (b_len : mg "len" = none) (b_tuple : mg "tuple" = none) (c__law_draw : FnG P w K mg base "_law_draw" 1 m__law_draw) (c__law_put__2 : FnG P w K mg base "_law_put" 3 m__law_put__2) : Pm P w K mg base (L2.CX P w) 4 f fd (["well", "thing", "odd", "deep"] : List Str) (spM K m__law_put__3) := by unfold m__law_put__3; exact fn_ok F sc__law_put rfl rfl fun cdv A outer s H E hr => have hu := hr.units; have hg := hr.g; qs_cons (q_ifS (qt_w (qw_and (qt_tru (q_callB (cd_isa) b_isinstance rfl (qa_cons (qv 1) (qa_cons (q_ty b_tuple rfl) (qa_nil))))) (qw_and (qt_cmp od_gt (q_callB (cd_len) b_len rfl (qa_cons (qv 1) (qa_nil))) (q_int)) (qw_and (qt_cmp od_gt (qv 3) (q_int)) (qw_one_and (qt_cmp od_gt (q_call c__law_draw (hr.mono (by decide)) (passes_call (takes_of rfl rfl rfl rfl) fun _ _ _ _ h => h) (qa_cons (qv 0) (qa_cons (q_int) (qa_nil)))) (q_int))))))) (qs_cons (q_set 4 sc__law_put.nd (q_call c__law_draw (hr.mono (by decide)) (passes_call (takes_of rfl rfl rfl rfl) fun _ _ _ _ h => h) (qa_cons (qv 0) (qa_cons (q_callB (cd_len) b_len rfl (qa_cons (qv 1) (qa_nil))) (qa_nil))))) (qs_cons (q_set 5 sc__law_put.nd (q_call c__law_put__2 (hr.mono (by decide)) (passes_call (takes_of rfl rfl rfl rfl) fun _ _ _ _ h => h) (qa_cons (qv 0) (qa_cons (q_ix (qv 1) (qv 4)) (qa_cons (qv 2) (qa_cons (q_op od_subI (qv 3) (q_int)) (qa_nil))))))) (qs_one (q_ret (q_op od_add (q_op od_add (q_sl (qv 1) (qo_none) (qo_some (qv 4))) (q_tup (qa_cons (qv 5) (qa_nil)))) (q_sl (qv 1) (qo_some (q_op od_add (qv 4) (q_int))) (qo_none))))))) (qs_nil)) (qs_one (q_ret (qv 2)))
theorem ok__law_put__4 (F : FunD K "_law_put" "_law_put" (defArgs s__law_put) (defBody s__law_put) (defScope s__law_put) [] [] f fd) (b_isinstance : mg "isinstance" = none) (b_len : mg "len" = none) (b_tuple : mg "tuple" = none) (c__law_draw : FnG P w K mg base "_law_draw" 1 m__law_draw) (c__law_put__3 : FnG P w K mg base "_law_put" 4 m__law_put__3) : Pm P w K mg base (L2.CX P w) 5 f fd (["well", "thing", "odd", "deep"] : List Str) (spM K m__law_put__4) := by unfold m__law_put__4; exact fn_ok F sc__law_put rfl rfl fun cdv A outer s H E hr => have hu := hr.units; have hg := hr.g; qs_cons (q_ifS (qt_w (qw_and (qt_tru (q_callB (cd_isa) b_isinstance rfl (qa_cons (qv 1) (qa_cons (q_ty b_tuple rfl) (qa_nil))))) (qw_and (qt_cmp od_gt (q_callB (cd_len) b_len rfl (qa_cons (qv 1) (qa_nil))) (q_int)) (qw_and (qt_cmp od_gt (qv 3) (q_int)) (qw_one_and (qt_cmp od_gt (q_call c__law_draw (hr.mono (by decide)) (passes_call (takes_of rfl rfl rfl rfl) fun _ _ _ _ h => h) (qa_cons (qv 0) (qa_cons (q_int) (qa_nil)))) (q_int))))))) (qs_cons (q_set 4 sc__law_put.nd (q_call c__law_draw (hr.mono (by decide)) (passes_call (takes_of rfl rfl rfl rfl) fun _ _ _ _ h => h) (qa_cons (qv 0) (qa_cons (q_callB (cd_len) b_len rfl (qa_cons (qv 1) (qa_nil))) (qa_nil))))) (qs_cons (q_set 5 sc__law_put.nd (q_call c__law_put__3 (hr.mono (by decide)) (passes_call (takes_of rfl rfl rfl rfl) fun _ _ _ _ h => h) (qa_cons (qv 0) (qa_cons (q_ix (qv 1) (qv 4)) (qa_cons (qv 2) (qa_cons (q_op od_subI (qv 3) (q_int)) (qa_nil))))))) (qs_one (q_ret (q_op od_add (q_op od_add (q_sl (qv 1) (qo_none) (qo_some (qv 4))) (q_tup (qa_cons (qv 5) (qa_nil)))) (q_sl (qv 1) (qo_some (q_op od_add (qv 4) (q_int))) (qo_none))))))) (qs_nil)) (qs_one (q_ret (qv 2)))
theorem ok__law_put__5 (F : FunD K "_law_put" "_law_put" (defArgs s__law_put) (defBody s__law_put) (defScope s__law_put) [] [] f fd) (b_isinstance : mg "isinstance" = none) (b_len : mg "len" = none) (b_tuple : mg "tuple" = none) (c__law_draw : FnG P w K mg base "_law_draw" 1 m__law_draw) (c__law_put__4 : FnG P w K mg base "_law_put" 5 m__law_put__4) : Pm P w K mg base (L2.CX P w) 6 f fd (["well", "thing", "odd", "deep"] : List Str) (spM K m__law_put__5) := by unfold m__law_put__5; exact fn_ok F sc__law_put rfl rfl fun cdv A outer s H E hr => have hu := hr.units; have hg := hr.g; qs_cons (q_ifS (qt_w (qw_and (qt_tru (q_callB (cd_isa) b_isinstance rfl (qa_cons (qv 1) (qa_cons (q_ty b_tuple rfl) (qa_nil))))) (qw_and (qt_cmp od_gt (q_callB (cd_len) b_len rfl (qa_cons (qv 1) (qa_nil))) (q_int)) (qw_and (qt_cmp od_gt (qv 3) (q_int)) (qw_one_and (qt_cmp od_gt (q_call c__law_draw (hr.mono (by decide)) (passes_call (takes_of rfl rfl rfl rfl) fun _ _ _ _ h => h) (qa_cons (qv 0) (qa_cons (q_int) (qa_nil)))) (q_int))))))) (qs_cons (q_set 4 sc__law_put.nd (q_call c__law_draw (hr.mono (by decide)) (passes_call (takes_of rfl rfl rfl rfl) fun _ _ _ _ h => h) (qa_cons (qv 0) (qa_cons (q_callB (cd_len) b_len rfl (qa_cons (qv 1) (qa_nil))) (qa_nil))))) (qs_cons (q_set 5 sc__law_put.nd (q_call c__law_put__4 (hr.mono (by decide)) (passes_call (takes_of rfl rfl rfl rfl) fun _ _ _ _ h => h) (qa_cons (qv 0) (qa_cons (q_ix (qv 1) (qv 4)) (qa_cons (qv 2) (qa_cons (q_op od_subI (qv 3) (q_int)) (qa_nil))))))) (qs_one (q_ret (q_op od_add (q_op od_add (q_sl (qv 1) (qo_none) (qo_some (qv 4))) (q_tup (qa_cons (qv 5) (qa_nil)))) (q_sl (qv 1) (qo_some (q_op od_add (qv 4) (q_int))) (qo_none))))))) (qs_nil)) (qs_one (q_ret (qv 2)))
theorem ok__law_put__6 (F : FunD K "_law_put" "_law_put" (defArgs s__law_put) (defBody s__law_put) (defScope s__law_put) [] [] f fd) (b_isinstance : mg "isinstance" = none) (b_len : mg "len" = none) (b_tuple : mg "tuple" = none) (c__law_draw : FnG P w K mg base "_law_draw" 1 m__law_draw) (c__law_put__5 : FnG P w K mg base "_law_put" 6 m__law_put__5) : Pm P w K mg base (L2.CX P w) 7 f fd (["well", "thing", "odd", "deep"] : List Str) (spM K m__law_put__6) := by unfold m__law_put__6; exact fn_ok F sc__law_put rfl rfl fun cdv A outer s H E hr => have hu := hr.units; have hg := hr.g; qs_cons (q_ifS (qt_w (qw_and (qt_tru (q_callB (cd_isa) b_isinstance rfl (qa_cons (qv 1) (qa_cons (q_ty b_tuple rfl) (qa_nil))))) (qw_and (qt_cmp od_gt (q_callB (cd_len) b_len rfl (qa_cons (qv 1) (qa_nil))) (q_int)) (qw_and (qt_cmp od_gt (qv 3) (q_int)) (qw_one_and (qt_cmp od_gt (q_call c__law_draw (hr.mono (by decide)) (passes_call (takes_of rfl rfl rfl rfl) fun _ _ _ _ h => h) (qa_cons (qv 0) (qa_cons (q_int) (qa_nil)))) (q_int))))))) (qs_cons (q_set 4 sc__law_put.nd (q_call c__law_draw (hr.mono (by decide)) (passes_call (takes_of rfl rfl rfl rfl) fun _ _ _ _ h => h) (qa_cons (qv 0) (qa_cons (q_callB (cd_len) b_len rfl (qa_cons (qv 1) (qa_nil))) (qa_nil))))) (qs_cons (q_set 5 sc__law_put.nd (q_call c__law_put__5 (hr.mono (by decide)) (passes_call (takes_of rfl rfl rfl rfl) fun _ _ _ _ h => h) (qa_cons (qv 0) (qa_cons (q_ix (qv 1) (qv 4)) (qa_cons (qv 2) (qa_cons (q_op od_subI (qv 3) (q_int)) (qa_nil))))))) (qs_one (q_ret (q_op od_add (q_op od_add (q_sl (qv 1) (qo_none) (qo_some (qv 4))) (q_tup (qa_cons (qv 5) (qa_nil)))) (q_sl (qv 1) (qo_some (q_op od_add (qv 4) (q_int))) (qo_none))))))) (qs_nil)) (qs_one (q_ret (qv 2)))
theorem ok__law_put__7 (F : FunD K "_law_put" "_law_put" (defArgs s__law_put) (defBody s__law_put) (defScope s__law_put) [] [] f fd) (b_isinstance : mg "isinstance" = none) (b_len : mg "len" = none) (b_tuple : mg "tuple" = none) (c__law_draw : FnG P w K mg base "_law_draw" 1 m__law_draw) (c__law_put__6 : FnG P w K mg base "_law_put" 7 m__law_put__6) : Pm P w K mg base (L2.CX P w) 8 f fd (["well", "thing", "odd", "deep"] : List Str) (spM K m__law_put__7) := by unfold m__law_put__7; exact fn_ok F sc__law_put rfl rfl fun cdv A outer s H E hr => have hu := hr.units; have hg := hr.g; qs_cons (q_ifS (qt_w (qw_and (qt_tru (q_callB (cd_isa) b_isinstance rfl (qa_cons (qv 1) (qa_cons (q_ty b_tuple rfl) (qa_nil))))) (qw_and (qt_cmp od_gt (q_callB (cd_len) b_len rfl (qa_cons (qv 1) (qa_nil))) (q_int)) (qw_and (qt_cmp od_gt (qv 3) (q_int)) (qw_one_and (qt_cmp od_gt (q_call c__law_draw (hr.mono (by decide)) (passes_call (takes_of rfl rfl rfl rfl) fun _ _ _ _ h => h) (qa_cons (qv 0) (qa_cons (q_int) (qa_nil)))) (q_int))))))) (qs_cons (q_set 4 sc__law_put.nd (q_call c__law_draw (hr.mono (by decide)) (passes_call (takes_of rfl rfl rfl rfl) fun _ _ _ _ h => h) (qa_cons (qv 0) (qa_cons (q_callB (cd_len) b_len rfl (qa_cons (qv 1) (qa_nil))) (qa_nil))))) (qs_cons (q_set 5 sc__law_put.nd (q_call c__law_put__6 (hr.mono (by decide)) (passes_call (takes_of rfl rfl rfl rfl) fun _ _ _ _ h => h) (qa_cons (qv 0) (qa_cons (q_ix (qv 1) (qv 4)) (qa_cons (qv 2) (qa_cons (q_op od_subI (qv 3) (q_int)) (qa_nil))))))) (qs_one (q_ret (q_op od_add (q_op od_add (q_sl (qv 1) (qo_none) (qo_some (qv 4))) (q_tup (qa_cons (qv 5) (qa_nil)))) (q_sl (qv 1) (qo_some (q_op od_add (qv 4) (q_int))) (qo_none))))))) (qs_nil)) (qs_one (q_ret (qv 2)))
theorem ok__law_put__8 (F : FunD K "_law_put" "_law_put" (defArgs s__law_put) (defBody s__law_put) (defScope s__law_put) [] [] f fd) (b_isinstance : mg "isinstance" = none) (b_len : mg "len" = none) (b_tuple : mg "tuple" = none) (c__law_draw : FnG P w K mg base "_law_draw" 1 m__law_draw) (c__law_put__7 : FnG P w K mg base "_law_put" 8 m__law_put__7) : Pm P w K mg base (L2.CX P w) 9 f fd (["well", "thing", "odd", "deep"] : List Str) (spM K m__law_put__8) := by unfold m__law_put__8; exact fn_ok F sc__law_put rfl rfl fun cdv A outer s H E hr => have hu := hr.units; have hg := hr.g; qs_cons (q_ifS (qt_w (qw_and (qt_tru (q_callB (cd_isa) b_isinstance rfl (qa_cons (qv 1) (qa_cons (q_ty b_tuple rfl) (qa_nil))))) (qw_and (qt_cmp od_gt (q_callB (cd_len) b_len rfl (qa_cons (qv 1) (qa_nil))) (q_int)) (qw_and (qt_cmp od_gt (qv 3) (q_int)) (qw_one_and (qt_cmp od_gt (q_call c__law_draw (hr.mono (by decide)) (passes_call (takes_of rfl rfl rfl rfl) fun _ _ _ _ h => h) (qa_cons (qv 0) (qa_cons (q_int) (qa_nil)))) (q_int))))))) (qs_cons (q_set 4 sc__law_put.nd (q_call c__law_draw (hr.mono (by decide)) (passes_call (takes_of rfl rfl rfl rfl) fun _ _ _ _ h => h) (qa_cons (qv 0) (qa_cons (q_callB (cd_len) b_len rfl (qa_cons (qv 1) (qa_nil))) (qa_nil))))) (qs_cons (q_set 5 sc__law_put.nd (q_call c__law_put__7 (hr.mono (by decide)) (passes_call (takes_of rfl rfl rfl rfl) fun _ _ _ _ h => h) (qa_cons (qv 0) (qa_cons (q_ix (qv 1) (qv 4)) (qa_cons (qv 2) (qa_cons (q_op od_subI (qv 3) (q_int)) (qa_nil))))))) (qs_one (q_ret (q_op od_add (q_op od_add (q_sl (qv 1) (qo_none) (qo_some (qv 4))) (q_tup (qa_cons (qv 5) (qa_nil)))) (q_sl (qv 1) (qo_some (q_op od_add (qv 4) (q_int))) (qo_none))))))) (qs_nil)) (qs_one (q_ret (qv 2)))
theorem ok__law_put__9 (F : FunD K "_law_put" "_law_put" (defArgs s__law_put) (defBody s__law_put) (defScope s__law_put) [] [] f fd) (b_isinstance : mg "isinstance" = none) (b_len : mg "len" = none) (b_tuple : mg "tuple" = none) (c__law_draw : FnG P w K mg base "_law_draw" 1 m__law_draw) (c__law_put__8 : FnG P w K mg base "_law_put" 9 m__law_put__8) : Pm P w K mg base (L2.CX P w) 10 f fd (["well", "thing", "odd", "deep"] : List Str) (spM K m__law_put__9) := by unfold m__law_put__9; exact fn_ok F sc__law_put rfl rfl fun cdv A outer s H E hr => have hu := hr.units; have hg := hr.g; qs_cons (q_ifS (qt_w (qw_and (qt_tru (q_callB (cd_isa) b_isinstance rfl (qa_cons (qv 1) (qa_cons (q_ty b_tuple rfl) (qa_nil))))) (qw_and (qt_cmp od_gt (q_callB (cd_len) b_len rfl (qa_cons (qv 1) (qa_nil))) (q_int)) (qw_and (qt_cmp od_gt (qv 3) (q_int)) (qw_one_and (qt_cmp od_gt (q_call c__law_draw (hr.mono (by decide)) (passes_call (takes_of rfl rfl rfl rfl) fun _ _ _ _ h => h) (qa_cons (qv 0) (qa_cons (q_int) (qa_nil)))) (q_int))))))) (qs_cons (q_set 4 sc__law_put.nd (q_call c__law_draw (hr.mono (by decide)) (passes_call (takes_of rfl rfl rfl rfl) fun _ _ _ _ h => h) (qa_cons (qv 0) (qa_cons (q_callB (cd_len) b_len rfl (qa_cons (qv 1) (qa_nil))) (qa_nil))))) (qs_cons (q_set 5 sc__law_put.nd (q_call c__law_put__8 (hr.mono (by decide)) (passes_call (takes_of rfl rfl rfl rfl) fun _ _ _ _ h => h) (qa_cons (qv 0) (qa_cons (q_ix (qv 1) (qv 4)) (qa_cons (qv 2) (qa_cons (q_op od_subI (qv 3) (q_int)) (qa_nil))))))) (qs_one (q_ret (q_op od_add (q_op od_add (q_sl (qv 1) (qo_none) (qo_some (qv 4))) (q_tup (qa_cons (qv 5) (qa_nil)))) (q_sl (qv 1) (qo_some (q_op od_add (qv 4) (q_int))) (qo_none))))))) (qs_nil)) (qs_one (q_ret (qv 2)))
theorem ok__law_put__10 (F : FunD K "_law_put" "_law_put" (defArgs s__law_put) (defBody s__law_put) (defScope s__law_put) [] [] f fd) (b_isinstance : mg "isinstance" = none) (b_len : mg "len" = none) (b_tuple : mg "tuple" = none) (c__law_draw : FnG P w K mg base "_law_draw" 1 m__law_draw) (c__law_put__9 : FnG P w K mg base "_law_put" 10 m__law_put__9) : Pm P w K mg base (L2.CX P w) 11 f fd (["well", "thing", "odd", "deep"] : List Str) (spM K m__law_put__10) := by unfold m__law_put__10; exact fn_ok F sc__law_put rfl rfl fun cdv A outer s H E hr => have hu := hr.units; have hg := hr.g; qs_cons (q_ifS (qt_w (qw_and (qt_tru (q_callB (cd_isa) b_isinstance rfl (qa_cons (qv 1) (qa_cons (q_ty b_tuple rfl) (qa_nil))))) (qw_and (qt_cmp od_gt (q_callB (cd_len) b_len rfl (qa_cons (qv 1) (qa_nil))) (q_int)) (qw_and (qt_cmp od_gt (qv 3) (q_int)) (qw_one_and (qt_cmp od_gt (q_call c__law_draw (hr.mono (by decide)) (passes_call (takes_of rfl rfl rfl rfl) fun _ _ _ _ h => h) (qa_cons (qv 0) (qa_cons (q_int) (qa_nil)))) (q_int))))))) (qs_cons (q_set 4 sc__law_put.nd (q_call c__law_draw (hr.mono (by decide)) (passes_call (takes_of rfl rfl rfl rfl) fun _ _ _ _ h => h) (qa_cons (qv 0) (qa_cons (q_callB (cd_len) b_len rfl (qa_cons (qv 1) (qa_nil))) (qa_nil))))) (qs_cons (q_set 5 sc__law_put.nd (q_call c__law_put__9 (hr.mono (by decide)) (passes_call (takes_of rfl rfl rfl rfl) fun _ _ _ _ h => h) (qa_cons (qv 0) (qa_cons (q_ix (qv 1) (qv 4)) (qa_cons (qv 2) (qa_cons (q_op od_subI (qv 3) (q_int)) (qa_nil))))))) (qs_one (q_ret (q_op od_add (q_op od_add (q_sl (qv 1) (qo_none) (qo_some (qv 4))) (q_tup (qa_cons (qv 5) (qa_nil)))) (q_sl (qv 1) (qo_some (q_op od_add (qv 4) (q_int))) (qo_none))))))) (qs_nil)) (qs_one (q_ret (qv 2)))
theorem ok__law_put__11 (F : FunD K "_law_put" "_law_put" (defArgs s__law_put) (defBody s__law_put) (defScope s__law_put) [] [] f fd) (b_isinstance : mg "isinstance" = none) (b_len : mg "len" = none) (b_tuple : mg "tuple" = none) (c__law_draw : FnG P w K mg base "_law_draw" 1 m__law_draw) (c__law_put__10 : FnG P w K mg base "_law_put" 11 m__law_put__10) : Pm P w K mg base (L2.CX P w) 12 f fd (["well", "thing", "odd", "deep"] : List Str) (spM K m__law_put__11) := by unfold m__law_put__11; exact fn_ok F sc__law_put rfl rfl fun cdv A outer s H E hr => have hu := hr.units; have hg := hr.g; qs_cons (q_ifS (qt_w (qw_and (qt_tru (q_callB (cd_isa) b_isinstance rfl (qa_cons (qv 1) (qa_cons (q_ty b_tuple rfl) (qa_nil))))) (qw_and (qt_cmp od_gt (q_callB (cd_len) b_len rfl (qa_cons (qv 1) (qa_nil))) (q_int)) (qw_and (qt_cmp od_gt (qv 3) (q_int)) (qw_one_and (qt_cmp od_gt (q_call c__law_draw (hr.mono (by decide)) (passes_call (takes_of rfl rfl rfl rfl) fun _ _ _ _ h => h) (qa_cons (qv 0) (qa_cons (q_int) (qa_nil)))) (q_int))))))) (qs_cons (q_set 4 sc__law_put.nd (q_call c__law_draw (hr.mono (by decide)) (passes_call (takes_of rfl rfl rfl rfl) fun _ _ _ _ h => h) (qa_cons (qv 0) (qa_cons (q_callB (cd_len) b_len rfl (qa_cons (qv 1) (qa_nil))) (qa_nil))))) (qs_cons (q_set 5 sc__law_put.nd (q_call c__law_put__10 (hr.mono (by decide)) (passes_call (takes_of rfl rfl rfl rfl) fun _ _ _ _ h => h) (qa_cons (qv 0) (qa_cons (q_ix (qv 1) (qv 4)) (qa_cons (qv 2) (qa_cons (q_op od_subI (qv 3) (q_int)) (qa_nil))))))) (qs_one (q_ret (q_op od_add (q_op od_add (q_sl (qv 1) (qo_none) (qo_some (qv 4))) (q_tup (qa_cons (qv 5) (qa_nil)))) (q_sl (qv 1) (qo_some (q_op od_add (qv 4) (q_int))) (qo_none))))))) (qs_nil)) (qs_one (q_ret (qv 2)))
theorem ok__law_put__12 (F : FunD K "_law_put" "_law_put" (defArgs s__law_put) (defBody s__law_put) (defScope s__law_put) [] [] f fd) (b_isinstance : mg "isinstance" = none) (b_len : mg "len" = none) (b_tuple : mg "tuple" = none) (c__law_draw : FnG P w K mg base "_law_draw" 1 m__law_draw) (c__law_put__11 : FnG P w K mg base "_law_put" 12 m__law_put__11) : Pm P w K mg base (L2.CX P w) 13 f fd (["well", "thing", "odd", "deep"] : List Str) (spM K m__law_put__12) := by unfold m__law_put__12; exact fn_ok F sc__law_put rfl rfl fun cdv A outer s H E hr => have hu := hr.units; have hg := hr.g; qs_cons (q_ifS (qt_w (qw_and (qt_tru (q_callB (cd_isa) b_isinstance rfl (qa_cons (qv 1) (qa_cons (q_ty b_tuple rfl) (qa_nil))))) (qw_and (qt_cmp od_gt (q_callB (cd_len) b_len rfl (qa_cons (qv 1) (qa_nil))) (q_int)) (qw_and (qt_cmp od_gt (qv 3) (q_int)) (qw_one_and (qt_cmp od_gt (q_call c__law_draw (hr.mono (by decide)) (passes_call (takes_of rfl rfl rfl rfl) fun _ _ _ _ h => h) (qa_cons (qv 0) (qa_cons (q_int) (qa_nil)))) (q_int))))))) (qs_cons (q_set 4 sc__law_put.nd (q_call c__law_draw (hr.mono (by decide)) (passes_call (takes_of rfl rfl rfl rfl) fun _ _ _ _ h => h) (qa_cons (qv 0) (qa_cons (q_callB (cd_len) b_len rfl (qa_cons (qv 1) (qa_nil))) (qa_nil))))) (qs_cons (q_set 5 sc__law_put.nd (q_call c__law_put__11 (hr.mono (by decide)) (passes_call (takes_of rfl rfl rfl rfl) fun _ _ _ _ h => h) (qa_cons (qv 0) (qa_cons (q_ix (qv 1) (qv 4)) (qa_cons (qv 2) (qa_cons (q_op od_subI (qv 3) (q_int)) (qa_nil))))))) (qs_one (q_ret (q_op od_add (q_op od_add (q_sl (qv 1) (qo_none) (qo_some (qv 4))) (q_tup (qa_cons (qv 5) (qa_nil)))) (q_sl (qv 1) (qo_some (q_op od_add (qv 4) (q_int))) (qo_none))))))) (qs_nil)) (qs_one (q_ret (qv 2)))
theorem sc__law_wrong : FnScope (["well", "asked", "way", "words_here", "odd", "at"] : List Str) (["well", "asked"] : List Str) (defScope s__law_wrong) := ⟨rfl, rfl, rfl, by decide +kernel, rfl, by decide +kernel, by decide +kernel⟩
theorem ok__law_wrong (F : FunD K "_law_wrong" "_law_wrong" (defArgs s__law_wrong) (defBody s__law_wrong) (defScope s__law_wrong) [] [] f fd) (b_len : mg "len" = none) (b_list : mg "list" = none) (c__law_draw : FnG P w K mg base "_law_draw" 1 m__law_draw) (c__law_pick : FnG P w K mg base "_law_pick" 2 m__law_pick) : Pm P w K mg base (L2.CX P w) 3 f fd (["well", "asked"] : List Str) (spM K m__law_wrong) := by unfold m__law_wrong; exact fn_ok F sc__law_wrong rfl rfl fun cdv A outer s H E hr => have hu := hr.units; have hg := hr.g; qs_cons (q_set 2 sc__law_wrong.nd (q_call c__law_draw (hr.mono (by decide)) (passes_call (takes_of rfl rfl rfl rfl) fun _ _ _ _ h => h) (qa_cons (qv 0) (qa_cons (q_int) (qa_nil))))) (qs_cons (q_ifS (qt_cmp (od_eq hu) (qv 2) (q_int)) (qs_one (q_ret (q_call c__law_pick (hr.mono (by decide)) (passes_call (takes_of rfl rfl rfl rfl) fun _ _ _ _ h => h) (qa_cons (qv 0) (qa_cons (q_lst (qa_cons (q_callTy cd_list b_list rfl (qa_cons (qv 1) (qa_nil))) (qa_cons (q_op od_add (qv 1) (q_tup (qa_cons (q_non) (qa_nil)))) (qa_cons (q_sl (qv 1) (qo_none) (qo_some (q_neg (q_int)))) (qa_cons (q_op od_add (qv 1) (q_tup (qa_cons (q_int) (qa_nil)))) (qa_cons (q_tup (qa_cons (qv 1) (qa_nil))) (qa_cons (q_sl (qv 1) (qo_some (q_int)) (qo_none)) (qa_nil)))))))) (qa_nil)))))) (qs_nil)) (qs_cons (q_ifS (qt_cmp (od_eq hu) (qv 2) (q_int)) (qs_cons (q_set 3 sc__law_wrong.nd (q_lst (qa_cons (q_non) (qa_cons (q_int) (qa_cons (q_str) (qa_cons (q_str) (qa_cons (q_str) (qa_cons (q_tup (qa_cons (q_str) (qa_nil))) (qa_cons (q_bl) (qa_cons (q_lst (qa_nil)) (qa_cons (q_emp) (qa_cons (q_str) (qa_cons (q_str) (qa_cons (q_str) (qa_nil))))))))))))))) (qs_one (q_ret (q_op od_add (q_tup (qa_cons (q_call c__law_pick (hr.mono (by decide)) (passes_call (takes_of rfl rfl rfl rfl) fun _ _ _ _ h => h) (qa_cons (qv 0) (qa_cons (qv 3) (qa_nil)))) (qa_nil))) (q_sl (qv 1) (qo_some (q_int)) (qo_none)))))) (qs_nil)) (qs_cons (q_set 4 sc__law_wrong.nd (q_call c__law_pick (hr.mono (by decide)) (passes_call (takes_of rfl rfl rfl rfl) fun _ _ _ _ h => h) (qa_cons (qv 0) (qa_cons (q_lst (qa_cons (q_bl) (qa_cons (q_non) (qa_cons (q_str) (qa_cons (q_lst (qa_nil)) (qa_cons (q_tup (qa_cons (q_int) (qa_cons (q_int) (qa_cons (q_int) (qa_cons (q_int) (qa_nil)))))) (qa_cons (q_emp) (qa_cons (q_str) (qa_cons (q_bl) (qa_cons (q_neg (q_int)) (qa_cons (q_tup (qa_cons (q_non) (qa_nil))) (qa_cons (q_str) (qa_cons (q_str) (qa_nil)))))))))))))) (qa_nil))))) (qs_cons (q_set 5 sc__law_wrong.nd (q_op od_add (q_int) (q_call c__law_draw (hr.mono (by decide)) (passes_call (takes_of rfl rfl rfl rfl) fun _ _ _ _ h => h) (qa_cons (qv 0) (qa_cons (q_op od_subI (q_callB (cd_len) b_len rfl (qa_cons (qv 1) (qa_nil))) (q_int)) (qa_nil)))))) (qs_one (q_ret (q_op od_add (q_op od_add (q_sl (qv 1) (qo_none) (qo_some (qv 5))) (q_tup (qa_cons (qv 4) (qa_nil)))) (q_sl (qv 1) (qo_some (q_op od_add (qv 5) (q_int))) (qo_none)))))))))
theorem sc__law_right : FnScope (["well", "turn", "asked", "paper", "bent", "changed_paper", "more", "odd"] : List Str) (["well"] : List Str) (defScope s__law_right) := ⟨rfl, rfl, rfl, by decide +kernel, rfl, by decide +kernel, by decide +kernel⟩
theorem ok__law_right (F : FunD K "_law_right" "_law_right" (defArgs s__law_right) (defBody s__law_right) (defScope s__law_right) [] [] f fd) (b_range : mg "range" = none) (c__law_good : FnG P w K mg base "_law_good" 3 m__law_good) (c__law_odd : FnG P w K mg base "_law_odd" 3 m__law_odd) (c__law_pick : FnG P w K mg base "_law_pick" 2 m__law_pick) (c__law_put__12 : FnG P w K mg base "_law_put" 13 m__law_put__12) (c__law_wrong : FnG P w K mg base "_law_wrong" 3 m__law_wrong) (c_accepts : FnG P w K mg base "accepts" 19 m_accepts) (w_accepts_0_certificate_claim : FnK P w K mg base "accepts" 19 0 (["certificate", "claim"] : List Str) [1, 0] m_accepts) : Pm P w K mg base (L2.CX P w) 20 f fd (["well"] : List Str) (spM K m__law_right) := by unfold m__law_right; exact fn_ok F sc__law_right rfl rfl fun cdv A outer s H E hr => have hu := hr.units; have hg := hr.g; qs_cons (q_for (passes_of rfl) rfl (qi_range1 b_range (qa_cons (q_int) (qa_nil))) (qg_name 1 sc__law_right.nd) (qs_cons (q_asg (q_call c__law_pick (hr.mono (by decide)) (passes_call (takes_of rfl rfl rfl rfl) fun _ _ _ _ h => h) (qa_cons (qv 0) (qa_cons (q_call c__law_good (hr.mono (by decide)) (passes_call (takes_of rfl rfl rfl rfl) fun _ _ _ _ h => h) (qa_cons (qv 0) (qa_nil))) (qa_nil)))) (qg_tup rfl (qgs_cons (qg_name 2 sc__law_right.nd) (qgs_cons (qg_name 3 sc__law_right.nd) (qgs_nil))))) (qs_cons (q_ifS (qt_w (qw_or (qt_cmp od_isNot (q_call c_accepts (hr.mono (by decide)) (passes_call (takes_of rfl rfl rfl rfl) fun _ _ _ _ h => h) (qa_cons (qv 2) (qa_cons (qv 3) (qa_nil)))) (q_bl)) (qw_one_or (qt_cmp od_isNot (q_callK0 w_accepts_0_certificate_claim (hr.mono (by decide)) (passes_call (takes_of rfl rfl rfl rfl) fun _ _ _ _ h => h) (qk_cons (qv 3) (qk_cons (qv 2) (qk_nil)))) (q_bl))))) (qs_one (q_ret (q_bl))) (qs_nil)) (qs_cons (q_ifS (qt_w (qw_or (qt_cmp od_isNot (q_call c_accepts (hr.mono (by decide)) (passes_call (takes_of rfl rfl rfl rfl) fun _ _ _ _ h => h) (qa_cons (q_call c__law_wrong (hr.mono (by decide)) (passes_call (takes_of rfl rfl rfl rfl) fun _ _ _ _ h => h) (qa_cons (qv 0) (qa_cons (qv 2) (qa_nil)))) (qa_cons (qv 3) (qa_nil)))) (q_bl)) (qw_one_or (qt_cmp od_isNot (q_call c_accepts (hr.mono (by decide)) (passes_call (takes_of rfl rfl rfl rfl) fun _ _ _ _ h => h) (qa_cons (qv 2) (qa_cons (q_lst (qa_cons (qv 3) (qa_nil))) (qa_nil)))) (q_bl))))) (qs_one (q_ret (q_bl))) (qs_nil)) (qs_cons (q_set 4 sc__law_right.nd (q_call c__law_put__12 (hr.mono (by decide)) (passes_call (takes_of rfl rfl rfl rfl) fun _ _ _ _ h => h) (qa_cons (qv 0) (qa_cons (qv 2) (qa_cons (q_call c__law_odd (hr.mono (by decide)) (passes_call (takes_of rfl rfl rfl rfl) fun _ _ _ _ h => h) (qa_cons (qv 0) (qa_nil))) (qa_cons (q_int) (qa_nil))))))) (qs_cons (q_set 5 sc__law_right.nd (q_call c__law_put__12 (hr.mono (by decide)) (passes_call (takes_of rfl rfl rfl rfl) fun _ _ _ _ h => h) (qa_cons (qv 0) (qa_cons (qv 3) (qa_cons (q_call c__law_odd (hr.mono (by decide)) (passes_call (takes_of rfl rfl rfl rfl) fun _ _ _ _ h => h) (qa_cons (qv 0) (qa_nil))) (qa_cons (q_int) (qa_nil))))))) (qs_cons (q_ifS (qt_w (qw_or (qt_cmp od_isNot (q_call c_accepts (hr.mono (by decide)) (passes_call (takes_of rfl rfl rfl rfl) fun _ _ _ _ h => h) (qa_cons (qv 4) (qa_cons (qv 3) (qa_nil)))) (q_bl)) (qw_one_or (qt_cmp od_isNot (q_call c_accepts (hr.mono (by decide)) (passes_call (takes_of rfl rfl rfl rfl) fun _ _ _ _ h => h) (qa_cons (qv 2) (qa_cons (qv 5) (qa_nil)))) (q_bl))))) (qs_one (q_ret (q_bl))) (qs_nil)) (qs_cons (q_set 6 sc__law_right.nd (q_call c__law_pick (hr.mono (by decide)) (passes_call (takes_of rfl rfl rfl rfl) fun _ _ _ _ h => h) (qa_cons (qv 0) (qa_cons (q_lst (qa_cons (q_non) (qa_cons (q_str) (qa_cons (q_lst (qa_nil)) (qa_cons (q_tup (qa_cons (q_str) (qa_cons (q_str) (qa_nil)))) (qa_cons (q_str) (qa_cons (q_tup (qa_cons (q_tup (qa_cons (q_int) (qa_cons (q_int) (qa_cons (q_int) (qa_nil))))) (qa_nil))) (qa_nil)))))))) (qa_nil))))) (qs_cons (q_ifS (qt_cmp od_isNot (q_call c_accepts (hr.mono (by decide)) (passes_call (takes_of rfl rfl rfl rfl) fun _ _ _ _ h => h) (qa_cons (qv 2) (qa_cons (q_op od_add (qv 3) (q_tup (qa_cons (qv 6) (qa_nil)))) (qa_nil)))) (q_bl)) (qs_one (q_ret (q_bl))) (qs_nil)) (qs_cons (q_set 7 sc__law_right.nd (q_call c__law_pick (hr.mono (by decide)) (passes_call (takes_of rfl rfl rfl rfl) fun _ _ _ _ h => h) (qa_cons (qv 0) (qa_cons (q_lst (qa_cons (q_non) (qa_cons (q_bl) (qa_cons (q_str) (qa_cons (q_lst (qa_nil)) (qa_cons (q_emp) (qa_cons (q_lst (qa_cons (q_tup (qa_nil)) (qa_nil))) (qa_cons (q_tup (qa_cons (q_str) (qa_nil))) (qa_cons (q_op od_repT (q_tup (qa_cons (q_non) (qa_nil))) (q_int)) (qa_cons (qv 2) (qa_nil))))))))))) (qa_nil))))) (qs_one (q_ifS (qt_w (qw_or (qt_cmp od_isNot (q_call c_accepts (hr.mono (by decide)) (passes_call (takes_of rfl rfl rfl rfl) fun _ _ _ _ h => h) (qa_cons (qv 7) (qa_cons (qv 7) (qa_nil)))) (q_bl)) (qw_one_or (qt_cmp od_isNot (q_call c_accepts (hr.mono (by decide)) (passes_call (takes_of rfl rfl rfl rfl) fun _ _ _ _ h => h) (qa_cons (qv 2) (qa_cons (qv 7) (qa_nil)))) (q_bl))))) (qs_one (q_ret (q_bl))) (qs_nil))))))))))))) (qs_one (q_ret (q_bl)))
theorem sc_law : FnScope (["script", "spot"] : List Str) (["script"] : List Str) (defScope s_law) := ⟨rfl, rfl, rfl, by decide +kernel, rfl, by decide +kernel, by decide +kernel⟩
theorem ok_law (F : FunD K "law" "law" (defArgs s_law) (defBody s_law) (defScope s_law) [] [] f fd) (b_all : mg "all" = none) (b_len : mg "len" = none) (b_max : mg "max" = none) (b_min : mg "min" = none) (b_range : mg "range" = none) (c__law_right : FnG P w K mg base "_law_right" 20 m__law_right) (c__law_well : FnG P w K mg base "_law_well" 1 m__law_well) : Pm P w K mg base (L2.CX P w) 21 f fd (["script"] : List Str) (spM K m_law) := by unfold m_law; exact fn_ok F sc_law rfl rfl fun cdv A outer s H E hr => have hu := hr.units; have hg := hr.g; qs_one (q_ret (q_callB (cd_all rfl) b_all rfl (qa_cons (q_lc [("spot", 1)] fin_L rfl sc_law.nd (qi_range1 b_range (qa_cons (q_callB (cd_max rfl) b_max rfl (qa_cons (q_int) (qa_cons (q_callB (cd_min rfl) b_min rfl (qa_cons (q_callB (cd_len) b_len rfl (qa_cons (qv 0) (qa_nil))) (qa_cons (q_int) (qa_nil)))) (qa_nil)))) (qa_nil))) (blk rfl (by kernel_rfl) (by kernel_rfl) (by kernel_rfl) (by kernel_rfl)) (qgb_name 1 sc_law.nd) (fun _ _ _ _ _ => qts_nil) (fun _ _ _ _ _ => q_call c__law_right (hr.mono (by decide)) passL (qa_cons (q_call c__law_well (hr.mono (by decide)) passL (qa_cons (qv 0) (qa_cons (qv 1) (qa_nil)))) (qa_nil)))) (qa_nil))))
theorem sci_Lot : FnScope (["self", "buttons", "at"] : List Str) (["self", "buttons"] : List Str) (defScope i_Lot) := ⟨rfl, rfl, rfl, by decide +kernel, rfl, by decide +kernel, by decide +kernel⟩
theorem ini_Lot (F : FunD K "__init__" "Lot.__init__" (defArgs i_Lot) (defBody i_Lot) (defScope i_Lot) [] [] f fd) (sk : SltK K "Lot" "own_buttons" 0) (c_g : FnG P w K mg base "wrong_button" 4 m_wrong_button) : Pm P w K mg base (L2.CX P w) 5 f fd (["self", "buttons"] : List Str) (spSlot K "Lot" m_wrong_button) := init_slot F sci_Lot sk fun cdv A outer s H E hr => by
  obtain ⟨te, a1, a2⟩ := (q_call (X := cxOf (L2.CX P w) P w K mg base (["self", "buttons", "at"] : List Str) "Lot.__init__" (defScope i_Lot) f cdv A outer s H E) (pos := _) (p := _) (E := E) c_g (hr.mono (by decide)) (passes_call (takes_of rfl rfl rfl rfl) fun _ _ _ _ h => h) (qa_cons (qv 1 (pos := _)) qa_nil)).ex
  obtain ⟨tc, b1, b2⟩ := (qt_cmp (X := cxOf (L2.CX P w) P w K mg base (["self", "buttons", "at"] : List Str) "Lot.__init__" (defScope i_Lot) f cdv A outer s H E) (E := E) od_isNot (qv 2) q_non).ex
  exact ⟨te, tc, a2, b2, (pss_cons (ps_set sci_Lot.nd rfl (Or.inl rfl) a1 rfl (Or.inl rfl)) (pss_cons (ps_if b1 pss_never pss_nil) (pss_one (SlX.ps_sl (pe_var rfl (Or.inl rfl)) (pe_var rfl (Or.inl rfl))))))⟩
end
end A46

set_option Elab.async false
set_option linter.all false
set_option maxRecDepth 100000
set_option maxHeartbeats 0
namespace A46
open PySem PySem.Spec PyProof.Rows L2 Ar
def dd (i : Nat) (x : Str) : He.DefD := ⟨(x, none), x, x, defArgs (top i), defBody (top i), defScope (top i), [], []⟩
def ddi (i j : Nat) (x : Str) : He.DefD := ⟨(x, some "__init__"), "__init__", x ++ ".__init__", defArgs (clsAt (top i) j), defBody (clsAt (top i) j), defScope (clsAt (top i) j), [], []⟩
def ddm (i j : Nat) (x nm q : Str) : He.DefD := ⟨(x, some nm), nm, q, defArgs (clsAt (top i) j), defBody (clsAt (top i) j), defScope (clsAt (top i) j), [], []⟩
def fn : List He.DefD := ([dd 53 "_law_well", dd 12 "written_integer", dd 22 "text_move", dd 10 "is_integer", dd 16 "is_move", dd 25 "is_button", dd 26 "wrong_button", dd 29 "text_lot", dd 17 "then_move", dd 19 "often_move", ddm 27 6 "Lot" "__len__" "Lot.__len__", dd 36 "plan_move", dd 35 "part_move", dd 44 "shows_made", dd 13 "rest_of", dd 31 "shares_of", dd 32 "led_to", dd 33 "tells", dd 11 "is_count", dd 39 "is_within", dd 40 "is_east", dd 41 "is_none", dd 42 "is_north", dd 43 "is_form", dd 45 "shows_missed", dd 46 "shows_all", dd 47 "shows_same", dd 18 "undone_move", dd 20 "around_move", dd 48 "shows_moved"] : List He.DefD) ++ ([dd 49 "shows_of_lots", dd 50 "shows_of_moves", dd 51 "accepts", dd 54 "_law_draw", dd 55 "_law_pick", dd 56 "_law_great", dd 57 "_law_good", dd 58 "_law_odd", dd 59 "_law_put", dd 60 "_law_wrong", dd 61 "_law_right", dd 62 "law", ddi 27 1 "Lot"] : List He.DefD)
def fa : List He.Fa := ([.glo "_law_well", .glo "written_integer", .glo "text_move", .glo "is_integer", .glo "is_move", .glo "is_button", .glo "wrong_button", .glo "text_lot", .glo "then_move", .glo "often_move", .meth "Lot" "__len__", .glo "plan_move", .glo "part_move", .glo "shows_made", .glo "rest_of", .glo "shares_of", .glo "led_to", .glo "tells", .glo "is_count", .glo "is_within", .glo "is_east", .glo "is_none", .glo "is_north", .glo "is_form", .glo "shows_missed", .glo "shows_all", .glo "shows_same", .glo "undone_move", .glo "around_move", .glo "shows_moved"] : List He.Fa) ++ ([.glo "shows_of_lots", .glo "shows_of_moves", .glo "accepts", .glo "_law_draw", .glo "_law_pick", .glo "_law_great", .glo "_law_good", .glo "_law_odd", .glo "_law_put", .glo "_law_wrong", .glo "_law_right", .glo "law", .free "abs", .free "all", .free "bool", .free "divmod", .free "enumerate", .free "int", .free "isinstance", .free "len", .free "list", .free "max", .free "min", .free "range", .free "str", .free "tuple", .free "zip", .str "DIGITS" "0123456789", .glo "LENGTHS", .int "MOST_BUTTONS" 5] : List He.Fa) ++ ([.int "MOST_DEPTH" 5, .int "MOST_NUMBER" 1000000000000000000000000000000, .glo "PLAIN", .str "WORD" "button ", .glo "Lot", .mkr "Lot"] : List He.Fa)
def ex (K : PySem.W.Frag) : Bool := He.tupB K "PLAIN" [.int 0, .int 0, .int 0] && (tabB K "LENGTHS" [("makes", .one (.int 3)), ("misses", .one (.int 3)), ("same", .one (.int 3)), ("moved", .one (.int 3)), ("alike", .one (.int 3)), ("root", .one (.int 3))] && (sltB K "Lot" "own_buttons" && (isiB K "Lot")))
abbrev R : PySem.W.OpenRow := PySem.W.OpenLaw.row PySem.Challenge.rw_arealots_k46_things_of_any_kind_judged
def ts : List He.Tab := [(fun K => He.ga K "LENGTHS", ["makes", "misses", "same", "moved", "alike", "root"])]
def asL : List Addr := ([3, 79, 86, 91, 98, 99, 104, 111, 118, 125, 132, 142, 147, 154, 234, 247, 254, 261, 268, 275, 282, 283, 290, 297, 304, 311, 318, 325, 330, 335] : List Addr) ++ ([342, 347, 354, 361, 368, 375, 382, 389, 396, 403, 410, 417, 424, 431, 436, 78, 85, 90, 97, 103, 110, 117, 124, 131, 141, 146, 153, 233, 246, 253] : List Addr) ++ ([260, 267, 274, 281, 289, 296, 303, 310, 317, 324, 329, 334, 341, 346, 353, 360, 367, 374, 381, 388, 395, 402, 409, 416, 423, 430, 435, 169, 209, 235] : List Addr) ++ ([168, 208] : List Addr)
def wr : List WrD := []
abbrev hk : PySem.W.Hook := hookL asL fa fn ts wr ex
theorem facts {P : Program} {w : World} {K : PySem.W.Frag} {h : Heap} {mg : Str → Option Value} {f : Addr} (X : K.In h) (G : h.Ns mainGlobals mg) (hfa : mg ("law" : Str) = some (.ref f)) (ccz : SaysZ fa fn ts wr ex w K) :
    ∃ fd : FuncData, (∀ (s : Shared) (v : Value), BindsTo s fd ⟨[v], []⟩ [("script", v)]) ∧ ∀ base : Heap, K.In base → base.Ns mainGlobals mg → Pm P w K mg base (L2.CX P w) 21 f fd ["script"] (spM K m_law) := by
  have cc := ccz.y
  obtain ⟨c, cx⟩ := cc.x.both
  obtain ⟨x_PLAIN, cx⟩ := He.ba cx
  obtain ⟨x_LENGTHS, cx⟩ := He.ba cx
  obtain ⟨x_slt_Lot, cx⟩ := He.ba cx
  have x_isi_Lot := cx
  obtain ⟨fd__law_well, F__law_well⟩ := c.def_ 0 (d := dd 53 "_law_well") rfl
  have g__law_well := He.glo_ok X G (c.fact 0 (f := .glo "_law_well") rfl)
  obtain ⟨fd_written_integer, F_written_integer⟩ := c.def_ 1 (d := dd 12 "written_integer") rfl
  have g_written_integer := He.glo_ok X G (c.fact 1 (f := .glo "written_integer") rfl)
  obtain ⟨fd_text_move, F_text_move⟩ := c.def_ 2 (d := dd 22 "text_move") rfl
  have g_text_move := He.glo_ok X G (c.fact 2 (f := .glo "text_move") rfl)
  obtain ⟨fd_is_integer, F_is_integer⟩ := c.def_ 3 (d := dd 10 "is_integer") rfl
  have g_is_integer := He.glo_ok X G (c.fact 3 (f := .glo "is_integer") rfl)
  obtain ⟨fd_is_move, F_is_move⟩ := c.def_ 4 (d := dd 16 "is_move") rfl
  have g_is_move := He.glo_ok X G (c.fact 4 (f := .glo "is_move") rfl)
  obtain ⟨fd_is_button, F_is_button⟩ := c.def_ 5 (d := dd 25 "is_button") rfl
  have g_is_button := He.glo_ok X G (c.fact 5 (f := .glo "is_button") rfl)
  obtain ⟨fd_wrong_button, F_wrong_button⟩ := c.def_ 6 (d := dd 26 "wrong_button") rfl
  have g_wrong_button := He.glo_ok X G (c.fact 6 (f := .glo "wrong_button") rfl)
  obtain ⟨fd_text_lot, F_text_lot⟩ := c.def_ 7 (d := dd 29 "text_lot") rfl
  have g_text_lot := He.glo_ok X G (c.fact 7 (f := .glo "text_lot") rfl)
  obtain ⟨fd_then_move, F_then_move⟩ := c.def_ 8 (d := dd 17 "then_move") rfl
  have g_then_move := He.glo_ok X G (c.fact 8 (f := .glo "then_move") rfl)
  obtain ⟨fd_often_move, F_often_move⟩ := c.def_ 9 (d := dd 19 "often_move") rfl
  have g_often_move := He.glo_ok X G (c.fact 9 (f := .glo "often_move") rfl)
  obtain ⟨fd_Lot__len, F_Lot__len⟩ := c.def_ 10 (d := ddm 27 6 "Lot" "__len__" "Lot.__len__") rfl
  have g_Lot__len := He.meth_ok (c.fact 10 (f := .meth "Lot" "__len__") rfl)
  obtain ⟨fd_plan_move, F_plan_move⟩ := c.def_ 11 (d := dd 36 "plan_move") rfl
  have g_plan_move := He.glo_ok X G (c.fact 11 (f := .glo "plan_move") rfl)
  obtain ⟨fd_part_move, F_part_move⟩ := c.def_ 12 (d := dd 35 "part_move") rfl
  have g_part_move := He.glo_ok X G (c.fact 12 (f := .glo "part_move") rfl)
  obtain ⟨fd_shows_made, F_shows_made⟩ := c.def_ 13 (d := dd 44 "shows_made") rfl
  have g_shows_made := He.glo_ok X G (c.fact 13 (f := .glo "shows_made") rfl)
  obtain ⟨fd_rest_of, F_rest_of⟩ := c.def_ 14 (d := dd 13 "rest_of") rfl
  have g_rest_of := He.glo_ok X G (c.fact 14 (f := .glo "rest_of") rfl)
  obtain ⟨fd_shares_of, F_shares_of⟩ := c.def_ 15 (d := dd 31 "shares_of") rfl
  have g_shares_of := He.glo_ok X G (c.fact 15 (f := .glo "shares_of") rfl)
  obtain ⟨fd_led_to, F_led_to⟩ := c.def_ 16 (d := dd 32 "led_to") rfl
  have g_led_to := He.glo_ok X G (c.fact 16 (f := .glo "led_to") rfl)
  obtain ⟨fd_tells, F_tells⟩ := c.def_ 17 (d := dd 33 "tells") rfl
  have g_tells := He.glo_ok X G (c.fact 17 (f := .glo "tells") rfl)
  obtain ⟨fd_is_count, F_is_count⟩ := c.def_ 18 (d := dd 11 "is_count") rfl
  have g_is_count := He.glo_ok X G (c.fact 18 (f := .glo "is_count") rfl)
  obtain ⟨fd_is_within, F_is_within⟩ := c.def_ 19 (d := dd 39 "is_within") rfl
  have g_is_within := He.glo_ok X G (c.fact 19 (f := .glo "is_within") rfl)
  obtain ⟨fd_is_east, F_is_east⟩ := c.def_ 20 (d := dd 40 "is_east") rfl
  have g_is_east := He.glo_ok X G (c.fact 20 (f := .glo "is_east") rfl)
  obtain ⟨fd_is_none, F_is_none⟩ := c.def_ 21 (d := dd 41 "is_none") rfl
  have g_is_none := He.glo_ok X G (c.fact 21 (f := .glo "is_none") rfl)
  obtain ⟨fd_is_north, F_is_north⟩ := c.def_ 22 (d := dd 42 "is_north") rfl
  have g_is_north := He.glo_ok X G (c.fact 22 (f := .glo "is_north") rfl)
  obtain ⟨fd_is_form, F_is_form⟩ := c.def_ 23 (d := dd 43 "is_form") rfl
  have g_is_form := He.glo_ok X G (c.fact 23 (f := .glo "is_form") rfl)
  obtain ⟨fd_shows_missed, F_shows_missed⟩ := c.def_ 24 (d := dd 45 "shows_missed") rfl
  have g_shows_missed := He.glo_ok X G (c.fact 24 (f := .glo "shows_missed") rfl)
  obtain ⟨fd_shows_all, F_shows_all⟩ := c.def_ 25 (d := dd 46 "shows_all") rfl
  have g_shows_all := He.glo_ok X G (c.fact 25 (f := .glo "shows_all") rfl)
  obtain ⟨fd_shows_same, F_shows_same⟩ := c.def_ 26 (d := dd 47 "shows_same") rfl
  have g_shows_same := He.glo_ok X G (c.fact 26 (f := .glo "shows_same") rfl)
  obtain ⟨fd_undone_move, F_undone_move⟩ := c.def_ 27 (d := dd 18 "undone_move") rfl
  have g_undone_move := He.glo_ok X G (c.fact 27 (f := .glo "undone_move") rfl)
  obtain ⟨fd_around_move, F_around_move⟩ := c.def_ 28 (d := dd 20 "around_move") rfl
  have g_around_move := He.glo_ok X G (c.fact 28 (f := .glo "around_move") rfl)
  obtain ⟨fd_shows_moved, F_shows_moved⟩ := c.def_ 29 (d := dd 48 "shows_moved") rfl
  have g_shows_moved := He.glo_ok X G (c.fact 29 (f := .glo "shows_moved") rfl)
  obtain ⟨fd_shows_of_lots, F_shows_of_lots⟩ := c.def_ 30 (d := dd 49 "shows_of_lots") rfl
  have g_shows_of_lots := He.glo_ok X G (c.fact 30 (f := .glo "shows_of_lots") rfl)
  obtain ⟨fd_shows_of_moves, F_shows_of_moves⟩ := c.def_ 31 (d := dd 50 "shows_of_moves") rfl
  have g_shows_of_moves := He.glo_ok X G (c.fact 31 (f := .glo "shows_of_moves") rfl)
  obtain ⟨fd_accepts, F_accepts⟩ := c.def_ 32 (d := dd 51 "accepts") rfl
  have g_accepts := He.glo_ok X G (c.fact 32 (f := .glo "accepts") rfl)
  obtain ⟨fd__law_draw, F__law_draw⟩ := c.def_ 33 (d := dd 54 "_law_draw") rfl
  have g__law_draw := He.glo_ok X G (c.fact 33 (f := .glo "_law_draw") rfl)
  obtain ⟨fd__law_pick, F__law_pick⟩ := c.def_ 34 (d := dd 55 "_law_pick") rfl
  have g__law_pick := He.glo_ok X G (c.fact 34 (f := .glo "_law_pick") rfl)
  obtain ⟨fd__law_great, F__law_great⟩ := c.def_ 35 (d := dd 56 "_law_great") rfl
  have g__law_great := He.glo_ok X G (c.fact 35 (f := .glo "_law_great") rfl)
  obtain ⟨fd__law_good, F__law_good⟩ := c.def_ 36 (d := dd 57 "_law_good") rfl
  have g__law_good := He.glo_ok X G (c.fact 36 (f := .glo "_law_good") rfl)
  obtain ⟨fd__law_odd, F__law_odd⟩ := c.def_ 37 (d := dd 58 "_law_odd") rfl
  have g__law_odd := He.glo_ok X G (c.fact 37 (f := .glo "_law_odd") rfl)
  obtain ⟨fd__law_put, F__law_put⟩ := c.def_ 38 (d := dd 59 "_law_put") rfl
  have g__law_put := He.glo_ok X G (c.fact 38 (f := .glo "_law_put") rfl)
  obtain ⟨fd__law_wrong, F__law_wrong⟩ := c.def_ 39 (d := dd 60 "_law_wrong") rfl
  have g__law_wrong := He.glo_ok X G (c.fact 39 (f := .glo "_law_wrong") rfl)
  obtain ⟨fd__law_right, F__law_right⟩ := c.def_ 40 (d := dd 61 "_law_right") rfl
  have g__law_right := He.glo_ok X G (c.fact 40 (f := .glo "_law_right") rfl)
  obtain ⟨fd_law, F_law⟩ := c.def_ 41 (d := dd 62 "law") rfl
  have g_law := He.glo_ok X G (c.fact 41 (f := .glo "law") rfl)
  have b_abs := He.free_ok X G (c.fact 42 (f := .free "abs") rfl)
  have b_all := He.free_ok X G (c.fact 43 (f := .free "all") rfl)
  have b_bool := He.free_ok X G (c.fact 44 (f := .free "bool") rfl)
  have b_divmod := He.free_ok X G (c.fact 45 (f := .free "divmod") rfl)
  have b_enumerate := He.free_ok X G (c.fact 46 (f := .free "enumerate") rfl)
  have b_int := He.free_ok X G (c.fact 47 (f := .free "int") rfl)
  have b_isinstance := He.free_ok X G (c.fact 48 (f := .free "isinstance") rfl)
  have b_len := He.free_ok X G (c.fact 49 (f := .free "len") rfl)
  have b_list := He.free_ok X G (c.fact 50 (f := .free "list") rfl)
  have b_max := He.free_ok X G (c.fact 51 (f := .free "max") rfl)
  have b_min := He.free_ok X G (c.fact 52 (f := .free "min") rfl)
  have b_range := He.free_ok X G (c.fact 53 (f := .free "range") rfl)
  have b_str := He.free_ok X G (c.fact 54 (f := .free "str") rfl)
  have b_tuple := He.free_ok X G (c.fact 55 (f := .free "tuple") rfl)
  have b_zip := He.free_ok X G (c.fact 56 (f := .free "zip") rfl)
  have k_DIGITS := glo_str X G (c.fact 57 (f := .str "DIGITS" "0123456789") rfl)
  have k_LENGTHS : DctC K w mg "LENGTHS" [("makes", .int 3), ("misses", .int 3), ("same", .int 3), ("moved", .int 3), ("alike", .int 3), ("root", .int 3)] := glo_dct X G (c.fact 58 (f := .glo "LENGTHS") rfl) (cc.tab 0 rfl) x_LENGTHS rfl
  have k_MOST_BUTTONS := glo_int X G (c.fact 59 (f := .int "MOST_BUTTONS" 5) rfl)
  have k_MOST_DEPTH := glo_int X G (c.fact 60 (f := .int "MOST_DEPTH" 5) rfl)
  have k_MOST_NUMBER := glo_int X G (c.fact 61 (f := .int "MOST_NUMBER" 1000000000000000000000000000000) rfl)
  have k_PLAIN : GloC K mg "PLAIN" (.tup [.int 0, .int 0, .int 0]) := glo_tup X G (c.fact 62 (f := .glo "PLAIN") rfl) x_PLAIN rfl
  have k_WORD := glo_str X G (c.fact 63 (f := .str "WORD" "button ") rfl)
  have gc_Lot := He.glo_ok X G (c.fact 64 (f := .glo "Lot") rfl)
  have fl_Lot_own_buttons : SltK K "Lot" "own_buttons" 0 := sltB_ok x_slt_Lot
  have isi_Lot : IsiK K "Lot" := isiB_ok x_slt_Lot x_isi_Lot
  have kc_Lot : GloC K mg "Lot" (.glo "Lot") := glo_cls X G (c.fact 64 (f := .glo "Lot") rfl)
  obtain ⟨fdi_Lot, Fi_Lot⟩ := c.def_ 42 (d := ddi 27 1 "Lot") rfl
  have mkr_Lot := He.mkr_ok (c.fact 65 (f := .mkr "Lot") rfl)
  have e := hfa.symm.trans g_law
  cases e
  have b := FunD.bindsA (ps := ["script"]) F_law fun _ _ _ _ _ _ us hl => match us, hl with | [_], _ => rfl
  refine ⟨fd_law, fun s v => b s [v] rfl, fun base _ _ => ?_⟩
  have o__law_well : Pm P w K mg base (L2.CX P w) 1 _ fd__law_well _ (spM K m__law_well) := ok__law_well F__law_well b_abs b_int b_len
  have c__law_well : FnG P w K mg base "_law_well" 1 m__law_well := fng F__law_well g__law_well (fun _ _ _ _ _ _ us hl => match us, hl with | [_, _], _ => rfl) o__law_well
  have o_written_integer : Pm P w K mg base (L2.CX P w) 1 _ fd_written_integer _ (spM K m_written_integer) := ok_written_integer F_written_integer b_all b_int b_len b_str k_DIGITS
  have c_written_integer : FnG P w K mg base "written_integer" 1 m_written_integer := fng F_written_integer g_written_integer (fun _ _ _ _ _ _ us hl => match us, hl with | [_], _ => rfl) o_written_integer
  have o_text_move : Pm P w K mg base (L2.CX P w) 2 _ fd_text_move _ (spM K m_text_move) := ok_text_move F_text_move b_isinstance b_len b_str b_tuple c_written_integer
  have c_text_move : FnG P w K mg base "text_move" 2 m_text_move := fng F_text_move g_text_move (fun _ _ _ _ _ _ us hl => match us, hl with | [_], _ => rfl) o_text_move
  have o_is_integer : Pm P w K mg base (L2.CX P w) 1 _ fd_is_integer _ (spM K m_is_integer) := ok_is_integer F_is_integer b_bool b_int b_isinstance
  have c_is_integer : FnG P w K mg base "is_integer" 1 m_is_integer := fng F_is_integer g_is_integer (fun _ _ _ _ _ _ us hl => match us, hl with | [_], _ => rfl) o_is_integer
  have o_is_move : Pm P w K mg base (L2.CX P w) 2 _ fd_is_move _ (spM K m_is_move) := ok_is_move F_is_move b_all b_isinstance b_len b_tuple c_is_integer
  have c_is_move : FnG P w K mg base "is_move" 2 m_is_move := fng F_is_move g_is_move (fun _ _ _ _ _ _ us hl => match us, hl with | [_], _ => rfl) o_is_move
  have o_is_button : Pm P w K mg base (L2.CX P w) 3 _ fd_is_button _ (spM K m_is_button) := ok_is_button F_is_button b_abs b_all k_MOST_NUMBER c_is_move
  have c_is_button : FnG P w K mg base "is_button" 3 m_is_button := fng F_is_button g_is_button (fun _ _ _ _ _ _ us hl => match us, hl with | [_], _ => rfl) o_is_button
  have o_wrong_button : Pm P w K mg base (L2.CX P w) 4 _ fd_wrong_button _ (spM K m_wrong_button) := ok_wrong_button F_wrong_button b_enumerate b_isinstance b_len b_tuple k_MOST_BUTTONS c_is_button
  have c_wrong_button : FnG P w K mg base "wrong_button" 4 m_wrong_button := fng F_wrong_button g_wrong_button (fun _ _ _ _ _ _ us hl => match us, hl with | [_], _ => rfl) o_wrong_button
  have mk_Lot : MkS P w K mg base "Lot" 5 m_wrong_button := mkS Fi_Lot mkr_Lot gc_Lot (fun _ _ _ _ _ _ us hl => match us, hl with | [_, _], _ => rfl) (ini_Lot Fi_Lot fl_Lot_own_buttons c_wrong_button)
  have o_text_lot : Pm P w K mg base (L2.CX P w) 7 _ fd_text_lot _ (spM K m_text_lot) := ok_text_lot F_text_lot b_all b_isinstance b_len b_str b_tuple k_WORD mk_Lot c_text_move c_wrong_button
  have c_text_lot : FnG P w K mg base "text_lot" 7 m_text_lot := fng F_text_lot g_text_lot (fun _ _ _ _ _ _ us hl => match us, hl with | [_], _ => rfl) o_text_lot
  have o_then_move : Pm P w K mg base (L2.CX P w) 1 _ fd_then_move _ (spM K m_then_move) := ok_then_move F_then_move
  have c_then_move : FnG P w K mg base "then_move" 1 m_then_move := fng F_then_move g_then_move (fun _ _ _ _ _ _ us hl => match us, hl with | [_, _], _ => rfl) o_then_move
  have o_often_move : Pm P w K mg base (L2.CX P w) 1 _ fd_often_move _ (spM K m_often_move) := ok_often_move F_often_move
  have c_often_move : FnG P w K mg base "often_move" 1 m_often_move := fng F_often_move g_often_move (fun _ _ _ _ _ _ us hl => match us, hl with | [_, _], _ => rfl) o_often_move
  have o_Lot__len : Pm P w K mg base (L2.CX P w) 1 _ fd_Lot__len _ (spM K m_Lot__len) := ok_Lot__len F_Lot__len b_len fl_Lot_own_buttons
  have me_Lot__len : MethG P w K mg base "Lot" "__len__" 1 m_Lot__len := methg F_Lot__len g_Lot__len.at_ g_Lot__len.fn g_Lot__len.kp (fun _ _ _ _ _ _ us hl => match us, hl with | [_], _ => rfl) o_Lot__len
  have o_plan_move__0 : Pm P w K mg base (L2.CX P w) 1 _ fd_plan_move _ (spM K m_plan_move__0) := ok_plan_move__0 F_plan_move
  have c_plan_move__0 : FnG P w K mg base "plan_move" 1 m_plan_move__0 := fng F_plan_move g_plan_move (fun _ _ _ _ _ _ us hl => match us, hl with | [_, _, _], _ => rfl) o_plan_move__0
  have o_part_move__1 : Pm P w K mg base (L2.CX P w) 4 _ fd_part_move _ (spM K m_part_move__1) := ok_part_move__1 F_part_move b_isinstance b_len b_tuple fl_Lot_own_buttons c_is_integer c_plan_move__0 me_Lot__len
  have c_part_move__1 : FnG P w K mg base "part_move" 4 m_part_move__1 := fng F_part_move g_part_move (fun _ _ _ _ _ _ us hl => match us, hl with | [_, _, _], _ => rfl) o_part_move__1
  have o_plan_move__2 : Pm P w K mg base (L2.CX P w) 5 _ fd_plan_move _ (spM K m_plan_move__2) := ok_plan_move__2 F_plan_move b_isinstance b_len b_tuple k_PLAIN c_is_integer c_often_move c_part_move__1 c_then_move
  have c_plan_move__2 : FnG P w K mg base "plan_move" 5 m_plan_move__2 := fng F_plan_move g_plan_move (fun _ _ _ _ _ _ us hl => match us, hl with | [_, _, _], _ => rfl) o_plan_move__2
  have o_part_move__3 : Pm P w K mg base (L2.CX P w) 6 _ fd_part_move _ (spM K m_part_move__3) := ok_part_move__3 F_part_move b_isinstance b_len b_tuple fl_Lot_own_buttons c_is_integer c_plan_move__2 me_Lot__len
  have c_part_move__3 : FnG P w K mg base "part_move" 6 m_part_move__3 := fng F_part_move g_part_move (fun _ _ _ _ _ _ us hl => match us, hl with | [_, _, _], _ => rfl) o_part_move__3
  have o_plan_move__4 : Pm P w K mg base (L2.CX P w) 7 _ fd_plan_move _ (spM K m_plan_move__4) := ok_plan_move__4 F_plan_move b_isinstance b_len b_tuple k_PLAIN c_is_integer c_often_move c_part_move__3 c_then_move
  have c_plan_move__4 : FnG P w K mg base "plan_move" 7 m_plan_move__4 := fng F_plan_move g_plan_move (fun _ _ _ _ _ _ us hl => match us, hl with | [_, _, _], _ => rfl) o_plan_move__4
  have o_part_move__5 : Pm P w K mg base (L2.CX P w) 8 _ fd_part_move _ (spM K m_part_move__5) := ok_part_move__5 F_part_move b_isinstance b_len b_tuple fl_Lot_own_buttons c_is_integer c_plan_move__4 me_Lot__len
  have c_part_move__5 : FnG P w K mg base "part_move" 8 m_part_move__5 := fng F_part_move g_part_move (fun _ _ _ _ _ _ us hl => match us, hl with | [_, _, _], _ => rfl) o_part_move__5
  have o_plan_move__6 : Pm P w K mg base (L2.CX P w) 9 _ fd_plan_move _ (spM K m_plan_move__6) := ok_plan_move__6 F_plan_move b_isinstance b_len b_tuple k_PLAIN c_is_integer c_often_move c_part_move__5 c_then_move
  have c_plan_move__6 : FnG P w K mg base "plan_move" 9 m_plan_move__6 := fng F_plan_move g_plan_move (fun _ _ _ _ _ _ us hl => match us, hl with | [_, _, _], _ => rfl) o_plan_move__6
  have o_part_move__7 : Pm P w K mg base (L2.CX P w) 10 _ fd_part_move _ (spM K m_part_move__7) := ok_part_move__7 F_part_move b_isinstance b_len b_tuple fl_Lot_own_buttons c_is_integer c_plan_move__6 me_Lot__len
  have c_part_move__7 : FnG P w K mg base "part_move" 10 m_part_move__7 := fng F_part_move g_part_move (fun _ _ _ _ _ _ us hl => match us, hl with | [_, _, _], _ => rfl) o_part_move__7
  have o_plan_move__8 : Pm P w K mg base (L2.CX P w) 11 _ fd_plan_move _ (spM K m_plan_move__8) := ok_plan_move__8 F_plan_move b_isinstance b_len b_tuple k_PLAIN c_is_integer c_often_move c_part_move__7 c_then_move
  have c_plan_move__8 : FnG P w K mg base "plan_move" 11 m_plan_move__8 := fng F_plan_move g_plan_move (fun _ _ _ _ _ _ us hl => match us, hl with | [_, _, _], _ => rfl) o_plan_move__8
  have o_part_move__9 : Pm P w K mg base (L2.CX P w) 12 _ fd_part_move _ (spM K m_part_move__9) := ok_part_move__9 F_part_move b_isinstance b_len b_tuple fl_Lot_own_buttons c_is_integer c_plan_move__8 me_Lot__len
  have c_part_move__9 : FnG P w K mg base "part_move" 12 m_part_move__9 := fng F_part_move g_part_move (fun _ _ _ _ _ _ us hl => match us, hl with | [_, _, _], _ => rfl) o_part_move__9
  have o_plan_move__10 : Pm P w K mg base (L2.CX P w) 13 _ fd_plan_move _ (spM K m_plan_move__10) := ok_plan_move__10 F_plan_move b_isinstance b_len b_tuple k_PLAIN c_is_integer c_often_move c_part_move__9 c_then_move
  have c_plan_move__10 : FnG P w K mg base "plan_move" 13 m_plan_move__10 := fng F_plan_move g_plan_move (fun _ _ _ _ _ _ us hl => match us, hl with | [_, _, _], _ => rfl) o_plan_move__10
  have o_part_move__11 : Pm P w K mg base (L2.CX P w) 14 _ fd_part_move _ (spM K m_part_move__11) := ok_part_move__11 F_part_move b_isinstance b_len b_tuple fl_Lot_own_buttons c_is_integer c_plan_move__10 me_Lot__len
  have c_part_move__11 : FnG P w K mg base "part_move" 14 m_part_move__11 := fng F_part_move g_part_move (fun _ _ _ _ _ _ us hl => match us, hl with | [_, _, _], _ => rfl) o_part_move__11
  have o_plan_move__12 : Pm P w K mg base (L2.CX P w) 15 _ fd_plan_move _ (spM K m_plan_move__12) := ok_plan_move__12 F_plan_move b_isinstance b_len b_tuple k_PLAIN c_is_integer c_often_move c_part_move__11 c_then_move
  have c_plan_move__12 : FnG P w K mg base "plan_move" 15 m_plan_move__12 := fng F_plan_move g_plan_move (fun _ _ _ _ _ _ us hl => match us, hl with | [_, _, _], _ => rfl) o_plan_move__12
  have o_shows_made : Pm P w K mg base (L2.CX P w) 16 _ fd_shows_made _ (spM K m_shows_made) := ok_shows_made F_shows_made k_MOST_DEPTH c_is_move c_plan_move__12
  have c_shows_made : FnG P w K mg base "shows_made" 16 m_shows_made := fng F_shows_made g_shows_made (fun _ _ _ _ _ _ us hl => match us, hl with | [_, _, _], _ => rfl) o_shows_made
  have o_rest_of : Pm P w K mg base (L2.CX P w) 1 _ fd_rest_of _ (spM K m_rest_of) := ok_rest_of F_rest_of
  have c_rest_of : FnG P w K mg base "rest_of" 1 m_rest_of := fng F_rest_of g_rest_of (fun _ _ _ _ _ _ us hl => match us, hl with | [_, _], _ => rfl) o_rest_of
  have o_shares_of : Pm P w K mg base (L2.CX P w) 1 _ fd_shares_of _ (spM K m_shares_of) := ok_shares_of F_shares_of
  have c_shares_of : FnG P w K mg base "shares_of" 1 m_shares_of := fng F_shares_of g_shares_of (fun _ _ _ _ _ _ us hl => match us, hl with | [_, _, _], _ => rfl) o_shares_of
  have o_led_to : Pm P w K mg base (L2.CX P w) 2 _ fd_led_to _ (spM K m_led_to) := ok_led_to F_led_to k_PLAIN c_often_move c_then_move
  have c_led_to : FnG P w K mg base "led_to" 2 m_led_to := fng F_led_to g_led_to (fun _ _ _ _ _ _ us hl => match us, hl with | [_, _], _ => rfl) o_led_to
  have o_tells : Pm P w K mg base (L2.CX P w) 3 _ fd_tells _ (spM K m_tells) := ok_tells F_tells c_led_to c_rest_of c_shares_of
  have c_tells : FnG P w K mg base "tells" 3 m_tells := fng F_tells g_tells (fun _ _ _ _ _ _ us hl => match us, hl with | [_, _], _ => rfl) o_tells
  have o_is_count : Pm P w K mg base (L2.CX P w) 2 _ fd_is_count _ (spM K m_is_count) := ok_is_count F_is_count c_is_integer
  have c_is_count : FnG P w K mg base "is_count" 2 m_is_count := fng F_is_count g_is_count (fun _ _ _ _ _ _ us hl => match us, hl with | [_], _ => rfl) o_is_count
  have o_is_within : Pm P w K mg base (L2.CX P w) 1 _ fd_is_within _ (spM K m_is_within) := ok_is_within F_is_within
  have c_is_within : FnG P w K mg base "is_within" 1 m_is_within := fng F_is_within g_is_within (fun _ _ _ _ _ _ us hl => match us, hl with | [_, _], _ => rfl) o_is_within
  have o_is_east : Pm P w K mg base (L2.CX P w) 3 _ fd_is_east _ (spM K m_is_east) := ok_is_east F_is_east c_is_move c_is_within
  have c_is_east : FnG P w K mg base "is_east" 3 m_is_east := fng F_is_east g_is_east (fun _ _ _ _ _ _ us hl => match us, hl with | [_, _], _ => rfl) o_is_east
  have o_is_none : Pm P w K mg base (L2.CX P w) 1 _ fd_is_none _ (spM K m_is_none) := ok_is_none F_is_none b_isinstance b_len b_tuple
  have c_is_none : FnG P w K mg base "is_none" 1 m_is_none := fng F_is_none g_is_none (fun _ _ _ _ _ _ us hl => match us, hl with | [_], _ => rfl) o_is_none
  have o_is_north : Pm P w K mg base (L2.CX P w) 3 _ fd_is_north _ (spM K m_is_north) := ok_is_north F_is_north c_is_move c_is_within
  have c_is_north : FnG P w K mg base "is_north" 3 m_is_north := fng F_is_north g_is_north (fun _ _ _ _ _ _ us hl => match us, hl with | [_, _], _ => rfl) o_is_north
  have o_is_form : Pm P w K mg base (L2.CX P w) 4 _ fd_is_form _ (spM K m_is_form) := ok_is_form F_is_form b_isinstance b_len b_tuple c_is_count c_is_east c_is_none c_is_north
  have c_is_form : FnG P w K mg base "is_form" 4 m_is_form := fng F_is_form g_is_form (fun _ _ _ _ _ _ us hl => match us, hl with | [_], _ => rfl) o_is_form
  have o_shows_missed : Pm P w K mg base (L2.CX P w) 5 _ fd_shows_missed _ (spM K m_shows_missed) := ok_shows_missed F_shows_missed b_all fl_Lot_own_buttons c_is_form c_is_move c_tells
  have c_shows_missed : FnG P w K mg base "shows_missed" 5 m_shows_missed := fng F_shows_missed g_shows_missed (fun _ _ _ _ _ _ us hl => match us, hl with | [_, _, _], _ => rfl) o_shows_missed
  have o_shows_all : Pm P w K mg base (L2.CX P w) 16 _ fd_shows_all _ (spM K m_shows_all) := ok_shows_all F_shows_all b_all b_isinstance b_len b_tuple b_zip k_MOST_DEPTH c_plan_move__12
  have c_shows_all : FnG P w K mg base "shows_all" 16 m_shows_all := fng F_shows_all g_shows_all (fun _ _ _ _ _ _ us hl => match us, hl with | [_, _, _], _ => rfl) o_shows_all
  have o_shows_same : Pm P w K mg base (L2.CX P w) 17 _ fd_shows_same _ (spM K m_shows_same) := ok_shows_same F_shows_same b_isinstance b_len b_tuple fl_Lot_own_buttons c_shows_all
  have c_shows_same : FnG P w K mg base "shows_same" 17 m_shows_same := fng F_shows_same g_shows_same (fun _ _ _ _ _ _ us hl => match us, hl with | [_, _, _], _ => rfl) o_shows_same
  have o_undone_move : Pm P w K mg base (L2.CX P w) 1 _ fd_undone_move _ (spM K m_undone_move) := ok_undone_move F_undone_move
  have c_undone_move : FnG P w K mg base "undone_move" 1 m_undone_move := fng F_undone_move g_undone_move (fun _ _ _ _ _ _ us hl => match us, hl with | [_], _ => rfl) o_undone_move
  have o_around_move : Pm P w K mg base (L2.CX P w) 1 _ fd_around_move _ (spM K m_around_move) := ok_around_move F_around_move
  have c_around_move : FnG P w K mg base "around_move" 1 m_around_move := fng F_around_move g_around_move (fun _ _ _ _ _ _ us hl => match us, hl with | [_, _], _ => rfl) o_around_move
  have o_shows_moved : Pm P w K mg base (L2.CX P w) 17 _ fd_shows_moved _ (spM K m_shows_moved) := ok_shows_moved F_shows_moved b_isinstance b_len b_tuple fl_Lot_own_buttons c_around_move c_is_move c_shows_all c_undone_move
  have c_shows_moved : FnG P w K mg base "shows_moved" 17 m_shows_moved := fng F_shows_moved g_shows_moved (fun _ _ _ _ _ _ us hl => match us, hl with | [_, _, _], _ => rfl) o_shows_moved
  have o_shows_of_lots : Pm P w K mg base (L2.CX P w) 18 _ fd_shows_of_lots _ (spM K m_shows_of_lots) := ok_shows_of_lots F_shows_of_lots g_shows_moved g_shows_same c_shows_moved c_shows_same c_text_lot
  have c_shows_of_lots : FnG P w K mg base "shows_of_lots" 18 m_shows_of_lots := fng F_shows_of_lots g_shows_of_lots (fun _ _ _ _ _ _ us hl => match us, hl with | [_, _], _ => rfl) o_shows_of_lots
  have o_shows_of_moves : Pm P w K mg base (L2.CX P w) 3 _ fd_shows_of_moves _ (spM K m_shows_of_moves) := ok_shows_of_moves F_shows_of_moves c_around_move c_is_integer c_is_move c_often_move
  have c_shows_of_moves : FnG P w K mg base "shows_of_moves" 3 m_shows_of_moves := fng F_shows_of_moves g_shows_of_moves (fun _ _ _ _ _ _ us hl => match us, hl with | [_, _], _ => rfl) o_shows_of_moves
  have o_accepts : Pm P w K mg base (L2.CX P w) 19 _ fd_accepts _ (spM K m_accepts) := ok_accepts F_accepts b_isinstance b_len b_str b_tuple k_LENGTHS g_shows_made g_shows_missed c_shows_made c_shows_missed c_shows_of_lots c_shows_of_moves c_text_lot
  have c_accepts : FnG P w K mg base "accepts" 19 m_accepts := fng F_accepts g_accepts (fun _ _ _ _ _ _ us hl => match us, hl with | [_, _], _ => rfl) o_accepts
  have w_accepts_0_certificate_claim : FnK P w K mg base "accepts" 19 0 ["certificate", "claim"] [1, 0] m_accepts := fnk F_accepts g_accepts 0 ["certificate", "claim"] [1, 0] (fun _ _ _ _ _ _ us ws hl hl2 => match us, ws, hl, hl2 with | [], [_, _], _, _ => rfl) o_accepts
  have o__law_draw : Pm P w K mg base (L2.CX P w) 1 _ fd__law_draw _ (spM K m__law_draw) := ok__law_draw F__law_draw b_divmod b_int
  have c__law_draw : FnG P w K mg base "_law_draw" 1 m__law_draw := fng F__law_draw g__law_draw (fun _ _ _ _ _ _ us hl => match us, hl with | [_, _], _ => rfl) o__law_draw
  have o__law_pick : Pm P w K mg base (L2.CX P w) 2 _ fd__law_pick _ (spM K m__law_pick) := ok__law_pick F__law_pick b_len c__law_draw
  have c__law_pick : FnG P w K mg base "_law_pick" 2 m__law_pick := fng F__law_pick g__law_pick (fun _ _ _ _ _ _ us hl => match us, hl with | [_, _], _ => rfl) o__law_pick
  have o__law_great : Pm P w K mg base (L2.CX P w) 2 _ fd__law_great _ (spM K m__law_great) := ok__law_great F__law_great b_range c__law_draw
  have c__law_great : FnG P w K mg base "_law_great" 2 m__law_great := fng F__law_great g__law_great (fun _ _ _ _ _ _ us hl => match us, hl with | [_], _ => rfl) o__law_great
  have o__law_good : Pm P w K mg base (L2.CX P w) 3 _ fd__law_good _ (spM K m__law_good) := ok__law_good F__law_good b_str c__law_draw c__law_great
  have c__law_good : FnG P w K mg base "_law_good" 3 m__law_good := fng F__law_good g__law_good (fun _ _ _ _ _ _ us hl => match us, hl with | [_], _ => rfl) o__law_good
  have o__law_odd : Pm P w K mg base (L2.CX P w) 3 _ fd__law_odd _ (spM K m__law_odd) := ok__law_odd F__law_odd c__law_pick
  have c__law_odd : FnG P w K mg base "_law_odd" 3 m__law_odd := fng F__law_odd g__law_odd (fun _ _ _ _ _ _ us hl => match us, hl with | [_], _ => rfl) o__law_odd
  have o__law_put__0 : Pm P w K mg base (L2.CX P w) 1 _ fd__law_put _ (spM K m__law_put__0) := ok__law_put__0 F__law_put
  have c__law_put__0 : FnG P w K mg base "_law_put" 1 m__law_put__0 := fng F__law_put g__law_put (fun _ _ _ _ _ _ us hl => match us, hl with | [_, _, _, _], _ => rfl) o__law_put__0
  have o__law_put__1 : Pm P w K mg base (L2.CX P w) 2 _ fd__law_put _ (spM K m__law_put__1) := ok__law_put__1 F__law_put b_isinstance b_len b_tuple c__law_draw c__law_put__0
  have c__law_put__1 : FnG P w K mg base "_law_put" 2 m__law_put__1 := fng F__law_put g__law_put (fun _ _ _ _ _ _ us hl => match us, hl with | [_, _, _, _], _ => rfl) o__law_put__1
  have o__law_put__2 : Pm P w K mg base (L2.CX P w) 3 _ fd__law_put _ (spM K m__law_put__2) := ok__law_put__2 F__law_put b_isinstance b_len b_tuple c__law_draw c__law_put__1
  have c__law_put__2 : FnG P w K mg base "_law_put" 3 m__law_put__2 := fng F__law_put g__law_put (fun _ _ _ _ _ _ us hl => match us, hl with | [_, _, _, _], _ => rfl) o__law_put__2
  have o__law_put__3 : Pm P w K mg base (L2.CX P w) 4 _ fd__law_put _ (spM K m__law_put__3) := ok__law_put__3 F__law_put b_isinstance b_len b_tuple c__law_draw c__law_put__2
  have c__law_put__3 : FnG P w K mg base "_law_put" 4 m__law_put__3 := fng F__law_put g__law_put (fun _ _ _ _ _ _ us hl => match us, hl with | [_, _, _, _], _ => rfl) o__law_put__3
  have o__law_put__4 : Pm P w K mg base (L2.CX P w) 5 _ fd__law_put _ (spM K m__law_put__4) := ok__law_put__4 F__law_put b_isinstance b_len b_tuple c__law_draw c__law_put__3
  have c__law_put__4 : FnG P w K mg base "_law_put" 5 m__law_put__4 := fng F__law_put g__law_put (fun _ _ _ _ _ _ us hl => match us, hl with | [_, _, _, _], _ => rfl) o__law_put__4
  have o__law_put__5 : Pm P w K mg base (L2.CX P w) 6 _ fd__law_put _ (spM K m__law_put__5) := ok__law_put__5 F__law_put b_isinstance b_len b_tuple c__law_draw c__law_put__4
  have c__law_put__5 : FnG P w K mg base "_law_put" 6 m__law_put__5 := fng F__law_put g__law_put (fun _ _ _ _ _ _ us hl => match us, hl with | [_, _, _, _], _ => rfl) o__law_put__5
  have o__law_put__6 : Pm P w K mg base (L2.CX P w) 7 _ fd__law_put _ (spM K m__law_put__6) := ok__law_put__6 F__law_put b_isinstance b_len b_tuple c__law_draw c__law_put__5
  have c__law_put__6 : FnG P w K mg base "_law_put" 7 m__law_put__6 := fng F__law_put g__law_put (fun _ _ _ _ _ _ us hl => match us, hl with | [_, _, _, _], _ => rfl) o__law_put__6
  have o__law_put__7 : Pm P w K mg base (L2.CX P w) 8 _ fd__law_put _ (spM K m__law_put__7) := ok__law_put__7 F__law_put b_isinstance b_len b_tuple c__law_draw c__law_put__6
  have c__law_put__7 : FnG P w K mg base "_law_put" 8 m__law_put__7 := fng F__law_put g__law_put (fun _ _ _ _ _ _ us hl => match us, hl with | [_, _, _, _], _ => rfl) o__law_put__7
  have o__law_put__8 : Pm P w K mg base (L2.CX P w) 9 _ fd__law_put _ (spM K m__law_put__8) := ok__law_put__8 F__law_put b_isinstance b_len b_tuple c__law_draw c__law_put__7
  have c__law_put__8 : FnG P w K mg base "_law_put" 9 m__law_put__8 := fng F__law_put g__law_put (fun _ _ _ _ _ _ us hl => match us, hl with | [_, _, _, _], _ => rfl) o__law_put__8
  have o__law_put__9 : Pm P w K mg base (L2.CX P w) 10 _ fd__law_put _ (spM K m__law_put__9) := ok__law_put__9 F__law_put b_isinstance b_len b_tuple c__law_draw c__law_put__8
  have c__law_put__9 : FnG P w K mg base "_law_put" 10 m__law_put__9 := fng F__law_put g__law_put (fun _ _ _ _ _ _ us hl => match us, hl with | [_, _, _, _], _ => rfl) o__law_put__9
  have o__law_put__10 : Pm P w K mg base (L2.CX P w) 11 _ fd__law_put _ (spM K m__law_put__10) := ok__law_put__10 F__law_put b_isinstance b_len b_tuple c__law_draw c__law_put__9
  have c__law_put__10 : FnG P w K mg base "_law_put" 11 m__law_put__10 := fng F__law_put g__law_put (fun _ _ _ _ _ _ us hl => match us, hl with | [_, _, _, _], _ => rfl) o__law_put__10
  have o__law_put__11 : Pm P w K mg base (L2.CX P w) 12 _ fd__law_put _ (spM K m__law_put__11) := ok__law_put__11 F__law_put b_isinstance b_len b_tuple c__law_draw c__law_put__10
  have c__law_put__11 : FnG P w K mg base "_law_put" 12 m__law_put__11 := fng F__law_put g__law_put (fun _ _ _ _ _ _ us hl => match us, hl with | [_, _, _, _], _ => rfl) o__law_put__11
  have o__law_put__12 : Pm P w K mg base (L2.CX P w) 13 _ fd__law_put _ (spM K m__law_put__12) := ok__law_put__12 F__law_put b_isinstance b_len b_tuple c__law_draw c__law_put__11
  have c__law_put__12 : FnG P w K mg base "_law_put" 13 m__law_put__12 := fng F__law_put g__law_put (fun _ _ _ _ _ _ us hl => match us, hl with | [_, _, _, _], _ => rfl) o__law_put__12
  have o__law_wrong : Pm P w K mg base (L2.CX P w) 3 _ fd__law_wrong _ (spM K m__law_wrong) := ok__law_wrong F__law_wrong b_len b_list c__law_draw c__law_pick
  have c__law_wrong : FnG P w K mg base "_law_wrong" 3 m__law_wrong := fng F__law_wrong g__law_wrong (fun _ _ _ _ _ _ us hl => match us, hl with | [_, _], _ => rfl) o__law_wrong
  have o__law_right : Pm P w K mg base (L2.CX P w) 20 _ fd__law_right _ (spM K m__law_right) := ok__law_right F__law_right b_range c__law_good c__law_odd c__law_pick c__law_put__12 c__law_wrong c_accepts w_accepts_0_certificate_claim
  have c__law_right : FnG P w K mg base "_law_right" 20 m__law_right := fng F__law_right g__law_right (fun _ _ _ _ _ _ us hl => match us, hl with | [_], _ => rfl) o__law_right
  exact ok_law F_law b_all b_len b_max b_min b_range c__law_right c__law_well
end A46

set_option Elab.async false
set_option linter.all false
set_option maxRecDepth 100000
set_option maxHeartbeats 0
open PySem PySem.W PySem.Calls PyProof.Rows
theorem PySem.Challenge.cw_arealots_k46_things_of_any_kind_judged_holds : PySem.Challenge.rw_arealots_k46_things_of_any_kind_judged.Holds := by
  w_on; o_law
  o_head A46.hk
  case hw => w_witness2
  case hc =>
    refine Ar.walk (l := PySem.Challenge.rw_arealots_k46_things_of_any_kind_judged) (n := 63) (k := 21) (x := "script") rfl (by decide) rfl ⟨⟨rfl, by decide, by decide⟩, rfl⟩ ?F
    intro w mg fa h Y G hmg0
    obtain ⟨K, KX, c⟩ := Y
    have hmg : mg ("law" : PySem.Str) = some (.ref fa) := hmg0
    obtain ⟨fd, hb, hF⟩ := A46.facts (P := (PySem.Challenge.rw_arealots_k46_things_of_any_kind_judged).prog) (w := w) KX G hmg c
    exact ⟨K, fd, A46.m_law, KX, hb, A46.law_true, hF⟩
