import PyProof.Rows.All
import Wide.All
import OpenK.AllK
import Wide.FinOn
import HandS.ForMost
import HandS.ForExc
import HandS.Wide
import HandS.WideMore
import HandS.Defaults
import HandS.Slots
import HandS.Lambda
import HandS.SlotsOwn
import HandS.IsInst
import HandS.Zip
import HandS.HeadHook2
import HandS.TupAny
import HandS.Style
import HandS.Flow
import KE.DataEq
import HandS.WideBits
import HandS.Iter
import HandS.Ends
import KE.GoesEnum
import KE.KStateDown
import HandS.Head0
import HandS.Head1
import HandS.Head2
import HandS.HeadEnd
import HandS.HeadHook3
import HandS.WrittenGet
import PyProof.StrBlock2
import PyProof.SliceStr2
import KE.KRevSl
import HandS.RaiseMore
import HandS.Star
import HandS.NoneIn
import KE.DataMinMax
import HandS.NamedTupGet
import HandS.Conv
import HandS.TupMul
import KE.KCallOwn
import KE.KFmtOwn
import PyProof.CallFns
import HandS.ClsMeth
import HandS.HotCalls
import HandS.ExcInit
import HandS.ExcIs
import HandS.ExcField
import KE.KTryMore
import HandS.EndTab
import HandS.HeadHook4
import HandS.MakeKwOnly
import HandS.ReplaceLit
import HandS.More
import HandS.FStr
import HandS.Property
import PyProof.Rows.RaiseClass
import PyProof.ExcBaseAll.ArithmeticError
import HandS.SetKeys
import PyProof.Rows.SetFrom
import PyProof.Rows.SetListFold
import HandS.Sort
import HandS.Text
import PySem.Challenge.RW_arealots_k10_whole_direct_walks_in_order
set_option Elab.async false
set_option linter.all false
set_option maxRecDepth 100000
set_option maxHeartbeats 2000000
/-! Ar1: data D beside the layer's values, the second heap F of what never changes, results R, what simulates what -/
namespace Ar
open PySem PySem.Spec PyProof.Rows L2

/-! ### data -/
inductive D where
  | non | bl (b : Bool) | int (i : Int) | str (x : Str)
  | tup (ds : List D) | lst (ds : List D) | scr (ds : List D)
  | ins (C : Str) (fs : List (Str × D))
  | slt (C : Str) (ds : List D)
  | dK (kvs : List (Key × D))
  | loc (n : Nat)
  | glo (x : Str)
  | ty (n : String)
  | exn (a dd : Addr) (f : Str) (d : D)
  | adr (a : Addr)
  | clo (f c : Addr) (q : Str) (σ : L2.St) (Γ : List (Option D))
  deriving Inhabited
/-- what a place holds that may change -/
inductive MO where
  | dead
  | lst (ds : List D)
  | frz (ds : List D)
  | ins (C : Str) (fs : List (Str × D))
  | dK (kvs : List (Key × D))
  | dT (kvs : List (List Key × D))
  | tab (P : Addr) (q : Str)
  deriving Inhabited
abbrev Mu := List MO
abbrev Gam := List (Option D)
abbrev ExK := Str × Option (Str × D)

mutual
inductive Dn (K : PySem.W.Frag) (ρ : List Addr) (F : Hp) : V → D → Prop
  | non : Dn K ρ F .non .non
  | bl (b : Bool) : Dn K ρ F (.bl b) (.bl b)
  | int (i : Int) : Dn K ρ F (.int i) (.int i)
  | str (x : Str) : Dn K ρ F (.str x) (.str x)
  | tup {a : Addr} {vs : List V} {ds : List D} : SqT K F a vs → DnAll K ρ F vs ds → Dn K ρ F (.ref a) (.tup ds)
  | lst {a : Addr} {vs : List V} {ds : List D} : F a = some (.lst vs) → DnAll K ρ F vs ds → Dn K ρ F (.ref a) (.lst ds)
  | scr {a : Addr} {vs : List V} {ds : List D} : SqL K F a vs → DnAll K ρ F vs ds → Dn K ρ F (.ref a) (.scr ds)
  | ins {a dx : Addr} {C : Str} {vs : List (Str × V)} {fs : List (Str × D)} : F a = some (.ins (He.ga K C) dx vs) → DnF K ρ F vs fs → Dn K ρ F (.ref a) (.ins C fs)
  | slt {a dx : Addr} {C : Str} {vs : List V} {ds : List D} : F a = some (SlX.SlO a (He.ga K C) dx (vs.map some)) → F dx = some (.xd []) → DnAll K ρ F vs ds → Dn K ρ F (.ref a) (.slt C ds)
  | dK {a : Addr} {vs : List (Key × V)} {kvs : List (Key × D)} : F a = some (.dK vs) → DnK K ρ F vs kvs → Dn K ρ F (.ref a) (.dK kvs)
  | loc {a : Addr} {n : Nat} : ρ[n]? = some a → Dn K ρ F (.ref a) (.loc n)
  | glo (x : Str) : Dn K ρ F (.ref (He.ga K x)) (.glo x)
  | ty (n : String) : Dn K ρ F (.ty n) (.ty n)
  | exn {a dd : Addr} {f : Str} {v : V} {d : D} : F dd = some (.xd [(f, v)]) → Dn K ρ F v d → Dn K ρ F (.ref a) (.exn a dd f d)
  | adr (a : Addr) : Dn K ρ F (.ref a) (.adr a)
  | clo {f c : Addr} {q : Str} {σ : L2.St} {Γ : List (Option D)} : F c = some (LamX.CodeO c q) → DnO K ρ F σ Γ → Dn K ρ F (.ref f) (.clo f c q σ Γ)
inductive DnO (K : PySem.W.Frag) (ρ : List Addr) (F : Hp) : L2.St → List (Option D) → Prop
  | nil : DnO K ρ F [] []
  | skip {o : Option V} {σ : L2.St} {Γ : List (Option D)} : DnO K ρ F σ Γ → DnO K ρ F (o :: σ) (none :: Γ)
  | cons {v : V} {d : D} {σ : L2.St} {Γ : List (Option D)} : Dn K ρ F v d → DnO K ρ F σ Γ → DnO K ρ F (some v :: σ) (some d :: Γ)
inductive DnAll (K : PySem.W.Frag) (ρ : List Addr) (F : Hp) : List V → List D → Prop
  | nil : DnAll K ρ F [] []
  | cons {v : V} {vs : List V} {d : D} {ds : List D} : Dn K ρ F v d → DnAll K ρ F vs ds → DnAll K ρ F (v :: vs) (d :: ds)
inductive DnF (K : PySem.W.Frag) (ρ : List Addr) (F : Hp) : List (Str × V) → List (Str × D) → Prop
  | nil : DnF K ρ F [] []
  | cons {f : Str} {v : V} {vs : List (Str × V)} {d : D} {ds : List (Str × D)} : Dn K ρ F v d → DnF K ρ F vs ds → DnF K ρ F ((f, v) :: vs) ((f, d) :: ds)
inductive DnK (K : PySem.W.Frag) (ρ : List Addr) (F : Hp) : List (Key × V) → List (Key × D) → Prop
  | nil : DnK K ρ F [] []
  | cons {f : Key} {v : V} {vs : List (Key × V)} {d : D} {ds : List (Key × D)} : Dn K ρ F v d → DnK K ρ F vs ds → DnK K ρ F ((f, v) :: vs) ((f, d) :: ds)
end
/-- the same of a dict with tuple keys -/
inductive DnT (K : PySem.W.Frag) (ρ : List Addr) (F : Hp) : List (List Key × V) → List (List Key × D) → Prop
  | nil : DnT K ρ F [] []
  | cons {f : List Key} {v : V} {vs : List (List Key × V)} {d : D} {ds : List (List Key × D)} : Dn K ρ F v d → DnT K ρ F vs ds → DnT K ρ F ((f, v) :: vs) ((f, d) :: ds)

def Sub (F H : Hp) : Prop := ∀ a o, F a = some o → H a = some o
theorem Sub.refl (F : Hp) : Sub F F := fun _ _ h => h
theorem Sub.trans {F G H : Hp} (a : Sub F G) (b : Sub G H) : Sub F H := fun x o h => b x o (a x o h)
theorem Sub.rd {F H : Hp} {a : Addr} {u : HO} (e : Sub F H) (h : Rd F a u) : Rd H a u := by
  rcases h with h | ⟨o, h⟩
  · exact Or.inl (e a _ h)
  · exact Or.inr ⟨o, e a _ h⟩
theorem Sub.sqL {K : PySem.W.Frag} {F H : Hp} {a : Addr} {xs : List V} (e : Sub F H) (h : SqL K F a xs) : SqL K H a xs := by
  rcases h with h | h
  · exact Or.inl (e.rd h)
  · exact Or.inr h
theorem Sub.sqT {K : PySem.W.Frag} {F H : Hp} {a : Addr} {xs : List V} (e : Sub F H) (h : SqT K F a xs) : SqT K H a xs := by
  rcases h with h | h
  · exact Or.inl (e.rd h)
  · exact Or.inr h

section
variable {K : PySem.W.Frag} {ρ ρ' : List Addr} {F F' : Hp}
mutual
theorem Dn.mono (p : ∀ (n : Nat) a, ρ[n]? = some a → ρ'[n]? = some a) (e : Sub F F') : ∀ {v : V} {d : D}, Dn K ρ F v d → Dn K ρ' F' v d
  | _, _, .non => .non
  | _, _, .bl b => .bl b
  | _, _, .int i => .int i
  | _, _, .str x => .str x
  | _, _, .tup h t => .tup (e.sqT h) (DnAll.mono p e t)
  | _, _, .lst h t => .lst (e _ _ h) (DnAll.mono p e t)
  | _, _, .scr h t => .scr (e.sqL h) (DnAll.mono p e t)
  | _, _, .ins h t => .ins (e _ _ h) (DnF.mono p e t)
  | _, _, .slt h h2 t => .slt (e _ _ h) (e _ _ h2) (DnAll.mono p e t)
  | _, _, .dK h t => .dK (e _ _ h) (DnK.mono p e t)
  | _, _, .loc h => .loc (p _ _ h)
  | _, _, .glo x => .glo x
  | _, _, .ty n => .ty n
  | _, _, .exn h t => .exn (e _ _ h) (Dn.mono p e t)
  | _, _, .adr a => .adr a
  | _, _, .clo h t => .clo (e _ _ h) (DnO.mono p e t)
theorem DnO.mono (p : ∀ (n : Nat) a, ρ[n]? = some a → ρ'[n]? = some a) (e : Sub F F') : ∀ {σ : L2.St} {Γ : List (Option D)}, DnO K ρ F σ Γ → DnO K ρ' F' σ Γ
  | _, _, .nil => .nil
  | _, _, .skip t => .skip (DnO.mono p e t)
  | _, _, .cons h t => .cons (Dn.mono p e h) (DnO.mono p e t)
theorem DnAll.mono (p : ∀ (n : Nat) a, ρ[n]? = some a → ρ'[n]? = some a) (e : Sub F F') : ∀ {vs : List V} {ds : List D}, DnAll K ρ F vs ds → DnAll K ρ' F' vs ds
  | _, _, .nil => .nil
  | _, _, .cons h t => .cons (Dn.mono p e h) (DnAll.mono p e t)
theorem DnF.mono (p : ∀ (n : Nat) a, ρ[n]? = some a → ρ'[n]? = some a) (e : Sub F F') : ∀ {vs : List (Str × V)} {ds : List (Str × D)}, DnF K ρ F vs ds → DnF K ρ' F' vs ds
  | _, _, .nil => .nil
  | _, _, .cons h t => .cons (Dn.mono p e h) (DnF.mono p e t)
theorem DnK.mono (p : ∀ (n : Nat) a, ρ[n]? = some a → ρ'[n]? = some a) (e : Sub F F') : ∀ {vs : List (Key × V)} {ds : List (Key × D)}, DnK K ρ F vs ds → DnK K ρ' F' vs ds
  | _, _, .nil => .nil
  | _, _, .cons h t => .cons (Dn.mono p e h) (DnK.mono p e t)
end
theorem DnT.mono (p : ∀ (n : Nat) a, ρ[n]? = some a → ρ'[n]? = some a) (e : Sub F F') : ∀ {vs : List (List Key × V)} {ds : List (List Key × D)}, DnT K ρ F vs ds → DnT K ρ' F' vs ds
  | _, _, .nil => .nil
  | _, _, .cons h t => .cons (h.mono p e) (DnT.mono p e t)
theorem DnAll.length : ∀ {vs : List V} {ds : List D}, DnAll K ρ F vs ds → vs.length = ds.length
  | _, _, .nil => rfl
  | _, _, .cons _ t => congrArg Nat.succ (DnAll.length t)
theorem DnAll.get : ∀ {vs : List V} {ds : List D} {i : Nat} {d : D}, DnAll K ρ F vs ds → ds[i]? = some d → ∃ v, vs[i]? = some v ∧ Dn K ρ F v d
  | _, _, 0, _, .cons h _, e => ⟨_, rfl, by simp at e; subst e; exact h⟩
  | _, _, i + 1, _, .cons _ t, e => by
    obtain ⟨v, h1, h2⟩ := DnAll.get (i := i) t (by simpa using e)
    exact ⟨v, by simpa using h1, h2⟩
  | _, _, _, _, .nil, e => by simp at e
theorem DnAll.getV : ∀ {vs : List V} {ds : List D} {i : Nat} {v : V}, DnAll K ρ F vs ds → vs[i]? = some v → ∃ d, ds[i]? = some d ∧ Dn K ρ F v d
  | _, _, 0, _, .cons h _, e => ⟨_, rfl, by simp at e; subst e; exact h⟩
  | _, _, i + 1, _, .cons _ t, e => by
    obtain ⟨v, h1, h2⟩ := DnAll.getV (i := i) t (by simpa using e)
    exact ⟨v, by simpa using h1, h2⟩
  | _, _, _, _, .nil, e => by simp at e
theorem DnAll.append : ∀ {vs ws : List V} {ds es : List D}, DnAll K ρ F vs ds → DnAll K ρ F ws es → DnAll K ρ F (vs ++ ws) (ds ++ es)
  | _, _, _, _, .nil, t => t
  | _, _, _, _, .cons h r, t => .cons h (DnAll.append r t)
theorem DnAll.take : ∀ {vs : List V} {ds : List D} (n : Nat), DnAll K ρ F vs ds → DnAll K ρ F (vs.take n) (ds.take n)
  | _, _, 0, _ => .nil
  | _, _, _ + 1, .nil => .nil
  | _, _, n + 1, .cons h t => .cons h (DnAll.take n t)
theorem DnAll.drop : ∀ {vs : List V} {ds : List D} (n : Nat), DnAll K ρ F vs ds → DnAll K ρ F (vs.drop n) (ds.drop n)
  | _, _, 0, h => h
  | _, _, _ + 1, .nil => .nil
  | _, _, n + 1, .cons _ t => DnAll.drop n t
theorem DnAll.set {v : V} {d : D} (h : Dn K ρ F v d) : ∀ {vs : List V} {ds : List D} (n : Nat), DnAll K ρ F vs ds → DnAll K ρ F (vs.set n v) (ds.set n d)
  | _, _, _, .nil => .nil
  | _, _, 0, .cons _ t => .cons h t
  | _, _, n + 1, .cons q t => .cons q (DnAll.set h n t)
end

/-! ### the two heaps -/
def MOk (K : PySem.W.Frag) (ρ : List Addr) (F H : Hp) (a : Addr) : MO → Prop
  | .dead => ∃ o, H a = some o
  | .lst ds => F a = none ∧ ∃ vs, H a = some (.lst vs) ∧ DnAll K ρ F vs ds
  | .frz ds => ∃ vs, F a = some (.lst vs) ∧ DnAll K ρ F vs ds
  | .ins C fs => F a = none ∧ ∃ dx vs, H a = some (.ins (He.ga K C) dx vs) ∧ DnF K ρ F vs fs
  | .dK kvs => F a = none ∧ ∃ vs, H a = some (.dK vs) ∧ DnK K ρ F vs kvs
  | .dT kvs => F a = none ∧ ∃ vs, H a = some (.dT vs) ∧ DnT K ρ F vs kvs
  | .tab P q => a = P ∧ F a = none ∧ ∃ ps : Array Value, H a = some (.tbl ps) ∧ TriplesOk ps.toList ∧ ∀ (pos : Pos) (cv : Value), codeAmong pos ps.toList = some cv → ∃ c, cv = .ref c ∧ F c = some (LamX.CodeO c q)

structure HpOk (K : PySem.W.Frag) (ρ : List Addr) (μ : Mu) (F H : Hp) : Prop where
  ex : Sub F H
  len : μ.length = ρ.length
  nd : ρ.Nodup
  mu : ∀ (n : Nat) a o, ρ[n]? = some a → μ[n]? = some o → MOk K ρ F H a o

/-- growth -/
structure Nx (ρ : List Addr) (F H : Hp) (ρ' : List Addr) (F' H' : Hp) : Prop where
  pre : ∀ (n : Nat) a, ρ[n]? = some a → ρ'[n]? = some a
  ex : Sub F F'
  keep : ∀ a o, H a = some o → a ∉ ρ → H' a = some o
  newR : ∀ a, a ∈ ρ' → a ∈ ρ ∨ H a = none
  newF : ∀ a o, F' a = some o → F a = some o ∨ H a = none ∨ a ∈ ρ
  there : ∀ a, H' a = none → H a = none

section
variable {K : PySem.W.Frag} {ρ ρ' ρ'' : List Addr} {F F' F'' H H' H'' : Hp} {μ μ' : Mu}
theorem Nx.refl : Nx ρ F H ρ F H := ⟨fun _ _ h => h, fun _ _ h => h, fun _ _ h _ => h, fun _ h => .inl h, fun _ _ h => .inl h, fun _ h => h⟩
theorem Nx.mem (x : Nx ρ F H ρ' F' H') {a : Addr} (h : a ∈ ρ) : a ∈ ρ' := by
  obtain ⟨n, e⟩ := List.mem_iff_getElem?.mp h
  exact List.mem_of_getElem? (x.pre n a e)
theorem Nx.trans (a : Nx ρ F H ρ' F' H') (b : Nx ρ' F' H' ρ'' F'' H'') : Nx ρ F H ρ'' F'' H'' where
  pre := fun n x h => b.pre n x (a.pre n x h)
  ex := a.ex.trans b.ex
  keep := fun x o h hn => b.keep x o (a.keep x o h hn) fun z => by
    rcases a.newR x z with z | z
    · exact hn z
    · rw [h] at z
      cases z
  newR := fun x h => by
    rcases b.newR x h with z | z
    · exact a.newR x z
    · exact .inr (a.there x z)
  newF := fun x o h => by
    rcases b.newF x o h with z | z | z
    · exact a.newF x o z
    · exact .inr (.inl (a.there x z))
    · rcases a.newR x z with y | y
      · exact .inr (.inr y)
      · exact .inr (.inl y)
  there := fun x h => a.there x (b.there x h)
theorem Dn.nx (x : Nx ρ F H ρ' F' H') {v : V} {d : D} (h : Dn K ρ F v d) : Dn K ρ' F' v d := h.mono x.pre x.ex
theorem DnAll.nx (x : Nx ρ F H ρ' F' H') {v : List V} {d : List D} (h : DnAll K ρ F v d) : DnAll K ρ' F' v d := h.mono x.pre x.ex

theorem HpOk.tracked (k : HpOk K ρ μ F H) {n : Nat} {a : Addr} (e : ρ[n]? = some a) : ∃ o, H a = some o := by
  have hn : n < μ.length := by
    rw [k.len]
    exact (List.getElem?_eq_some_iff.mp e).1
  have h := k.mu n a μ[n] e (List.getElem?_eq_getElem hn)
  cases hm : μ[n] with
  | dead => rw [hm] at h; exact h
  | lst ds => rw [hm] at h; obtain ⟨_, vs, e1, _⟩ := h; exact ⟨_, e1⟩
  | frz ds => rw [hm] at h; obtain ⟨vs, e1, _⟩ := h; exact ⟨_, k.ex _ _ e1⟩
  | ins C fs => rw [hm] at h; obtain ⟨_, dx, vs, e1, _⟩ := h; exact ⟨_, e1⟩
  | dK kvs => rw [hm] at h; obtain ⟨_, vs, e1, _⟩ := h; exact ⟨_, e1⟩
  | dT kvs => rw [hm] at h; obtain ⟨_, vs, e1, _⟩ := h; exact ⟨_, e1⟩
  | tab P q => rw [hm] at h; obtain ⟨_, _, ps, e1, _⟩ := h; exact ⟨_, e1⟩
theorem HpOk.fresh (k : HpOk K ρ μ F H) {a : Addr} (h : H a = none) : a ∉ ρ := fun z => by
  obtain ⟨n, e⟩ := List.mem_iff_getElem?.mp z
  obtain ⟨o, q⟩ := k.tracked e
  rw [h] at q
  cases q
theorem HpOk.freshF (k : HpOk K ρ μ F H) {a : Addr} (h : H a = none) : F a = none := by
  cases e : F a with
  | none => rfl
  | some o =>
    rw [k.ex a o e] at h
    cases h
/-- a place's entry stays where F grows and its object stays -/
theorem MOk.mono {a : Addr} {o : MO} (h : MOk K ρ F H a o) (p : ∀ (n : Nat) a, ρ[n]? = some a → ρ'[n]? = some a) (e : Sub F F') (ha : H' a = H a) (hf : F a = none → F' a = none) : MOk K ρ' F' H' a o := by
  cases o with
  | dead => obtain ⟨o, q⟩ := h; exact ⟨o, by rw [ha]; exact q⟩
  | lst ds => obtain ⟨z, vs, q, t⟩ := h; exact ⟨hf z, vs, by rw [ha]; exact q, t.mono p e⟩
  | frz ds => obtain ⟨vs, q, t⟩ := h; exact ⟨vs, e _ _ q, t.mono p e⟩
  | ins C fs => obtain ⟨z, dx, vs, q, t⟩ := h; exact ⟨hf z, dx, vs, by rw [ha]; exact q, t.mono p e⟩
  | dK kvs => obtain ⟨z, vs, q, t⟩ := h; exact ⟨hf z, vs, by rw [ha]; exact q, t.mono p e⟩
  | dT kvs => obtain ⟨z, vs, q, t⟩ := h; exact ⟨hf z, vs, by rw [ha]; exact q, t.mono p e⟩
  | tab P q =>
    obtain ⟨z0, z, ps, q1, q2, q3⟩ := h
    exact ⟨z0, hf z, ps, by rw [ha]; exact q1, q2, fun pos cv hc => by obtain ⟨c, e1, e2⟩ := q3 pos cv hc; exact ⟨c, e1, e _ _ e2⟩⟩
/-- a new object that never changes -/
theorem HpOk.newF (k : HpOk K ρ μ F H) {p : Addr} {o : HO} (hp : H p = none) : HpOk K ρ μ (upd F p o) (upd H p o) := by
  have sub : Sub F (upd F p o) := fun a u e => by
    rw [upd_ne (ne_of_none (k.ex a u e) hp)]
    exact e
  refine ⟨fun a u e => ?_, k.len, k.nd, fun n a u e1 e2 => ?_⟩
  · by_cases h : a = p
    · subst h
      rw [upd_same] at e ⊢
      exact e
    · rw [upd_ne h] at e ⊢
      exact k.ex a u e
  · obtain ⟨w, hw⟩ := k.tracked e1
    have ne : a ≠ p := ne_of_none hw hp
    exact (k.mu n a u e1 e2).mono (fun _ _ h => h) sub (upd_ne ne) fun z => by rw [upd_ne ne]; exact z
theorem Nx.newF_ (k : HpOk K ρ μ F H) {p : Addr} {o : HO} (hp : H p = none) : Nx ρ F H ρ (upd F p o) (upd H p o) := by
  refine ⟨fun _ _ h => h, fun a u e => ?_, fun a u e _ => ?_, fun _ h => .inl h, fun a u e => ?_, fun a e => ?_⟩
  · rw [upd_ne (ne_of_none (k.ex a u e) hp)]; exact e
  · rw [upd_ne (ne_of_none e hp)]; exact e
  · by_cases h : a = p
    · subst h; exact .inr (.inl hp)
    · rw [upd_ne h] at e; exact .inl e
  · by_cases h : a = p
    · subst h; exact hp
    · rw [upd_ne h] at e; exact e
/-- an object beside, tracked but not told of -/
theorem HpOk.beside (k : HpOk K ρ μ F H) {p : Addr} {o : HO} (hp : p ∉ ρ) (hf : F p = none) : HpOk K ρ μ F (upd H p o) := by
  refine ⟨fun a u e => ?_, k.len, k.nd, fun n a u e1 e2 => ?_⟩
  · rw [upd_ne fun z => by subst z; rw [hf] at e; cases e]
    exact k.ex a u e
  · have ne : a ≠ p := fun z => by subst z; exact hp (List.mem_of_getElem? e1)
    exact (k.mu n a u e1 e2).mono (fun _ _ h => h) (fun _ _ h => h) (upd_ne ne) fun z => z
/-- a place is written -/
theorem HpOk.write (k : HpOk K ρ μ F H) {n : Nat} {a : Addr} {o : HO} {m : MO} (e : ρ[n]? = some a) (hf : F a = none) (new : MOk K ρ F (upd H a o) a m) : HpOk K ρ (μ.set n m) F (upd H a o) := by
  have hn : n < μ.length := by
    rw [k.len]
    exact (List.getElem?_eq_some_iff.mp e).1
  refine ⟨fun b u q => ?_, by rw [List.length_set]; exact k.len, k.nd, fun j b u e1 e2 => ?_⟩
  · rw [upd_ne fun z => by subst z; rw [hf] at q; cases q]
    exact k.ex b u q
  · by_cases h : j = n
    · subst h
      rw [List.getElem?_set_self hn] at e2
      rw [e] at e1
      cases e1
      cases e2
      exact new
    · rw [List.getElem?_set_ne (Ne.symm h)] at e2
      have ne : b ≠ a := fun z => by
        subst z
        obtain ⟨h1, q1⟩ := List.getElem?_eq_some_iff.mp e1
        obtain ⟨h2, q2⟩ := List.getElem?_eq_some_iff.mp e
        exact h ((List.getElem_inj k.nd).mp (q1.trans q2.symm))
      exact (k.mu j b u e1 e2).mono (fun _ _ h => h) (fun _ _ h => h) (upd_ne ne) fun z => z
theorem Nx.write_ {n : Nat} {a : Addr} {o : HO} (e : ρ[n]? = some a) (hf : F a = none) (ht : H a ≠ none) : Nx ρ F H ρ F (upd H a o) := by
  refine ⟨fun _ _ h => h, fun _ _ h => h, fun b u q hb => ?_, fun _ h => .inl h, fun _ _ h => .inl h, fun b q => ?_⟩
  · rw [upd_ne fun z => hb (by rw [z]; exact List.mem_of_getElem? e)]; exact q
  · by_cases h : b = a
    · subst h; rw [upd_same] at q; cases q
    · rw [upd_ne h] at q; exact q
/-- a new place -/
theorem HpOk.newM (k : HpOk K ρ μ F H) {p : Addr} {o : HO} {m : MO} (hp : H p = none) (new : MOk K (ρ ++ [p]) F (upd H p o) p m) : HpOk K (ρ ++ [p]) (μ ++ [m]) F (upd H p o) := by
  have pf := k.freshF hp
  have pr := k.fresh hp
  have pre : ∀ (n : Nat) a, ρ[n]? = some a → (ρ ++ [p])[n]? = some a := fun n a e => by
    rw [List.getElem?_append_left (List.getElem?_eq_some_iff.mp e).1]; exact e
  refine ⟨fun a u e => ?_, by simp [k.len], ?_, fun j b u e1 e2 => ?_⟩
  · rw [upd_ne fun z => by subst z; rw [pf] at e; cases e]
    exact k.ex a u e
  · rw [List.nodup_append]
    refine ⟨k.nd, by simp, fun a ha b hb => ?_⟩
    have : b = p := by simpa using hb
    subst this
    intro z
    subst z
    exact pr ha
  · by_cases h : j < ρ.length
    · rw [List.getElem?_append_left h] at e1
      rw [List.getElem?_append_left (by rw [k.len]; exact h)] at e2
      have ne : b ≠ p := fun z => by subst z; exact pr (List.mem_of_getElem? e1)
      exact (k.mu j b u e1 e2).mono pre (fun _ _ h => h) (upd_ne ne) fun z => z
    · have hj : j < (ρ ++ [p]).length := (List.getElem?_eq_some_iff.mp e1).1
      rw [List.length_append, List.length_singleton] at hj
      have hj : j = ρ.length := by omega
      subst hj
      have eb : b = p := by simpa using e1.symm
      have eu : u = m := by
        rw [← k.len] at e2
        simpa using e2.symm
      subst eb eu
      exact new
theorem Nx.newM_ (k : HpOk K ρ μ F H) {p : Addr} {o : HO} (hp : H p = none) : Nx ρ F H (ρ ++ [p]) F (upd H p o) := by
  refine ⟨fun n a e => ?_, fun _ _ h => h, fun a u e _ => ?_, fun a h => ?_, fun _ _ h => .inl h, fun a e => ?_⟩
  · rw [List.getElem?_append_left (List.getElem?_eq_some_iff.mp e).1]; exact e
  · rw [upd_ne (ne_of_none e hp)]; exact e
  · rcases List.mem_append.mp h with h | h
    · exact .inl h
    · have : a = p := by simpa using h
      subst this
      exact .inr hp
  · by_cases h : a = p
    · subst h; exact hp
    · rw [upd_ne h] at e; exact e
/-- a list of ours is frozen -/
theorem HpOk.freeze (k : HpOk K ρ μ F H) {n : Nat} {a : Addr} {ds : List D} {vs : List V} (e : ρ[n]? = some a) (hf : F a = none) (hv : H a = some (.lst vs)) (hd : DnAll K ρ F vs ds) :
    HpOk K ρ (μ.set n (.frz ds)) (upd F a (.lst vs)) H ∧ Nx ρ F H ρ (upd F a (.lst vs)) H := by
  have hn : n < μ.length := by
    rw [k.len]
    exact (List.getElem?_eq_some_iff.mp e).1
  have sub : Sub F (upd F a (.lst vs)) := fun b u q => by
    rw [upd_ne fun z => by subst z; rw [hf] at q; cases q]
    exact q
  refine ⟨⟨fun b u q => ?_, by rw [List.length_set]; exact k.len, k.nd, fun j b u e1 e2 => ?_⟩, ⟨fun _ _ h => h, sub, fun _ _ h _ => h, fun _ h => .inl h, fun b u q => ?_, fun _ h => h⟩⟩
  · by_cases h : b = a
    · subst h
      rw [upd_same] at q
      cases q
      exact hv
    · rw [upd_ne h] at q
      exact k.ex b u q
  · by_cases h : j = n
    · subst h
      rw [List.getElem?_set_self hn] at e2
      rw [e] at e1
      cases e1
      cases e2
      exact ⟨vs, upd_same, hd.mono (fun _ _ h => h) sub⟩
    · rw [List.getElem?_set_ne (Ne.symm h)] at e2
      have ne : b ≠ a := fun z => by
        subst z
        obtain ⟨h1, q1⟩ := List.getElem?_eq_some_iff.mp e1
        obtain ⟨h2, q2⟩ := List.getElem?_eq_some_iff.mp e
        exact h ((List.getElem_inj k.nd).mp (q1.trans q2.symm))
      exact (k.mu j b u e1 e2).mono (fun _ _ h => h) sub rfl fun z => by rw [upd_ne ne]; exact z
  · by_cases h : b = a
    · subst h; exact .inr (.inr (List.mem_of_getElem? e))
    · rw [upd_ne h] at q; exact .inl q
end

/-! ### results -/
inductive R (α : Type) where
  | ok (a : α) (μ : Mu)
  | exc (e : ExK) (μ : Mu)
  | stk
def R.bind {α β : Type} : R α → (α → Mu → R β) → R β
  | .ok a μ, f => f a μ
  | .exc e μ, _ => .exc e μ
  | .stk, _ => .stk
def WpR {α : Type} (r : R α) (Q : α → Mu → Prop) (X : ExK → Mu → Prop) : Prop := match r with
  | .ok a μ => Q a μ
  | .exc e μ => X e μ
  | .stk => False
theorem WpR.bind {α β : Type} {r : R α} {f : α → Mu → R β} {Q : β → Mu → Prop} {X : ExK → Mu → Prop} (h : WpR (r.bind f) Q X) : WpR r (fun a μ => WpR (f a μ) Q X) X := by
  cases r with
  | ok a μ => exact h
  | exc e μ => exact h
  | stk => exact h
theorem WpR.mono {α : Type} {r : R α} {Q Q' : α → Mu → Prop} {X X' : ExK → Mu → Prop} (h : WpR r Q X) (hq : ∀ a μ, Q a μ → Q' a μ) (hx : ∀ e μ, X e μ → X' e μ) : WpR r Q' X' := by
  cases r with
  | ok a μ => exact hq _ _ h
  | exc e μ => exact hx _ _ h
  | stk => exact h
/-- from an option -/
def R.of {α : Type} (μ : Mu) : Option α → R α
  | some a => .ok a μ
  | none => .stk
theorem WpR.of {α : Type} {μ : Mu} {o : Option α} {Q : α → Mu → Prop} {X : ExK → Mu → Prop} (h : WpR (R.of μ o) Q X) : ∃ a, o = some a ∧ Q a μ := by
  cases o with
  | some a => exact ⟨a, rfl, h⟩
  | none => exact False.elim h
/-- no exception may come -/
def R.nox {α : Type} : R α → R α
  | .ok a μ => .ok a μ
  | _ => .stk
theorem WpR.nox {α : Type} {r : R α} {Q : α → Mu → Prop} {X X' : ExK → Mu → Prop} (h : WpR r.nox Q X) : WpR r Q X' := by
  cases r with
  | ok a μ => exact h
  | exc e μ => exact False.elim h
  | stk => exact False.elim h
/-- how a statement ends -/
inductive RS where
  | nx (Γ : Gam) (μ : Mu)
  | rt (d : D) (μ : Mu)
  | bk (Γ : Gam) (μ : Mu)
  | ct (Γ : Gam) (μ : Mu)
  | exc (e : ExK) (μ : Mu)
  | stk
structure PE4 where
  nx : Gam → Mu → Prop
  rt : D → Mu → Prop
  bk : Gam → Mu → Prop
  ct : Gam → Mu → Prop
  ex : ExK → Mu → Prop
def WpS (r : RS) (P : PE4) : Prop := match r with
  | .nx Γ μ => P.nx Γ μ
  | .rt d μ => P.rt d μ
  | .bk Γ μ => P.bk Γ μ
  | .ct Γ μ => P.ct Γ μ
  | .exc e μ => P.ex e μ
  | .stk => False
def R.thenS {α : Type} : R α → (α → Mu → RS) → RS
  | .ok a μ, f => f a μ
  | .exc e μ, _ => .exc e μ
  | .stk, _ => .stk
theorem WpS.thenS {α : Type} {r : R α} {f : α → Mu → RS} {P : PE4} (h : WpS (r.thenS f) P) : WpR r (fun a μ => WpS (f a μ) P) P.ex := by
  cases r with
  | ok a μ => exact h
  | exc e μ => exact h
  | stk => exact h
def RS.thenN : RS → (Gam → Mu → RS) → RS
  | .nx Γ μ, f => f Γ μ
  | r, _ => r
theorem WpS.thenN {r : RS} {f : Gam → Mu → RS} {P : PE4} (h : WpS (r.thenN f) P) : WpS r { P with nx := fun Γ μ => WpS (f Γ μ) P } := by
  cases r <;> exact h
theorem WpS.mono {r : RS} {P P' : PE4} (h : WpS r P) (h1 : ∀ Γ μ, P.nx Γ μ → P'.nx Γ μ) (h2 : ∀ d μ, P.rt d μ → P'.rt d μ) (h3 : ∀ Γ μ, P.bk Γ μ → P'.bk Γ μ) (h4 : ∀ Γ μ, P.ct Γ μ → P'.ct Γ μ) (h5 : ∀ e μ, P.ex e μ → P'.ex e μ) : WpS r P' := by
  cases r with
  | nx Γ μ => exact h1 _ _ h
  | rt d μ => exact h2 _ _ h
  | bk Γ μ => exact h3 _ _ h
  | ct Γ μ => exact h4 _ _ h
  | exc e μ => exact h5 _ _ h
  | stk => exact h

abbrev DE := Gam → Mu → R D
abbrev DT := Gam → Mu → R Bool
abbrev DA := Gam → Mu → R (List D)
abbrev DS := Gam → Mu → RS
abbrev DG := D → Gam → Mu → R Gam
abbrev DO := Gam → Mu → R (Option Int)

/-! ### what simulates what -/
structure Slots (K : PySem.W.Frag) (ρ : List Addr) (F : Hp) (Γ : Gam) (σ : L2.St) : Prop where
  len : Γ.length = σ.length
  at_ : ∀ (i : Nat) d, Γ[i]? = some (some d) → ∃ v, σ[i]? = some (some v) ∧ Dn K ρ F v d
theorem Slots.nx {K : PySem.W.Frag} {ρ ρ' : List Addr} {F F' H H' : Hp} {Γ : Gam} {σ : L2.St} (x : Nx ρ F H ρ' F' H') (h : Slots K ρ F Γ σ) : Slots K ρ' F' Γ σ := ⟨h.len, fun i d e =>
  let ⟨v, a, b⟩ := h.at_ i d e
  ⟨v, a, b.nx x⟩⟩
theorem Slots.set {K : PySem.W.Frag} {ρ : List Addr} {F : Hp} {Γ : Gam} {σ : L2.St} (h : Slots K ρ F Γ σ) {v : V} {d : D} (r : Dn K ρ F v d) (i : Nat) : Slots K ρ F (Γ.set i (some d)) (σ.set i (some v)) := by
  refine ⟨by rw [List.length_set, List.length_set]; exact h.len, fun j e hj => ?_⟩
  by_cases hi : i = j
  · subst hi
    have hl : i < Γ.length := by
      have := (List.getElem?_eq_some_iff.mp hj).1
      rw [List.length_set] at this
      exact this
    rw [List.getElem?_set_self hl] at hj
    cases hj
    exact ⟨v, List.getElem?_set_self (by rw [← h.len]; exact hl), r⟩
  · rw [List.getElem?_set_ne hi] at hj ⊢
    exact h.at_ j e hj
theorem Slots.unset {K : PySem.W.Frag} {ρ : List Addr} {F : Hp} {Γ : Gam} {σ : L2.St} (h : Slots K ρ F Γ σ) (o : Option V) (i : Nat) : Slots K ρ F (Γ.set i none) (σ.set i o) := by
  refine ⟨by rw [List.length_set, List.length_set]; exact h.len, fun j e hj => ?_⟩
  by_cases hi : i = j
  · subst hi
    have hl : i < Γ.length := by
      have := (List.getElem?_eq_some_iff.mp hj).1
      rw [List.length_set] at this
      exact this
    rw [List.getElem?_set_self hl] at hj
    cases hj
  · rw [List.getElem?_set_ne hi] at hj ⊢
    exact h.at_ j e hj

/-- what is wanted of an exception, in terms of data -/
def XOf (K : PySem.W.Frag) (E : XK) (e : ExK) (ρ : List Addr) (F H : Hp) : Prop := match e with
  | (x, none) => E (.ref (He.ga K x)) none H
  | (x, some (f, d)) => ∀ dd v, F dd = some (.xd [(f, v)]) → Dn K ρ F v d → E (.ref (He.ga K x)) (some dd) H
def XP (K : PySem.W.Frag) (E : XK) (ρ : List Addr) (F H : Hp) : ExK → Mu → Prop := fun e μ' => ∀ ρ' F' H', Nx ρ F H ρ' F' H' → HpOk K ρ' μ' F' H' → XOf K E e ρ' F' H'
theorem XP.nx {K : PySem.W.Frag} {E : XK} {ρ ρ' : List Addr} {F F' H H' : Hp} (x : Nx ρ F H ρ' F' H') {e : ExK} {μ : Mu} (h : XP K E ρ F H e μ) : XP K E ρ' F' H' e μ := fun ρ2 F2 H2 y k => h ρ2 F2 H2 (x.trans y) k

/-- the end of an expression -/
def QV (K : PySem.W.Frag) (ρ : List Addr) (F H : Hp) (Q : VK) : D → Mu → Prop := fun d μ' => ∀ ρ' F' H' v, Nx ρ F H ρ' F' H' → HpOk K ρ' μ' F' H' → Dn K ρ' F' v d → Q v H'
theorem QV.nx {K : PySem.W.Frag} {ρ ρ' : List Addr} {F F' H H' : Hp} {Q : VK} (x : Nx ρ F H ρ' F' H') {d : D} {μ : Mu} (h : QV K ρ F H Q d μ) : QV K ρ' F' H' Q d μ := fun ρ2 F2 H2 v y k r => h ρ2 F2 H2 v (x.trans y) k r
def SimE (K : PySem.W.Frag) (E : XK) (te : TE) (de : DE) : Prop := ∀ (ρ : List Addr) (F H : Hp) (Γ : Gam) (μ : Mu) (σ : L2.St), HpOk K ρ μ F H → Slots K ρ F Γ σ → ∀ Q : VK, WpR (de Γ μ) (QV K ρ F H Q) (XP K E ρ F H) → te σ H Q
def SimT (K : PySem.W.Frag) (E : XK) (tt : TT) (dt : DT) : Prop := ∀ (ρ : List Addr) (F H : Hp) (Γ : Gam) (μ : Mu) (σ : L2.St), HpOk K ρ μ F H → Slots K ρ F Γ σ → ∀ Q : Bool → Hp → Prop,
  WpR (dt Γ μ) (fun b μ' => ∀ ρ' F' H', Nx ρ F H ρ' F' H' → HpOk K ρ' μ' F' H' → Q b H') (XP K E ρ F H) → tt σ H Q
def SimA (K : PySem.W.Frag) (E : XK) (ta : TA) (da : DA) : Prop := ∀ (ρ : List Addr) (F H : Hp) (Γ : Gam) (μ : Mu) (σ : L2.St), HpOk K ρ μ F H → Slots K ρ F Γ σ → ∀ Q : List V → Hp → Prop,
  WpR (da Γ μ) (fun ds μ' => ∀ ρ' F' H' vs, Nx ρ F H ρ' F' H' → HpOk K ρ' μ' F' H' → DnAll K ρ' F' vs ds → Q vs H') (XP K E ρ F H) → ta σ H Q
def SimO (K : PySem.W.Frag) (E : XK) (to : TO) (do_ : DO) : Prop := ∀ (ρ : List Addr) (F H : Hp) (Γ : Gam) (μ : Mu) (σ : L2.St), HpOk K ρ μ F H → Slots K ρ F Γ σ → ∀ Q : Option Int → Hp → Prop,
  WpR (do_ Γ μ) (fun b μ' => ∀ ρ' F' H', Nx ρ F H ρ' F' H' → HpOk K ρ' μ' F' H' → Q b H') (XP K E ρ F H) → to σ H Q
def SimG (K : PySem.W.Frag) (E : XK) (g : TG) (dg : DG) : Prop := ∀ (ρ : List Addr) (F H : Hp) (Γ : Gam) (μ : Mu) (σ : L2.St) (v : V) (d : D), HpOk K ρ μ F H → Slots K ρ F Γ σ → Dn K ρ F v d → ∀ Q : L2.St → Hp → Prop,
  WpR (dg d Γ μ) (fun Γ' μ' => ∀ ρ' F' H' σ', Nx ρ F H ρ' F' H' → HpOk K ρ' μ' F' H' → Slots K ρ' F' Γ' σ' → Q σ' H') (XP K E ρ F H) → g v σ H Q
def QS (K : PySem.W.Frag) (E : XK) (ρ : List Addr) (F H : Hp) (D : Ends) : PE4 where
  nx := fun Γ μ => ∀ ρ' F' H' σ', Nx ρ F H ρ' F' H' → HpOk K ρ' μ F' H' → Slots K ρ' F' Γ σ' → D.nx σ' H'
  rt := QV K ρ F H D.rt
  bk := fun Γ μ => ∀ ρ' F' H' σ', Nx ρ F H ρ' F' H' → HpOk K ρ' μ F' H' → Slots K ρ' F' Γ σ' → D.bk σ' H'
  ct := fun Γ μ => ∀ ρ' F' H' σ', Nx ρ F H ρ' F' H' → HpOk K ρ' μ F' H' → Slots K ρ' F' Γ σ' → D.ct σ' H'
  ex := XP K E ρ F H
def SimS (K : PySem.W.Frag) (E : XK) (ts : TS) (ds : DS) : Prop := ∀ (ρ : List Addr) (F H : Hp) (Γ : Gam) (μ : Mu) (σ : L2.St), HpOk K ρ μ F H → Slots K ρ F Γ σ → ∀ D : Ends, WpS (ds Γ μ) (QS K E ρ F H D) → ts D σ H
theorem QS.nx_ {K : PySem.W.Frag} {E : XK} {ρ ρ' : List Addr} {F F' H H' : Hp} {D : Ends} (x : Nx ρ F H ρ' F' H') {r : RS} (h : WpS r (QS K E ρ F H D)) : WpS r (QS K E ρ' F' H' D) :=
  h.mono (fun Γ μ q ρ2 F2 H2 σ2 y k s => q ρ2 F2 H2 σ2 (x.trans y) k s) (fun d μ q => QV.nx x q) (fun Γ μ q ρ2 F2 H2 σ2 y k s => q ρ2 F2 H2 σ2 (x.trans y) k s) (fun Γ μ q ρ2 F2 H2 σ2 y k s => q ρ2 F2 H2 σ2 (x.trans y) k s) (fun e μ q => XP.nx x q)

/-- what is walked: the items ds, while what never changes stands -/
structure ItOk (K : PySem.W.Frag) (ρ : List Addr) (F : Hp) (J : It) (ds : List D) : Prop where
  go : ∀ i H, Sub F H → i < ds.length → J.go i H
  stop : ∀ i H, Sub F H → i = ds.length → J.stop i H
  yld : ∀ i ρ' F' H μ' x H', Sub F F' → (∀ (n : Nat) a, ρ[n]? = some a → ρ'[n]? = some a) → HpOk K ρ' μ' F' H → J.yld i H x H' → i < ds.length → ∃ d F2, ds[i]? = some d ∧ Nx ρ' F' H ρ' F2 H' ∧ HpOk K ρ' μ' F2 H' ∧ Dn K ρ' F2 x d
def SimI (K : PySem.W.Frag) (E : XK) (wi : TI) (di : DA) : Prop := ∀ (ρ : List Addr) (F H : Hp) (Γ : Gam) (μ : Mu) (σ : L2.St), HpOk K ρ μ F H → Slots K ρ F Γ σ → ∀ Rr : It → Hp → Prop,
  WpR (di Γ μ) (fun ds μ' => ∀ ρ' F' H' J, Nx ρ F H ρ' F' H' → HpOk K ρ' μ' F' H' → ItOk K ρ' F' J ds → Rr J H') (XP K E ρ F H) → wi σ H Rr
end Ar

set_option Elab.async false
set_option linter.all false
set_option maxRecDepth 100000
set_option maxHeartbeats 2000000
/-! Ar2: expressions -/
namespace Ar
open PySem PySem.Spec PyProof.Rows L2

/-! ### judgements: the syntax and its combinator -/
structure QE (X : Cx) (E : XK) (e : Expr) (de : DE) : Prop where
  ex : ∃ te, PE X e te ∧ SimE X.K E te de
structure QT (X : Cx) (E : XK) (e : Expr) (dt : DT) : Prop where
  ex : ∃ tt, PT X e tt ∧ SimT X.K E tt dt
structure QW (X : Cx) (E : XK) (e : Expr) (dt : DT) : Prop where
  ex : ∃ tt, PW X e tt ∧ SimT X.K E tt dt
structure QA (X : Cx) (E : XK) (es : List Expr) (da : DA) : Prop where
  ex : ∃ ta, PA X es ta ∧ SimA X.K E ta da
structure QO (X : Cx) (E : XK) (e : Option Expr) (do_ : DO) : Prop where
  ex : ∃ to, PO X e to ∧ SimO X.K E to do_
structure QG (X : Cx) (E : XK) (e : Expr) (dg : DG) : Prop where
  ex : ∃ g, PG X e g ∧ SimG X.K E g dg
structure QSt (X : Cx) (E : XK) (st : Stmt) (ds : DS) : Prop where
  ex : ∃ ts, PS X st ts ∧ SimS X.K E ts ds
structure QSs (X : Cx) (E : XK) (st : List Stmt) (ds : DS) : Prop where
  ex : ∃ ts, PSs X st ts ∧ SimS X.K E ts ds
structure QI (X : Cx) (E : XK) (tg iter : Expr) (di : DA) : Prop where
  ex : ∃ wi, PI X tg iter wi ∧ SimI X.K E wi di

/-! ### values -/
def dVar (i : Nat) : DE := fun Γ μ => match Γ[i]? with
  | some (some d) => .ok d μ
  | _ => .stk
def dC (d : D) : DE := fun _ μ => .ok d μ
section
variable {X : Cx} {E : XK}
theorem sim_var {K : PySem.W.Frag} {i : Nat} : SimE K E (tVar i) (dVar i) := by
  intro ρ F H Γ μ σ k s Q h
  unfold dVar at h
  split at h
  · rename_i d e
    obtain ⟨v, e1, r⟩ := s.at_ i d e
    exact ⟨v, e1, h ρ F H v Nx.refl k r⟩
  · exact False.elim h
theorem sim_c {K : PySem.W.Frag} {v : V} {d : D} (hv : ∀ ρ F, Dn K ρ F v d) : SimE K E (tC v) (dC d) := by
  intro ρ F H Γ μ σ k s Q h
  exact h ρ F H v Nx.refl k (hv ρ F)
theorem qv (i : Nat) {x : Str} {pos : Pos} (hN : X.N[i]? = some x := by rfl) (hv : Vis X.env.scope x := by first | exact Or.inl rfl | exact Or.inr (Or.inl rfl) | exact Or.inr (Or.inr rfl)) (hd : (x == ("__debug__" : Str)) = false := by decide)
    (hcd : (x == ("__classdict__" : Str)) = false := by decide) : QE X E (.Name x pos) (dVar i) := ⟨_, pe_var hN hv hd hcd, sim_var⟩
theorem q_int {i j pos} : QE X E (.Constant (.int i) j pos) (dC (.int i)) := ⟨_, pe_int, sim_c fun _ _ => .int i⟩
theorem q_bl {b j pos} : QE X E (.Constant (.bool b) j pos) (dC (.bl b)) := ⟨_, pe_bl, sim_c fun _ _ => .bl b⟩
theorem q_str {x j pos} : QE X E (.Constant (.str x) j pos) (dC (.str x)) := ⟨_, pe_str, sim_c fun _ _ => .str x⟩
/-- a module's name -/
structure GloV (X : Cx) (x : Str) (d : D) : Prop where
  ex : ∃ v u, X.mg x = some u ∧ RelV v u ∧ ∀ ρ F, Dn X.K ρ F v d
theorem q_glob {x : Str} {d : D} {pos : Pos} (g : GloV X x d) (hg : Gl X x := by rfl) (hd : (x == ("__debug__" : Str)) = false := by decide) : QE X E (.Name x pos) (dC d) := by
  obtain ⟨v, u, hm, r, hv⟩ := g.ex
  exact ⟨_, pe_glob hg hm r hd, sim_c hv⟩
/-- a built-in class as a value -/
theorem q_ty {x : Str} {n : String} {pos : Pos} (hm : X.mg x = none) (hv : bootBuiltins x = some (.type n)) (hg : Gl X x := by rfl) (hn : x ≠ "__name__" := by decide) (hd : (x == ("__debug__" : Str)) = false := by decide) :
    QE X E (.Name x pos) (dC (.ty n)) := ⟨_, pe_bltn (v := .ty n) hg hm hv rfl hn hd, sim_c fun _ _ => .ty n⟩
end

/-! ### operators -/
def OpS (K : PySem.W.Frag) (r : R2) (f : Mu → D → D → Option D) : Prop := ∀ (ρ : List Addr) (F H : Hp) (μ : Mu) (v w : V) (d e z : D), HpOk K ρ μ F H → Dn K ρ F v d → Dn K ρ F w e → f μ d e = some z → ∀ Q : VK, QV K ρ F H Q z μ → r v w H Q
structure OpD (X : Cx) (g : Value → Value → Sem Value) (f : Mu → D → D → Option D) : Prop where
  ex : ∃ r, OpR X g r ∧ OpS X.K r f
def dBin (f : Mu → D → D → Option D) (a b : DE) : DE := fun Γ μ => (a Γ μ).bind fun x μ1 => (b Γ μ1).bind fun y μ2 => R.of μ2 (f μ2 x y)
def dUn (f : Mu → D → Option D) (a : DE) : DE := fun Γ μ => (a Γ μ).bind fun x μ1 => R.of μ1 (f μ1 x)
/-- one or the other -/
def orF (f g : Mu → D → D → Option D) : Mu → D → D → Option D := fun μ x y => match f μ x y with
  | some z => some z
  | none => g μ x y
section
variable {X : Cx} {E : XK} {K : PySem.W.Frag} {a b : Expr} {da db : DE} {pos : Pos}
theorem sim_bin {r : R2} {f : Mu → D → D → Option D} {ta tb : TE} (hr : OpS K r f) (ha : SimE K E ta da) (hb : SimE K E tb db) : SimE K E (tOp r ta tb) (dBin f da db) := by
  intro ρ F H Γ μ σ k s Q h
  refine ha ρ F H Γ μ σ k s _ (h.bind.mono (fun x μ1 h1 => ?_) fun _ _ q => q)
  intro ρ1 F1 H1 v n1 k1 r1
  refine hb ρ1 F1 H1 Γ μ1 σ k1 (s.nx n1) _ (h1.bind.mono (fun y μ2 h2 => ?_) fun _ _ q => XP.nx n1 q)
  intro ρ2 F2 H2 w n2 k2 r2
  obtain ⟨z, ez, q⟩ := h2.of
  exact hr ρ2 F2 H2 μ2 v w x y z k2 (r1.nx n2) r2 ez Q (QV.nx (n1.trans n2) q)
theorem OpD.or {g : Value → Value → Sem Value} {f f' : Mu → D → D → Option D} (h : OpD X g f) (h' : OpD X g f') : OpD X g (orF f f') := by
  obtain ⟨r, h1, h2⟩ := h.ex
  obtain ⟨r', h1', h2'⟩ := h'.ex
  refine ⟨_, h1.or h1', fun ρ F H μ v w d e z k rv rw' ez Q q => ?_⟩
  unfold orF at ez
  split at ez
  · rename_i z' e1
    cases ez
    exact .inl (h2 ρ F H μ v w d e z k rv rw' e1 Q q)
  · exact .inr (h2' ρ F H μ v w d e z k rv rw' ez Q q)
theorem q_op {op : Operator} {f : Mu → D → D → Option D} (ho : OpD X (binaryOp op) f) (ha : QE X E a da) (hb : QE X E b db) : QE X E (.BinOp a op b pos) (dBin f da db) := by
  obtain ⟨r, h1, h2⟩ := ho.ex
  obtain ⟨ta, a1, a2⟩ := ha.ex
  obtain ⟨tb, b1, b2⟩ := hb.ex
  exact ⟨_, pe_op h1 a1 b1, sim_bin h2 a2 b2⟩
theorem q_cmp {op : CmpOp} {f : Mu → D → D → Option D} (ho : OpD X (compareOp op) f) (ha : QE X E a da) (hb : QE X E b db) (hm : behindInMarks op b = false := by first | exact nomark _ | rfl) : QE X E (.Compare a [op] [b] pos) (dBin f da db) := by
  obtain ⟨r, h1, h2⟩ := ho.ex
  obtain ⟨ta, a1, a2⟩ := ha.ex
  obtain ⟨tb, b1, b2⟩ := hb.ex
  exact ⟨_, pe_cmpR h1 a1 b1 hm, sim_bin h2 a2 b2⟩
/-- a truth value -/
def dTest (a : DE) : DT := fun Γ μ => (a Γ μ).bind fun x μ1 => match x with
  | .bl b => .ok b μ1
  | _ => .stk
theorem sim_test {ta : TE} (ha : SimE K E ta da) : SimT K E (tTest ta) (dTest da) := by
  intro ρ F H Γ μ σ k s Q h
  refine ha ρ F H Γ μ σ k s _ (h.bind.mono (fun x μ1 h1 => ?_) fun _ _ q => q)
  intro ρ1 F1 H1 v n1 k1 r1
  cases x with
  | bl b => cases r1; exact ⟨b, rfl, h1 ρ1 F1 H1 n1 k1⟩
  | _ => exact False.elim h1
theorem qt_cmp {op : CmpOp} {f : Mu → D → D → Option D} (ho : OpD X (compareOp op) f) (ha : QE X E a da) (hb : QE X E b db) (hm : behindInMarks op b = false := by first | exact nomark _ | rfl) : QT X E (.Compare a [op] [b] pos) (dTest (dBin f da db)) := by
  obtain ⟨r, h1, h2⟩ := ho.ex
  obtain ⟨ta, a1, a2⟩ := ha.ex
  obtain ⟨tb, b1, b2⟩ := hb.ex
  exact ⟨_, pt_cmpR h1 a1 b1 hm, sim_test (sim_bin h2 a2 b2)⟩
/-- a value's truth -/
def truD (μ : Mu) : D → Option Bool
  | .non => some false
  | .bl b => some b
  | .int i => some (i != 0)
  | .str y => if y.length ≤ 1000000 then some ((y.length : Int) != 0) else none
  | .lst ds => some (!ds.isEmpty)
  | .tup ds => some (!ds.isEmpty)
  | .loc n => match μ[n]? with
    | some (.lst ds) => some (!ds.isEmpty)
    | some (.frz ds) => some (!ds.isEmpty)
    | _ => none
  | _ => none
theorem million : (1000000 : Nat) ≤ sizeLine := by rw [sizeLine_eq]; decide
theorem lt_million {n : Nat} (h : n < 1000000) : n < sizeLine := Nat.lt_of_lt_of_le h million
theorem le_million {n : Nat} (h : n ≤ 1000000) : n ≤ sizeLine := Nat.le_trans h million
theorem emptyAll {ρ : List Addr} {F : Hp} {vs : List V} {ds : List D} (h : DnAll K ρ F vs ds) : vs.isEmpty = ds.isEmpty := by cases h <;> rfl
theorem tru_of {ρ : List Addr} {F H : Hp} {μ : Mu} {v : V} {d : D} {b : Bool} (k : HpOk K ρ μ F H) (r : Dn K ρ F v d) (h : truD μ d = some b) : TruV K v H b := by
  cases r with
  | non => cases h; exact rfl
  | bl x => cases h; exact rfl
  | int i => cases h; exact rfl
  | str y =>
    have h : (if y.length ≤ 1000000 then some ((y.length : Int) != 0) else none) = some b := h
    split at h
    · rename_i hy
      cases h
      exact ⟨le_million hy, rfl⟩
    · cases h
  | tup hs ha =>
    cases h
    exact .inr (.inl ⟨_, k.ex.sqT hs, by rw [emptyAll ha]⟩)
  | lst hs ha =>
    cases h
    exact .inl ⟨_, .inl (Rd.of (k.ex _ _ hs)), by rw [emptyAll ha]⟩
  | @loc a n e =>
    have h : (match μ[n]? with
      | some (.lst ds) => some (!ds.isEmpty)
      | some (.frz ds) => some (!ds.isEmpty)
      | _ => none) = some b := h
    split at h
    · rename_i ds em
      cases h
      obtain ⟨_, vs, e1, e2⟩ := k.mu n a _ e em
      exact .inl ⟨_, SqL.of e1, by rw [emptyAll e2]⟩
    · rename_i ds em
      cases h
      obtain ⟨vs, e1, e2⟩ := k.mu n a _ e em
      exact .inl ⟨_, SqL.of (k.ex _ _ e1), by rw [emptyAll e2]⟩
    · cases h
  | scr _ _ => cases h
  | ins _ _ => cases h
  | slt _ _ _ => cases h
  | dK _ _ => cases h
  | glo x => cases h
  | ty n => cases h
  | adr => cases h
  | clo => cases h
  | exn => cases h
def dTru (a : DE) : DT := fun Γ μ => (a Γ μ).bind fun x μ1 => R.of μ1 (truD μ1 x)
theorem qt_tru (ha : QE X E a da) (he : ∀ whole, isTrue a X.env whole = (do let v ← whole; standAt a.pos; holding [v] (truthy v)) := by intro _; rfl) : QT X E a (dTru da) := by
  obtain ⟨ta, a1, a2⟩ := ha.ex
  refine ⟨_, pt_truth a1 he, ?_⟩
  intro ρ F H Γ μ σ k s Q h
  refine a2 ρ F H Γ μ σ k s _ (h.bind.mono (fun x μ1 h1 => ?_) fun _ _ q => q)
  intro ρ1 F1 H1 v n1 k1 r1
  obtain ⟨z, ez, q⟩ := h1.of
  exact ⟨z, tru_of k1 r1 ez, q ρ1 F1 H1 n1 k1⟩
/-! and, or, not: tests -/
def dAnd (t u : DT) : DT := fun Γ μ => (t Γ μ).bind fun c μ1 => match c with
  | true => u Γ μ1
  | false => .ok false μ1
def dOr (t u : DT) : DT := fun Γ μ => (t Γ μ).bind fun c μ1 => match c with
  | true => .ok true μ1
  | false => u Γ μ1
def dNot (t : DT) : DT := fun Γ μ => (t Γ μ).bind fun c μ1 => .ok (!c) μ1
variable {t u : DT} {rest : List Expr}
theorem sim_and {t' u' : TT} (h1 : SimT K E t' t) (h2 : SimT K E u' u) : SimT K E (tAnd t' u') (dAnd t u) := by
  intro ρ F H Γ μ σ k s Q h
  refine h1 ρ F H Γ μ σ k s _ (h.bind.mono (fun x μ1 q => ?_) fun _ _ q => q)
  intro ρ1 F1 H1 n1 k1
  cases x with
  | true =>
    show u' σ H1 Q
    refine h2 ρ1 F1 H1 Γ μ1 σ k1 (s.nx n1) Q (WpR.mono q (fun b μ2 q2 => ?_) fun _ _ q => XP.nx n1 q)
    exact fun ρ2 F2 H2 n2 k2 => q2 ρ2 F2 H2 (n1.trans n2) k2
  | false => exact q ρ1 F1 H1 n1 k1
theorem sim_or {t' u' : TT} (h1 : SimT K E t' t) (h2 : SimT K E u' u) : SimT K E (tOr t' u') (dOr t u) := by
  intro ρ F H Γ μ σ k s Q h
  refine h1 ρ F H Γ μ σ k s _ (h.bind.mono (fun x μ1 q => ?_) fun _ _ q => q)
  intro ρ1 F1 H1 n1 k1
  cases x with
  | false =>
    show u' σ H1 Q
    refine h2 ρ1 F1 H1 Γ μ1 σ k1 (s.nx n1) Q (WpR.mono q (fun b μ2 q2 => ?_) fun _ _ q => XP.nx n1 q)
    exact fun ρ2 F2 H2 n2 k2 => q2 ρ2 F2 H2 (n1.trans n2) k2
  | true => exact q ρ1 F1 H1 n1 k1
theorem sim_not {t' : TT} (h1 : SimT K E t' t) : SimT K E (tNot t') (dNot t) := by
  intro ρ F H Γ μ σ k s Q h
  exact h1 ρ F H Γ μ σ k s _ (h.bind.mono (fun x μ1 q => q) fun _ _ q => q)
theorem qw_one_and (h : QT X E a t) : QW X E (.BoolOp .And [a] pos) t := by
  obtain ⟨t', h1, h2⟩ := h.ex
  exact ⟨_, pw_and1 h1, h2⟩
theorem qw_one_or (h : QT X E a t) : QW X E (.BoolOp .Or [a] pos) t := by
  obtain ⟨t', h1, h2⟩ := h.ex
  exact ⟨_, pw_or1 h1, h2⟩
theorem qw_and (h : QT X E a t) (h' : QW X E (.BoolOp .And (b :: rest) pos) u) : QW X E (.BoolOp .And (a :: b :: rest) pos) (dAnd t u) := by
  obtain ⟨t', h1, h2⟩ := h.ex
  obtain ⟨u', g1, g2⟩ := h'.ex
  exact ⟨_, pw_and h1 g1, sim_and h2 g2⟩
theorem qw_or (h : QT X E a t) (h' : QW X E (.BoolOp .Or (b :: rest) pos) u) : QW X E (.BoolOp .Or (a :: b :: rest) pos) (dOr t u) := by
  obtain ⟨t', h1, h2⟩ := h.ex
  obtain ⟨u', g1, g2⟩ := h'.ex
  exact ⟨_, pw_or h1 g1, sim_or h2 g2⟩
theorem qt_w {e : Expr} (h : QW X E e t) : QT X E e t := by
  obtain ⟨t', h1, h2⟩ := h.ex
  exact ⟨_, h1.pt, h2⟩
theorem qt_not (h : QT X E a t) : QT X E (.UnaryOp .Not a pos) (dNot t) := by
  obtain ⟨t', h1, h2⟩ := h.ex
  exact ⟨_, pt_not h1, sim_not h2⟩
/-! as values -/
def dAndV (x y : DE) : DE := fun Γ μ => (x Γ μ).bind fun c μ1 => match c with
  | .bl true => y Γ μ1
  | .bl false => .ok (.bl false) μ1
  | _ => .stk
def dOrV (x y : DE) : DE := fun Γ μ => (x Γ μ).bind fun c μ1 => match c with
  | .bl true => .ok (.bl true) μ1
  | .bl false => y Γ μ1
  | _ => .stk
def dNotV (x : DE) : DE := fun Γ μ => (x Γ μ).bind fun c μ1 => match c with
  | .bl b => .ok (.bl (!b)) μ1
  | _ => .stk
theorem q_one {op} (h : QE X E a da) : QE X E (.BoolOp op [a] pos) da := by
  obtain ⟨t', h1, h2⟩ := h.ex
  exact ⟨_, pe_one h1, h2⟩
theorem q_and (h : QE X E a da) (h' : QE X E (.BoolOp .And (b :: rest) pos) db) : QE X E (.BoolOp .And (a :: b :: rest) pos) (dAndV da db) := by
  obtain ⟨ta, a1, a2⟩ := h.ex
  obtain ⟨tb, b1, b2⟩ := h'.ex
  refine ⟨_, pe_and a1 b1, ?_⟩
  intro ρ F H Γ μ σ k s Q h
  refine a2 ρ F H Γ μ σ k s _ (h.bind.mono (fun x μ1 q => ?_) fun _ _ q => q)
  intro ρ1 F1 H1 v n1 k1 r1
  cases r1 with
  | bl c =>
    refine ⟨c, rfl, ?_⟩
    cases c with
    | true =>
      show tb σ H1 Q
      refine b2 ρ1 F1 H1 Γ μ1 σ k1 (s.nx n1) Q (WpR.mono q (fun b μ2 q2 => ?_) fun _ _ q => XP.nx n1 q)
      exact QV.nx n1 q2
    | false => exact q ρ1 F1 H1 _ n1 k1 (.bl false)
  | _ => exact False.elim q
theorem q_not (h : QE X E a da) : QE X E (.UnaryOp .Not a pos) (dNotV da) := by
  obtain ⟨ta, a1, a2⟩ := h.ex
  refine ⟨_, pe_not a1, ?_⟩
  intro ρ F H Γ μ σ k s Q h
  refine a2 ρ F H Γ μ σ k s _ (h.bind.mono (fun x μ1 q => ?_) fun _ _ q => q)
  intro ρ1 F1 H1 v n1 k1 r1
  cases r1 with
  | bl c => exact ⟨c, rfl, q ρ1 F1 H1 _ n1 k1 (.bl _)⟩
  | _ => exact False.elim q
/-- a if t else b -/
def dIf (t : DT) (x y : DE) : DE := fun Γ μ => (t Γ μ).bind fun c μ1 => match c with
  | true => x Γ μ1
  | false => y Γ μ1
theorem q_if {c : Expr} (hc : QT X E c t) (ha : QE X E a da) (hb : QE X E b db) : QE X E (.IfExp c a b pos) (dIf t da db) := by
  obtain ⟨tc, c1, c2⟩ := hc.ex
  obtain ⟨ta, a1, a2⟩ := ha.ex
  obtain ⟨tb, b1, b2⟩ := hb.ex
  refine ⟨_, pe_ifExp c1 a1 b1, ?_⟩
  intro ρ F H Γ μ σ k s Q h
  refine c2 ρ F H Γ μ σ k s _ (h.bind.mono (fun x μ1 q => ?_) fun _ _ q => q)
  intro ρ1 F1 H1 n1 k1
  cases x with
  | true =>
    show ta σ H1 Q
    exact a2 ρ1 F1 H1 Γ μ1 σ k1 (s.nx n1) Q (WpR.mono q (fun b μ2 q2 => QV.nx n1 q2) fun _ _ q => XP.nx n1 q)
  | false =>
    show tb σ H1 Q
    exact b2 ρ1 F1 H1 Γ μ1 σ k1 (s.nx n1) Q (WpR.mono q (fun b μ2 q2 => QV.nx n1 q2) fun _ _ q => XP.nx n1 q)
end

/-! ### arguments, tuples, lists -/
def daNil : DA := fun _ μ => .ok [] μ
def daCons (a : DE) (r : DA) : DA := fun Γ μ => (a Γ μ).bind fun x μ1 => (r Γ μ1).bind fun xs μ2 => .ok (x :: xs) μ2
def dTup (a : DA) : DE := fun Γ μ => (a Γ μ).bind fun xs μ1 => if xs.length ≤ 1000000 then .ok (.tup xs) μ1 else .stk
/-- a list that never changes -/
def dLst (a : DA) : DE := fun Γ μ => (a Γ μ).bind fun xs μ1 => if xs.length ≤ 1000000 then .ok (.lst xs) μ1 else .stk
/-- a list that may change -/
def dLstM (a : DA) : DE := fun Γ μ => (a Γ μ).bind fun xs μ1 => if xs.length ≤ 1000000 then .ok (.loc μ1.length) (μ1 ++ [.lst xs]) else .stk
section
variable {X : Cx} {E : XK} {K : PySem.W.Frag} {e : Expr} {es : List Expr} {de : DE} {da : DA} {pos : Pos}
theorem sim_nil : SimA K E tNil daNil := by
  intro ρ F H Γ μ σ k s Q h
  exact h ρ F H [] Nx.refl k .nil
theorem sim_cons {te : TE} {ta : TA} (h1 : SimE K E te de) (h2 : SimA K E ta da) : SimA K E (tCons te ta) (daCons de da) := by
  intro ρ F H Γ μ σ k s Q h
  refine h1 ρ F H Γ μ σ k s _ (h.bind.mono (fun x μ1 q => ?_) fun _ _ q => q)
  intro ρ1 F1 H1 v n1 k1 r1
  refine h2 ρ1 F1 H1 Γ μ1 σ k1 (s.nx n1) _ (q.bind.mono (fun xs μ2 q2 => ?_) fun _ _ q => XP.nx n1 q)
  intro ρ2 F2 H2 vs n2 k2 r2
  exact q2 ρ2 F2 H2 (v :: vs) (n1.trans n2) k2 (.cons (r1.nx n2) r2)
theorem qa_nil : QA X E [] daNil := ⟨_, pa_nil, sim_nil⟩
theorem qa_cons (ha : QE X E e de) (hr : QA X E es da) (hs : starEach (e :: es) X.env = (false, eval e X.env) :: starEach es X.env := by rfl) : QA X E (e :: es) (daCons de da) := by
  obtain ⟨te, a1, a2⟩ := ha.ex
  obtain ⟨ta, b1, b2⟩ := hr.ex
  exact ⟨_, pa_cons a1 b1 hs, sim_cons a2 b2⟩
/-- a new object of ours that never changes -/
theorem new_tup {ρ : List Addr} {F H : Hp} {μ : Mu} {vs : List V} {ds : List D} (k : HpOk K ρ μ F H) (r : DnAll K ρ F vs ds) {p : Addr} (hp : H p = none) : Nx ρ F H ρ (upd F p (.tup vs)) (upd H p (.tup vs)) ∧ HpOk K ρ μ (upd F p (.tup vs)) (upd H p (.tup vs)) ∧ Dn K ρ (upd F p (.tup vs)) (.ref p) (.tup ds) := by
  have n := Nx.newF_ (o := .tup vs) k hp
  exact ⟨n, k.newF hp, .tup (SqT.of upd_same) (r.nx n)⟩
theorem new_lst {ρ : List Addr} {F H : Hp} {μ : Mu} {vs : List V} {ds : List D} (k : HpOk K ρ μ F H) (r : DnAll K ρ F vs ds) {p : Addr} (hp : H p = none) : Nx ρ F H ρ (upd F p (.lst vs)) (upd H p (.lst vs)) ∧ HpOk K ρ μ (upd F p (.lst vs)) (upd H p (.lst vs)) ∧ Dn K ρ (upd F p (.lst vs)) (.ref p) (.lst ds) := by
  have n := Nx.newF_ (o := .lst vs) k hp
  exact ⟨n, k.newF hp, .lst upd_same (r.nx n)⟩
theorem new_lstM {ρ : List Addr} {F H : Hp} {μ : Mu} {vs : List V} {ds : List D} (k : HpOk K ρ μ F H) (r : DnAll K ρ F vs ds) {p : Addr} (hp : H p = none) : Nx ρ F H (ρ ++ [p]) F (upd H p (.lst vs)) ∧ HpOk K (ρ ++ [p]) (μ ++ [.lst ds]) F (upd H p (.lst vs)) ∧ Dn K (ρ ++ [p]) F (.ref p) (.loc μ.length) := by
  have n := Nx.newM_ (o := .lst vs) k hp
  refine ⟨n, k.newM hp ⟨k.freshF hp, vs, upd_same, r.nx n⟩, .loc ?_⟩
  rw [k.len]
  simp
theorem q_tup {x1} (h : QA X E es da) : QE X E (.Tuple es x1 pos) (dTup da) := by
  obtain ⟨ta, a1, a2⟩ := h.ex
  refine ⟨_, pe_tup a1, ?_⟩
  intro ρ F H Γ μ σ k s Q h
  refine a2 ρ F H Γ μ σ k s _ (h.bind.mono (fun x μ1 q => ?_) fun _ _ q => q)
  intro ρ1 F1 H1 vs n1 k1 r1
  split at q
  · rename_i hl
    refine ⟨by rw [r1.length]; exact le_million hl, fun p hp => ?_⟩
    obtain ⟨n2, k2, r2⟩ := new_tup k1 r1 hp
    exact q _ _ _ _ (n1.trans n2) k2 r2
  · exact False.elim q
theorem q_lst (h : QA X E es da) : QE X E (.List es pos) (dLst da) := by
  obtain ⟨ta, a1, a2⟩ := h.ex
  refine ⟨_, pe_lst a1, ?_⟩
  intro ρ F H Γ μ σ k s Q h
  refine a2 ρ F H Γ μ σ k s _ (h.bind.mono (fun x μ1 q => ?_) fun _ _ q => q)
  intro ρ1 F1 H1 vs n1 k1 r1
  split at q
  · rename_i hl
    refine ⟨by rw [r1.length]; exact le_million hl, fun p hp => ?_⟩
    obtain ⟨n2, k2, r2⟩ := new_lst k1 r1 hp
    exact q _ _ _ _ (n1.trans n2) k2 r2
  · exact False.elim q
theorem q_lstM (h : QA X E es da) : QE X E (.List es pos) (dLstM da) := by
  obtain ⟨ta, a1, a2⟩ := h.ex
  refine ⟨_, pe_lst a1, ?_⟩
  intro ρ F H Γ μ σ k s Q h
  refine a2 ρ F H Γ μ σ k s _ (h.bind.mono (fun x μ1 q => ?_) fun _ _ q => q)
  intro ρ1 F1 H1 vs n1 k1 r1
  split at q
  · rename_i hl
    refine ⟨by rw [r1.length]; exact le_million hl, fun p hp => ?_⟩
    obtain ⟨n2, k2, r2⟩ := new_lstM k1 r1 hp
    exact q _ _ _ _ (n1.trans n2) k2 r2
  · exact False.elim q
end

/-! ### what a sequence holds -/
def seqL (μ : Mu) : D → Option (List D)
  | .lst ds => some ds
  | .loc n => match μ[n]? with
    | some (.lst ds) => some ds
    | some (.frz ds) => some ds
    | _ => none
  | _ => none
section
variable {K : PySem.W.Frag} {ρ : List Addr} {F H : Hp} {μ : Mu} {v : V} {d : D} {ds : List D}
theorem seqL_ok (k : HpOk K ρ μ F H) (r : Dn K ρ F v d) (h : seqL μ d = some ds) : ∃ a vs, v = .ref a ∧ Rd H a (.lst vs) ∧ DnAll K ρ F vs ds := by
  unfold seqL at h
  split at h
  · cases h
    cases r with
    | lst hs ha => exact ⟨_, _, rfl, Rd.of (k.ex _ _ hs), ha⟩
  · rename_i n
    cases r with
    | @loc a _ e =>
      split at h
      · rename_i em
        cases h
        obtain ⟨_, vs, e1, e2⟩ := k.mu n a _ e em
        exact ⟨a, vs, rfl, Rd.of e1, e2⟩
      · rename_i em
        cases h
        obtain ⟨vs, e1, e2⟩ := k.mu n a _ e em
        exact ⟨a, vs, rfl, Rd.of (k.ex _ _ e1), e2⟩
      · cases h
  · cases h
theorem DnAll.atI {vs : List V} {i : Int} (h : DnAll K ρ F vs ds) (e : L2.atI ds i = some d) : ∃ v, L2.atI vs i = some v ∧ Dn K ρ F v d := by
  unfold L2.atI at e ⊢
  rw [h.length]
  cases q : ixN ds.length i with
  | none => rw [q] at e; cases e
  | some j =>
    rw [q] at e
    exact h.get e
end

/-! ### the operators by kinds -/
def fII (g : Int → Int → Option D) : Mu → D → D → Option D := fun _ x y => match x, y with
  | .int i, .int j => g i j
  | _, _ => none
theorem fII_some {g : Int → Int → Option D} {μ : Mu} {x y z : D} (h : fII g μ x y = some z) : ∃ i j, x = .int i ∧ y = .int j ∧ g i j = some z := by
  unfold fII at h
  split at h
  · exact ⟨_, _, rfl, rfl, h⟩
  · cases h
def fSS (g : Str → Str → Option D) : Mu → D → D → Option D := fun _ x y => match x, y with
  | .str i, .str j => g i j
  | _, _ => none
theorem fSS_some {g : Str → Str → Option D} {μ : Mu} {x y z : D} (h : fSS g μ x y = some z) : ∃ i j, x = .str i ∧ y = .str j ∧ g i j = some z := by
  unfold fSS at h
  split at h
  · exact ⟨_, _, rfl, rfl, h⟩
  · cases h
section
variable {X : Cx}
/-- an operator on two ints that gives an int -/
theorem opII {g : Value → Value → Sem Value} {C : Int → Int → Prop} [∀ i j, Decidable (C i j)] {f : Int → Int → Int} (h : OpR X g (rI C fun i j => .int (f i j))) : OpD X g (fII fun i j => if C i j then some (.int (f i j)) else none) := by
  refine ⟨_, h, fun ρ F H μ v w d e z k rv rw' ez Q q => ?_⟩
  obtain ⟨i, j, rfl, rfl, e2⟩ := fII_some ez
  clear ez
  cases rv
  cases rw'
  have ez := e2
  split at ez
  · rename_i hc
    cases ez
    exact ⟨i, j, rfl, rfl, hc, q ρ F H _ Nx.refl k (.int _)⟩
  · cases ez
theorem opII0 {g : Value → Value → Sem Value} {f : Int → Int → Int} (h : OpR X g (rI0 fun i j => .int (f i j))) : OpD X g (fII fun i j => some (.int (f i j))) := by
  refine ⟨_, h, fun ρ F H μ v w d e z k rv rw' ez Q q => ?_⟩
  obtain ⟨i, j, rfl, rfl, ez⟩ := fII_some ez
  cases rv
  cases rw'
  cases ez
  exact ⟨i, j, rfl, rfl, q ρ F H _ Nx.refl k (.int _)⟩
theorem opIB0 {g : Value → Value → Sem Value} {f : Int → Int → Bool} (h : OpR X g (rI0 fun i j => .bl (f i j))) : OpD X g (fII fun i j => some (.bl (f i j))) := by
  refine ⟨_, h, fun ρ F H μ v w d e z k rv rw' ez Q q => ?_⟩
  obtain ⟨i, j, rfl, rfl, ez⟩ := fII_some ez
  cases rv
  cases rw'
  cases ez
  exact ⟨i, j, rfl, rfl, q ρ F H _ Nx.refl k (.bl _)⟩
def fAddI := fII fun i j => some (.int (i + j))
def fSubI := fII fun i j => some (.int (i - j))
theorem od_addI : OpD X (binaryOp .Add) fAddI := opII0 op_add
theorem od_subI : OpD X (binaryOp .Sub) fSubI := opII0 op_sub
def mulOk (i j : Int) : Bool := Nat.blt i.natAbs (2 ^ 64) || Nat.blt j.natAbs (2 ^ 64) || Nat.blt (i.natAbs.log2 + j.natAbs.log2) 1000000
theorem mulOk_ok {i j : Int} (h : mulOk i j = true) : IntMulOk i j := by
  unfold mulOk at h
  rw [Bool.or_eq_true, Bool.or_eq_true] at h
  rcases h with (h | h) | h
  · have h : i.natAbs < 2 ^ 64 := Nat.le_of_ble_eq_true h
    exact CMul.ok (.inl ⟨by omega, by omega⟩)
  · have h : j.natAbs < 2 ^ 64 := Nat.le_of_ble_eq_true h
    exact CMul.ok (.inr ⟨by omega, by omega⟩)
  · exact CMulW.ok (Nat.le_of_ble_eq_true h)
theorem op_mulA : OpR X (binaryOp .Mult) (rI (fun i j => mulOk i j = true) fun i j => .int (i * j)) := opI (f := binaryOp .Mult) (C := fun i j => mulOk i j = true) (g := fun i j => i * j) fun _ _ _ _ _ _ _ hc q => mul_int q (mulOk_ok hc)
def fMulI := fII fun i j => if mulOk i j = true then some (.int (i * j)) else none
theorem od_mulI : OpD X (binaryOp .Mult) fMulI := opII op_mulA
def fModI := fII fun i j => if j ≠ 0 then some (.int (i.fmod j)) else none
theorem od_modI : OpD X (binaryOp .Mod) fModI := opII (C := fun _ j => j ≠ 0) op_modN
def powOk (i j : Int) : Bool := decide (0 ≤ j) && (decide (j ≤ 1000000) && decide (i.natAbs < 2 ^ 64))
def fPowI := fII fun i j => if powOk i j = true then some (.int (i ^ j.toNat)) else none
theorem od_powI : OpD X (binaryOp .Pow) fPowI := by
  have h : OpR X (binaryOp .Pow) (rI (fun i j => powOk i j = true) fun i j => .int (i ^ j.toNat)) := by
    intro pins s σ H x y v u Q I rx ry hh
    refine op_pow pins s σ H x y v u Q I rx ry ?_
    obtain ⟨i, j, e1, e2, hc, q⟩ := hh
    unfold powOk at hc
    rw [Bool.and_eq_true, Bool.and_eq_true] at hc
    exact ⟨i, j, e1, e2, ⟨of_decide_eq_true hc.1, of_decide_eq_true hc.2.1, of_decide_eq_true hc.2.2⟩, q⟩
  exact opII h
def fLt := fII fun i j => some (.bl (decide (i < j)))
def fLe := fII fun i j => some (.bl (decide (i ≤ j)))
def fGt := fII fun i j => some (.bl (decide (j < i)))
def fGe := fII fun i j => some (.bl (decide (j ≤ i)))
theorem od_lt : OpD X (compareOp .Lt) fLt := opIB0 op_lt
theorem od_le : OpD X (compareOp .LtE) fLe := opIB0 op_le
theorem od_gt : OpD X (compareOp .Gt) fGt := opIB0 op_gt
theorem od_ge : OpD X (compareOp .GtE) fGe := opIB0 op_ge
def fAddS := fSS fun i j => if i.length + j.length ≤ 1000000 then some (.str (i ++ j)) else none
theorem od_addS : OpD X (binaryOp .Add) fAddS := by
  refine ⟨_, op_add_str, fun ρ F H μ v w d e z k rv rw' ez Q q => ?_⟩
  obtain ⟨i, j, rfl, rfl, e2⟩ := fSS_some ez
  clear ez
  cases rv
  cases rw'
  have ez := e2
  split at ez
  · rename_i hc
    cases ez
    exact ⟨i, j, rfl, rfl, le_million hc, q ρ F H _ Nx.refl k (.str _)⟩
  · cases ez
end
end Ar

set_option Elab.async false
set_option linter.all false
set_option maxRecDepth 100000
set_option maxHeartbeats 2000000
/-! Ar3: more operators, subscripts, slices -/
namespace Ar
open PySem PySem.Spec PyProof.Rows L2

/-! ### == of data -/
mutual
def toP : D → PyData
  | .non => .none
  | .bl b => .bool b
  | .int i => .int i
  | .str x => .str x
  | .tup ds => .tuple (toPs ds)
  | .lst ds => .list (toPs ds)
  | _ => .none
def toPs : List D → List PyData
  | [] => []
  | d :: ds => toP d :: toPs ds
end
/-- no places, no instances within; not deep -/
def plainD : Nat → D → Bool
  | _, .non => true
  | _, .bl _ => true
  | _, .int _ => true
  | _, .str _ => true
  | n + 1, .tup ds => ds.all (plainD n)
  | n + 1, .lst ds => ds.all (plainD n)
  | _, _ => false
def eqLs (f : D → D → Bool) : List D → List D → Bool
  | [], [] => true
  | x :: xs, y :: ys => f x y && eqLs f xs ys
  | _, _ => false
def b2 (b : Bool) : Int := if b then 1 else 0
def eqD : Nat → D → D → Bool
  | _, .non, .non => true
  | _, .bl a, .bl b => a == b
  | _, .bl a, .int j => b2 a == j
  | _, .int i, .bl b => i == b2 b
  | _, .int i, .int j => i == j
  | _, .str x, .str y => x == y
  | n + 1, .tup xs, .tup ys => eqLs (eqD n) xs ys
  | n + 1, .lst xs, .lst ys => eqLs (eqD n) xs ys
  | _, _, _ => false
/-- a place's list, by value -/
def unloc (μ : Mu) (d : D) : D := match d with
  | .loc n => match μ[n]? with
    | some (.lst ds) => .lst ds
    | some (.frz ds) => .lst ds
    | _ => .loc n
  | d => d
theorem plain_toP : ∀ (n : Nat) (d : D), plainD n d = true → (toP d).plain = true ∧ (toP d).depth ≤ n
  | n, .non, _ => by cases n <;> simp [toP, PyData.plain, PyData.depth]
  | n, .bl b, _ => by cases n <;> simp [toP, PyData.plain, PyData.depth]
  | n, .int i, _ => by cases n <;> simp [toP, PyData.plain, PyData.depth]
  | n, .str i, _ => by cases n <;> simp [toP, PyData.plain, PyData.depth]
  | 0, .tup ds, h => by simp [plainD] at h
  | 0, .lst ds, h => by simp [plainD] at h
  | n + 1, .tup ds, h => by
    have h1 : ds.all (plainD n) = true := h
    have h2 : PyData.plainAll (toPs ds) = true ∧ PyData.depthAll (toPs ds) ≤ n := by
      clear h
      induction ds with
      | nil => simp [toPs, PyData.plainAll, PyData.depthAll]
      | cons d ds ih =>
        rw [List.all_cons, Bool.and_eq_true] at h1
        obtain ⟨a, b⟩ := plain_toP n d h1.1
        obtain ⟨c, e⟩ := ih h1.2
        rw [toPs, PyData.plainAll, PyData.depthAll, a, c]
        exact ⟨rfl, Nat.max_le.mpr ⟨b, e⟩⟩
    rw [toP, PyData.plain, PyData.depth]
    exact ⟨h2.1, by omega⟩
  | n + 1, .lst ds, h => by
    have h1 : ds.all (plainD n) = true := h
    have h2 : PyData.plainAll (toPs ds) = true ∧ PyData.depthAll (toPs ds) ≤ n := by
      clear h
      induction ds with
      | nil => simp [toPs, PyData.plainAll, PyData.depthAll]
      | cons d ds ih =>
        rw [List.all_cons, Bool.and_eq_true] at h1
        obtain ⟨a, b⟩ := plain_toP n d h1.1
        obtain ⟨c, e⟩ := ih h1.2
        rw [toPs, PyData.plainAll, PyData.depthAll, a, c]
        exact ⟨rfl, Nat.max_le.mpr ⟨b, e⟩⟩
    rw [toP, PyData.plain, PyData.depth]
    exact ⟨h2.1, by omega⟩
  | n, .scr _, h => by cases n <;> simp [plainD] at h
  | n, .ins _ _, h => by cases n <;> simp [plainD] at h
  | n, .slt _ _, h => by cases n <;> simp [plainD] at h
  | n, .dK _, h => by cases n <;> simp [plainD] at h
  | n, .loc _, h => by cases n <;> simp [plainD] at h
  | n, .glo _, h => by cases n <;> simp [plainD] at h
  | n, .ty _, h => by cases n <;> simp [plainD] at h
  | n, .exn _ _ _ _, h => by cases n <;> simp [plainD] at h
  | n, .adr _, h => by cases n <;> simp [plainD] at h
  | n, .clo _ _ _ _ _, h => by cases n <;> simp [plainD] at h
theorem dp_of {K : PySem.W.Frag} {ρ : List Addr} {F H : Hp} (ex : Sub F H) : ∀ (n : Nat) (d : D) (v : V), plainD n d = true → Dn K ρ F v d → Dp K H v (toP d)
  | n, .non, _, _, r => by cases r; rw [toP]; exact .non
  | n, .bl b, _, _, r => by cases r; rw [toP]; exact .bl b
  | n, .int i, _, _, r => by cases r; rw [toP]; exact .int i
  | n, .str x, _, _, r => by cases r; rw [toP]; exact .str x
  | 0, .tup ds, _, h, _ => by simp [plainD] at h
  | 0, .lst ds, _, h, _ => by simp [plainD] at h
  | n + 1, .tup ds, v, h, r => by
    have h1 : ds.all (plainD n) = true := h
    cases r with
    | @tup a vs _ hs ha =>
      rw [toP]
      refine .tup (ex.sqT hs) ?_
      clear h hs
      induction ds generalizing vs with
      | nil => cases ha; rw [toPs]; exact .nil
      | cons d ds ih =>
        rw [List.all_cons, Bool.and_eq_true] at h1
        cases ha with
        | cons r1 r2 => rw [toPs]; exact .cons (dp_of ex n d _ h1.1 r1) (ih h1.2 r2)
  | n + 1, .lst ds, v, h, r => by
    have h1 : ds.all (plainD n) = true := h
    cases r with
    | @lst a vs _ hs ha =>
      rw [toP]
      refine .lst (.inl (Rd.of (ex _ _ hs))) ?_
      clear h hs
      induction ds generalizing vs with
      | nil => cases ha; rw [toPs]; exact .nil
      | cons d ds ih =>
        rw [List.all_cons, Bool.and_eq_true] at h1
        cases ha with
        | cons r1 r2 => rw [toPs]; exact .cons (dp_of ex n d _ h1.1 r1) (ih h1.2 r2)
  | n, .scr _, _, h, _ => by cases n <;> simp [plainD] at h
  | n, .ins _ _, _, h, _ => by cases n <;> simp [plainD] at h
  | n, .slt _ _, _, h, _ => by cases n <;> simp [plainD] at h
  | n, .dK _, _, h, _ => by cases n <;> simp [plainD] at h
  | n, .loc _, _, h, _ => by cases n <;> simp [plainD] at h
  | n, .glo _, _, h, _ => by cases n <;> simp [plainD] at h
  | n, .ty _, _, h, _ => by cases n <;> simp [plainD] at h
  | n, .exn _ _ _ _, _, h, _ => by cases n <;> simp [plainD] at h
  | n, .adr _, _, h, _ => by cases n <;> simp [plainD] at h
  | n, .clo _ _ _ _ _, _, h, _ => by cases n <;> simp [plainD] at h
/-- data of a place's list, or of a value -/
theorem dp_un {K : PySem.W.Frag} {ρ : List Addr} {F H : Hp} {μ : Mu} {v : V} {d : D} {n : Nat} (k : HpOk K ρ μ F H) (h : plainD n (unloc μ d) = true) (r : Dn K ρ F v d) : Dp K H v (toP (unloc μ d)) := by
  cases d with
  | loc j =>
    cases r with
    | @loc a _ e =>
      unfold unloc at h ⊢
      simp only at h ⊢
      cases em : μ[j]? with
      | none => rw [em] at h; cases n <;> simp [plainD] at h
      | some o =>
        rw [em] at h
        cases o with
        | lst ds =>
          obtain ⟨_, vs, e1, e2⟩ := k.mu j a _ e em
          -- as a frozen list of a heap
          have h1 : plainD n (.lst ds) = true := h
          cases n with
          | zero => simp [plainD] at h1
          | succ n =>
            have h2 : ds.all (plainD n) = true := h1
            show Dp K H (.ref a) (toP (.lst ds))
            rw [toP]
            refine .lst (SqL.of e1) ?_
            clear h h1 e1 em
            induction ds generalizing vs with
            | nil => cases e2; rw [toPs]; exact .nil
            | cons d ds ih =>
              rw [List.all_cons, Bool.and_eq_true] at h2
              cases e2 with
              | cons r1 r2 => rw [toPs]; exact .cons (dp_of k.ex n d _ h2.1 r1) (ih _ r2 h2.2)
        | frz ds =>
          obtain ⟨vs, e1, e2⟩ := k.mu j a _ e em
          exact dp_of k.ex n (.lst ds) (.ref a) h (.lst e1 e2)
        | dead => cases n <;> simp [plainD] at h
        | ins _ _ => cases n <;> simp [plainD] at h
        | dK _ => cases n <;> simp [plainD] at h
        | dT _ => cases n <;> simp [plainD] at h
        | tab => cases n <;> simp [plainD] at h
  | _ => exact dp_of k.ex n _ v h r
theorem eqD_toP : ∀ (n : Nat) (d e : D), plainD n d = true → plainD n e = true → eqD n d e = PyData.eqv (toP d) (toP e) := by
  intro n
  induction n with
  | zero =>
    intro d e h1 h2
    cases d <;> cases e <;> first | (simp [plainD] at h1; done) | (simp [plainD] at h2; done) | simp [eqD, toP, PyData.eqv, b2]
  | succ n ih =>
    have all : ∀ xs ys : List D, xs.all (plainD n) = true → ys.all (plainD n) = true → eqLs (eqD n) xs ys = PyData.eqvAll (toPs xs) (toPs ys) := by
      intro xs
      induction xs with
      | nil => intro ys _ _; cases ys <;> simp [eqLs, toPs, PyData.eqvAll]
      | cons x xs ih2 =>
        intro ys h1 h2
        cases ys with
        | nil => simp [eqLs, toPs, PyData.eqvAll]
        | cons y ys =>
          rw [List.all_cons, Bool.and_eq_true] at h1 h2
          rw [eqLs, toPs, toPs, PyData.eqvAll, ih x y h1.1 h2.1, ih2 ys h1.2 h2.2]
    intro d e h1 h2
    cases d with
    | tup xs =>
      cases e with
      | tup ys => rw [toP, toP, PyData.eqv, ← all xs ys h1 h2]; rfl
      | _ => first | (simp [plainD] at h2; done) | simp [eqD, toP, PyData.eqv]
    | lst xs =>
      cases e with
      | lst ys => rw [toP, toP, PyData.eqv, ← all xs ys h1 h2]; rfl
      | _ => first | (simp [plainD] at h2; done) | simp [eqD, toP, PyData.eqv]
    | _ => cases e <;> first | (simp [plainD] at h1; done) | (simp [plainD] at h2; done) | simp [eqD, toP, PyData.eqv, b2]
def fEq : Mu → D → D → Option D := fun μ x y => if plainD 20 (unloc μ x) = true ∧ plainD 20 (unloc μ y) = true then some (.bl (eqD 20 (unloc μ x) (unloc μ y))) else none
def fNe : Mu → D → D → Option D := fun μ x y => if plainD 20 (unloc μ x) = true ∧ plainD 20 (unloc μ y) = true then some (.bl (!eqD 20 (unloc μ x) (unloc μ y))) else none
section
variable {X : Cx}
def rEqP (K : PySem.W.Frag) : R2 := fun x y H Q => ∃ d e, Dp K H x d ∧ Dp K H y e ∧ d.plain = true ∧ e.plain = true ∧ d.depth ≤ 60 ∧ Q (.bl (PyData.eqv d e)) H
def rNeP (K : PySem.W.Frag) : R2 := fun x y H Q => ∃ d e, Dp K H x d ∧ Dp K H y e ∧ d.plain = true ∧ e.plain = true ∧ d.depth ≤ 60 ∧ Q (.bl (!PyData.eqv d e)) H
theorem op_eqP (hu : X.A.units + 64 < cLine) : OpR X (compareOp .Eq) (rEqP X.K) := by
  intro pins s σ H x y v u Q I rx ry h
  obtain ⟨d, e, hd, he, sd, se, hz, q⟩ := h
  obtain ⟨as, r1⟩ := Dp.reads I d x v hd rx
  obtain ⟨bs, r2⟩ := Dp.reads I e y u he ry
  have h2 : min d.depth e.depth ≤ d.depth := Nat.min_le_left _ _
  exact SeqAt.eq_plain r1 r2 sd se (by omega) ⟨.bl _, H, I, rfl, q⟩
theorem op_neP (hu : X.A.units + 64 < cLine) : OpR X (compareOp .NotEq) (rNeP X.K) := by
  intro pins s σ H x y v u Q I rx ry h
  obtain ⟨d, e, hd, he, sd, se, hz, q⟩ := h
  obtain ⟨as, r1⟩ := Dp.reads I d x v hd rx
  obtain ⟨bs, r2⟩ := Dp.reads I e y u he ry
  have h2 : min d.depth e.depth ≤ d.depth := Nat.min_le_left _ _
  exact SeqAt.ne_plain r1 r2 sd se (by omega) ⟨.bl _, H, I, rfl, q⟩
theorem od_eq (hu : X.A.units + 64 < cLine) : OpD X (compareOp .Eq) fEq := by
  refine ⟨_, op_eqP hu, fun ρ F H μ v w d e z k rv rw' ez Q q => ?_⟩
  unfold fEq at ez
  split at ez
  · rename_i hc
    cases ez
    obtain ⟨p1, p2⟩ := plain_toP 20 _ hc.1
    obtain ⟨q1, q2⟩ := plain_toP 20 _ hc.2
    refine ⟨_, _, dp_un k hc.1 rv, dp_un k hc.2 rw', p1, q1, by omega, ?_⟩
    rw [← eqD_toP 20 _ _ hc.1 hc.2]
    exact q ρ F H _ Nx.refl k (.bl _)
  · cases ez
theorem od_ne (hu : X.A.units + 64 < cLine) : OpD X (compareOp .NotEq) fNe := by
  refine ⟨_, op_neP hu, fun ρ F H μ v w d e z k rv rw' ez Q q => ?_⟩
  unfold fNe at ez
  split at ez
  · rename_i hc
    cases ez
    obtain ⟨p1, p2⟩ := plain_toP 20 _ hc.1
    obtain ⟨q1, q2⟩ := plain_toP 20 _ hc.2
    refine ⟨_, _, dp_un k hc.1 rv, dp_un k hc.2 rw', p1, q1, by omega, ?_⟩
    rw [← eqD_toP 20 _ _ hc.1 hc.2]
    exact q ρ F H _ Nx.refl k (.bl _)
  · cases ez
end

/-! ### in -/
def seqA (μ : Mu) (d : D) : Option (List D) := match d with
  | .tup ds => some ds
  | .scr ds => some ds
  | d => seqL μ d
theorem seqA_ok {K : PySem.W.Frag} {ρ : List Addr} {F H : Hp} {μ : Mu} {v : V} {d : D} {ds : List D} (k : HpOk K ρ μ F H) (r : Dn K ρ F v d) (h : seqA μ d = some ds) : ∃ a vs, v = .ref a ∧ (SqL K H a vs ∨ SqT K H a vs) ∧ DnAll K ρ F vs ds := by
  unfold seqA at h
  split at h
  · cases h
    cases r with
    | tup h1 h2 => exact ⟨_, _, rfl, .inr (k.ex.sqT h1), h2⟩
  · cases h
    cases r with
    | scr h1 h2 => exact ⟨_, _, rfl, .inl (k.ex.sqL h1), h2⟩
  · obtain ⟨a, vs, e1, e2, e3⟩ := seqL_ok k r h
    exact ⟨a, vs, e1, .inl (.inl e2), e3⟩
def inD (x : D) (ds : List D) : Bool := ds.any fun y => eqD 20 y x
def fIn (neg : Bool) : Mu → D → D → Option D := fun μ x c => match c with
  | .str z => match x with
    | .str y => match y.cps.toList with
      | [s] => some (.bl (if neg then !decide (s ∈ z.cps.toList) else decide (s ∈ z.cps.toList)))
      | _ => none
    | _ => none
  | c => match seqA μ c with
    | some ds => if plainD 19 (unloc μ x) = true ∧ ds.all (plainD 19) = true then some (.bl (if neg then !inD (unloc μ x) ds else inD (unloc μ x) ds)) else none
    | none => none
theorem plainD_mono : ∀ (n : Nat) (d : D), plainD n d = true → plainD (n + 1) d = true := by
  intro n
  induction n with
  | zero => intro d h; cases d <;> first | rfl | (simp [plainD] at h)
  | succ n ih =>
    intro d h
    cases d with
    | tup ds =>
      have h : ds.all (plainD n) = true := h
      show ds.all (plainD (n + 1)) = true
      rw [List.all_eq_true] at h ⊢
      exact fun x hx => ih x (h x hx)
    | lst ds =>
      have h : ds.all (plainD n) = true := h
      show ds.all (plainD (n + 1)) = true
      rw [List.all_eq_true] at h ⊢
      exact fun x hx => ih x (h x hx)
    | _ => first | rfl | (simp [plainD] at h)
theorem any_toP {x : D} (hx : plainD 20 x = true) : ∀ {ds : List D}, ds.all (plainD 20) = true → (toPs ds).any (fun z => PyData.eqv z (toP x)) = inD x ds
  | [], _ => by simp [toPs, inD]
  | d :: ds, h => by
    rw [List.all_cons, Bool.and_eq_true] at h
    rw [toPs, List.any_cons, any_toP hx h.2, ← eqD_toP 20 d x h.1 hx]
    rfl
theorem plains_toPs : ∀ {ds : List D} {n : Nat}, ds.all (plainD n) = true → PyData.plainAll (toPs ds) = true ∧ PyData.depthAll (toPs ds) ≤ n
  | [], _, _ => by simp [toPs, PyData.plainAll, PyData.depthAll]
  | d :: ds, n, h => by
    rw [List.all_cons, Bool.and_eq_true] at h
    obtain ⟨a, b⟩ := plain_toP n d h.1
    obtain ⟨c, e⟩ := plains_toPs h.2
    rw [toPs, PyData.plainAll, PyData.depthAll, a, c]
    exact ⟨rfl, Nat.max_le.mpr ⟨b, e⟩⟩
theorem dps_of {K : PySem.W.Frag} {ρ : List Addr} {F H : Hp} (ex : Sub F H) {n : Nat} : ∀ {ds : List D} {vs : List V}, ds.all (plainD n) = true → DnAll K ρ F vs ds → DpAll K H vs (toPs ds)
  | [], _, _, r => by cases r; rw [toPs]; exact .nil
  | d :: ds, _, h, r => by
    rw [List.all_cons, Bool.and_eq_true] at h
    cases r with
    | cons r1 r2 => rw [toPs]; exact .cons (dp_of ex n d _ h.1 r1) (dps_of ex h.2 r2)
section
variable {X : Cx}
def rInP (K : PySem.W.Frag) (neg : Bool) : R2 := fun x y H Q => ∃ d ds, Dp K H x d ∧ (Dp K H y (.list ds) ∨ Dp K H y (.tuple ds)) ∧ d.plain = true ∧ PyData.plainAll ds = true ∧ PyData.depthAll ds ≤ 50 ∧
  Q (.bl (if neg then !ds.any fun z => PyData.eqv z d else ds.any fun z => PyData.eqv z d)) H
theorem op_inP (hu : X.A.units + 64 < cLine) : OpR X (compareOp .In) (rInP X.K false) := by
  intro pins s σ H x y v u Q I rx ry h
  obtain ⟨d, ds, hd, he, sd, se, hz, q⟩ := h
  obtain ⟨as, r1⟩ := Dp.reads I d x v hd rx
  have h2 : min (PyData.depthAll ds) d.depth ≤ PyData.depthAll ds := Nat.min_le_left _ _
  rcases he with he | he
  · obtain ⟨bs, r2⟩ := Dp.reads I _ y u he ry
    exact SeqAt.in_list_data r2 r1 se sd (by omega) ⟨.bl _, H, I, rfl, q⟩
  · obtain ⟨bs, r2⟩ := Dp.reads I _ y u he ry
    exact SeqAt.in_tuple_data r2 r1 se sd (by omega) ⟨.bl _, H, I, rfl, q⟩
def rInSg (neg : Bool) : R2 := fun x y H Q => ∃ (c : Nat) (z : Str), x = .str ⟨#[c]⟩ ∧ y = .str z ∧ Q (.bl (if neg then !decide (c ∈ z.cps.toList) else decide (c ∈ z.cps.toList))) H
theorem os_in {K : PySem.W.Frag} (neg : Bool) : OpS K (fun x y H Q => rInSg neg x y H Q ∨ rInP K neg x y H Q) (fIn neg) := by
  intro ρ F H μ v w d e z k rv rw' ez Q q
  unfold fIn at ez
  split at ez
  · rename_i zs
    split at ez
    · rename_i y
      split at ez
      · rename_i sg hs
        cases ez
        cases rv
        cases rw'
        refine .inl ⟨sg, zs, ?_, rfl, q ρ F H _ Nx.refl k (.bl _)⟩
        congr 1
        cases y with
        | mk a =>
          have : a = #[sg] := by
            apply Array.ext'
            exact hs
          rw [this]
      · cases ez
    · cases ez
  · split at ez
    · rename_i ds hs
      split at ez
      · rename_i hc
        cases ez
        right
        obtain ⟨p1, p2⟩ := plain_toP 19 _ hc.1
        obtain ⟨q1, q2⟩ := plains_toPs hc.2
        have c1 := plainD_mono 19 _ hc.1
        have c2 : ds.all (plainD 20) = true := by
          have := hc.2
          rw [List.all_eq_true] at this ⊢
          exact fun x hx => plainD_mono 19 x (this x hx)
        have hd : Dp K H w (.list (toPs ds)) ∨ Dp K H w (.tuple (toPs ds)) := by
          obtain ⟨a, vs, rfl, e1, e2⟩ := seqA_ok k rw' hs
          rcases e1 with e1 | e1
          · exact .inl (.lst e1 (dps_of k.ex hc.2 e2))
          · exact .inr (.tup e1 (dps_of k.ex hc.2 e2))
        refine ⟨_, _, dp_un k hc.1 rv, hd, p1, q1, by omega, ?_⟩
        rw [any_toP c1 c2]
        exact q ρ F H _ Nx.refl k (.bl _)
      · cases ez
    · cases ez
theorem od_in (hu : X.A.units + 64 < cLine) : OpD X (compareOp .In) (fIn false) := ⟨_, (OpR.or (r := rInSg false) op_in_sign (op_inP hu)), os_in false⟩
end

/-! ### is None, is of truth values -/
def isNon : D → Bool
  | .non => true
  | _ => false
def fIs (neg : Bool) : Mu → D → D → Option D := fun _ x y => match y with
  | .non => some (.bl (if neg then !isNon x else isNon x))
  | .bl b => match x with
    | .bl a => some (.bl (if neg then !decide (a = b) else decide (a = b)))
    | _ => none
  | _ => none
section
variable {X : Cx}
end

/-! ### + of tuples and lists, lists times ints -/
def fAddT : Mu → D → D → Option D := fun _ x y => match x, y with
  | .tup xs, .tup ys => if xs.length + ys.length ≤ 1000000 then some (.tup (xs ++ ys)) else none
  | _, _ => none
def fAddL : Mu → D → D → Option D := fun μ x y => match seqL μ x, seqL μ y with
  | some xs, some ys => if xs.length + ys.length ≤ 1000000 then some (.lst (xs ++ ys)) else none
  | _, _ => none
section
variable {X : Cx}
theorem DnAll.nil_iff {K : PySem.W.Frag} {ρ : List Addr} {F : Hp} {vs : List V} {ds : List D} (h : DnAll K ρ F vs ds) : vs = [] ↔ ds = [] := by
  cases h <;> simp
theorem od_addT : OpD X (binaryOp .Add) fAddT := by
  refine ⟨_, op_catA, fun ρ F H μ v w d e z k rv rw' ez Q q => ?_⟩
  unfold fAddT at ez
  split at ez
  · rename_i xs ys
    split at ez
    · rename_i hl
      cases ez
      cases rv with
      | tup h1 h2 =>
        cases rw' with
        | tup g1 g2 =>
          refine ⟨_, _, _, _, rfl, rfl, k.ex.sqT h1, k.ex.sqT g1, by rw [h2.length, g2.length]; exact le_million hl, fun e => ?_, fun e1 e2 => ?_, fun _ _ p hp => ?_⟩
          · have : xs = [] := h2.nil_iff.mp e
            subst this
            exact q ρ F H _ Nx.refl k (.tup g1 g2)
          · have : ys = [] := g2.nil_iff.mp e2
            subst this
            rw [List.append_nil] at q
            exact q ρ F H _ Nx.refl k (.tup h1 h2)
          · obtain ⟨n2, k2, r2⟩ := new_tup k (h2.append g2) hp
            exact q _ _ _ _ n2 k2 r2
    · cases ez
  · cases ez
def rCatR : R2 := fun x y H Q => ∃ l b xs zs, x = .ref l ∧ y = .ref b ∧ Rd H l (.lst xs) ∧ Rd H b (.lst zs) ∧ xs.length + zs.length ≤ sizeLine ∧ ∀ p, H p = none → Q (.ref p) (upd H p (.lst (xs ++ zs)))
theorem op_catR : OpR X (binaryOp .Add) rCatR := by
  intro pins s σ H x y v u Q I rx ry h
  obtain ⟨l, b, xs, zs, rfl, rfl, hH, hB, hz, q⟩ := h
  cases rx
  cases ry
  obtain ⟨z, its, n, r, e⟩ := hH.ok I.hok
  obtain ⟨z2, its2, n2, r2, e2⟩ := hB.ok I.hok
  have hl := r.length
  have hl2 := r2.length
  refine PySem.P.add_list e e2 ?_ (by rw [List.size_toArray, List.size_toArray]; omega)
  have ea : its.toArray ++ its2.toArray = (its ++ its2).toArray := by simp
  rw [ea]
  exact ⟨.ref _, _, I.lnew (t' := s.toks) (r.append r2) (by rw [List.length_append]; omega), rfl, q _ I.fresh⟩
theorem od_addL : OpD X (binaryOp .Add) fAddL := by
  refine ⟨_, op_catR, fun ρ F H μ v w d e z k rv rw' ez Q q => ?_⟩
  unfold fAddL at ez
  split at ez
  · rename_i xs ys e1 e2
    split at ez
    · rename_i hl
      cases ez
      obtain ⟨a, vs, rfl, h1, h2⟩ := seqL_ok k rv e1
      obtain ⟨b, ws, rfl, g1, g2⟩ := seqL_ok k rw' e2
      refine ⟨_, _, _, _, rfl, rfl, h1, g1, by rw [h2.length, g2.length]; exact le_million hl, fun p hp => ?_⟩
      obtain ⟨n2, k2, r2⟩ := new_lst k (h2.append g2) hp
      exact q _ _ _ _ n2 k2 r2
    · cases ez
  · cases ez
/-- a list times an int -/
def fRepL : Mu → D → D → Option D := fun _ x y => match x, y with
  | .lst ds, .int k => if (-(2 ^ 63) ≤ k ∧ k < 2 ^ 63) ∧ ds.length * k.toNat ≤ 1000000 then some (.lst (List.replicate k.toNat ds).flatten) else none
  | _, _ => none
theorem DnAll.rep {K : PySem.W.Frag} {ρ : List Addr} {F : Hp} {vs : List V} {ds : List D} (h : DnAll K ρ F vs ds) : ∀ k : Nat, DnAll K ρ F (List.replicate k vs).flatten (List.replicate k ds).flatten
  | 0 => .nil
  | k + 1 => by
    rw [List.replicate_succ, List.replicate_succ, List.flatten_cons, List.flatten_cons]
    exact h.append (h.rep k)
theorem od_repL : OpD X (binaryOp .Mult) fRepL := by
  refine ⟨_, op_rep, fun ρ F H μ v w d e z k rv rw' ez Q q => ?_⟩
  unfold fRepL at ez
  split at ez
  · split at ez
    · rename_i hl
      cases ez
      cases rw'
      cases rv with
      | lst h1 h2 =>
        refine ⟨_, _, _, rfl, rfl, k.ex _ _ h1, hl.1.1, hl.1.2, by rw [h2.length]; exact le_million hl.2, fun p hp => ?_⟩
        obtain ⟨n2, k2, r2⟩ := new_lst k (h2.rep _) hp
        exact q _ _ _ _ n2 k2 r2
    · cases ez
  · cases ez
def fMul := orF fMulI fRepL
theorem od_mul : OpD X (binaryOp .Mult) fMul := od_mulI.or od_repL
def fAdd := orF fAddI (orF fAddS (orF fAddT fAddL))
theorem od_add : OpD X (binaryOp .Add) fAdd := od_addI.or (od_addS.or (od_addT.or od_addL))
/-! // of any sign -/
def fdOk (j : Int) : Bool := j != 0 && Nat.blt j.natAbs.log2 9000
theorem op_fdivA : OpR X (binaryOp .FloorDiv) (rI (fun _ j => fdOk j = true) fun i j => .int (i.fdiv j)) := opI (f := binaryOp .FloorDiv) (C := fun _ j => fdOk j = true) (g := fun i j => i.fdiv j) fun i j _ _ _ _ _ hc q => by
  unfold fdOk at hc
  rw [Bool.and_eq_true] at hc
  exact floordiv_int (by simpa using hc.1) q (.inl (PyProof.noPylong_of_log2 (Nat.le_of_ble_eq_true hc.2)))
def fDivI := fII fun i j => if fdOk j = true then some (.int (i.fdiv j)) else none
theorem od_divI : OpD X (binaryOp .FloorDiv) fDivI := opII op_fdivA
end

/-! ### subscripts -/
structure IxD (X : Cx) (f : Mu → D → D → Option D) : Prop where
  ex : ∃ r, IxR X r ∧ OpS X.K r f
def fIx : Mu → D → D → Option D := fun μ x y => match y with
  | .int i => match x with
    | .str z => if z.length ≤ 1000000 then (L2.atI z.cps.toList i).map fun c => .str ⟨#[c]⟩ else none
    | x => match seqA μ x with
      | some ds => L2.atI ds i
      | none => none
  | _ => none
section
variable {X : Cx} {E : XK} {a b : Expr} {da db : DE} {pos : Pos}
theorem ixd : IxD X fIx := by
  refine ⟨_, ix_seq, fun ρ F H μ v w d e z k rv rw' ez Q q => ?_⟩
  unfold fIx at ez
  split at ez
  · rename_i i
    cases rw'
    split at ez
    · rename_i y
      split at ez
      · rename_i hl
        cases rv
        cases hx : L2.atI y.cps.toList i with
        | none => rw [hx] at ez; cases ez
        | some c =>
          rw [hx] at ez
          cases ez
          exact .inr (.inr ⟨y, i, c, rfl, rfl, le_million hl, hx, q ρ F H _ Nx.refl k (.str _)⟩)
      · cases ez
    · split at ez
      · rename_i ds hs
        obtain ⟨a, vs, rfl, e1, e2⟩ := seqA_ok k rv hs
        obtain ⟨x, hx, rx⟩ := e2.atI ez
        rcases e1 with e1 | e1
        · exact .inl ⟨a, vs, i, x, rfl, rfl, e1, hx, q ρ F H _ Nx.refl k rx⟩
        · exact .inr (.inl ⟨a, vs, i, x, rfl, rfl, e1, hx, q ρ F H _ Nx.refl k rx⟩)
      · cases ez
  · cases ez
theorem q_ix (ha : QE X E a da) (hb : QE X E b db) (hs : PlainIx b := by exact fun _ _ => rfl) : QE X E (.Subscript a b pos) (dBin fIx da db) := by
  obtain ⟨r, h1, h2⟩ := (ixd (X := X)).ex
  obtain ⟨ta, a1, a2⟩ := ha.ex
  obtain ⟨tb, b1, b2⟩ := hb.ex
  exact ⟨_, pe_ix h1 a1 b1 hs, sim_bin h2 a2 b2⟩
/-! ### unary -/
def fNeg : Mu → D → Option D := fun _ x => match x with
  | .int i => some (.int (-i))
  | _ => none
theorem q_neg (ha : QE X E a da) : QE X E (.UnaryOp .USub a pos) (dUn fNeg da) := by
  obtain ⟨ta, a1, a2⟩ := ha.ex
  refine ⟨_, pe_un un_neg a1, ?_⟩
  intro ρ F H Γ μ σ k s Q h
  refine a2 ρ F H Γ μ σ k s _ (h.bind.mono (fun x μ1 q => ?_) fun _ _ q => q)
  intro ρ1 F1 H1 v n1 k1 r1
  obtain ⟨z, ez, q⟩ := q.of
  unfold fNeg at ez
  split at ez
  · cases ez
    cases r1
    exact ⟨_, rfl, q ρ1 F1 H1 _ n1 k1 (.int _)⟩
  · cases ez
end

/-! ### slices -/
def cutL {α : Type} (xs : List α) (lo hi : Option Int) : List α := (xs.drop (HT.sIx xs.length 0 lo)).take (HT.sIx xs.length xs.length hi - HT.sIx xs.length 0 lo)
theorem cut_dn {K : PySem.W.Frag} {ρ : List Addr} {F : Hp} {vs : List V} {ds : List D} (h : DnAll K ρ F vs ds) (lo hi : Option Int) : DnAll K ρ F (cutV vs lo hi) (cutL ds lo hi) := by
  unfold cutV cutL
  rw [h.length]
  exact (h.drop _).take _
theorem cutL_whole {α : Type} {xs : List α} {lo hi : Option Int} (h : HT.sIx xs.length 0 lo = 0 ∧ HT.sIx xs.length xs.length hi = xs.length) : cutL xs lo hi = xs := by
  unfold cutL
  rw [h.1, h.2]
  simp
def fSl (μ : Mu) (x : D) (lo hi : Option Int) : Option D := match x with
  | .str z => if z.length ≤ 1000000 then some (.str (cutS z lo hi)) else none
  | .tup ds => some (.tup (cutL ds lo hi))
  | .scr ds => some (.lst (cutL ds lo hi))
  | x => (seqL μ x).map fun ds => .lst (cutL ds lo hi)
def dNoPart : DO := fun _ μ => .ok none μ
def dPart (a : DE) : DO := fun Γ μ => (a Γ μ).bind fun x μ1 => match x with
  | .int i => .ok (some i) μ1
  | _ => .stk
def dSl (a : DE) (l h : DO) : DE := fun Γ μ => (a Γ μ).bind fun x μ1 => (l Γ μ1).bind fun lo μ2 => (h Γ μ2).bind fun hi μ3 => R.of μ3 (fSl μ3 x lo hi)
section
variable {X : Cx} {E : XK} {a e : Expr} {da : DE} {dl dh : DO} {lo hi : Option Expr} {pos p2 : Pos}
theorem qo_none : QO X E none dNoPart := ⟨_, po_none, fun ρ F H Γ μ σ k s Q h => h ρ F H Nx.refl k⟩
theorem qo_some (ha : QE X E e da) : QO X E (some e) (dPart da) := by
  obtain ⟨ta, a1, a2⟩ := ha.ex
  refine ⟨_, po_some a1, ?_⟩
  intro ρ F H Γ μ σ k s Q h
  refine a2 ρ F H Γ μ σ k s _ (h.bind.mono (fun x μ1 q => ?_) fun _ _ q => q)
  intro ρ1 F1 H1 v n1 k1 r1
  cases r1 with
  | int i => exact ⟨i, rfl, q ρ1 F1 H1 n1 k1⟩
  | _ => exact False.elim q
theorem q_sl (ha : QE X E a da) (hl : QO X E lo dl) (hh : QO X E hi dh) : QE X E (.Subscript a (.Slice lo hi none p2) pos) (dSl da dl dh) := by
  obtain ⟨ta, a1, a2⟩ := ha.ex
  obtain ⟨tl, l1, l2⟩ := hl.ex
  obtain ⟨th, h1, h2⟩ := hh.ex
  refine ⟨_, pe_slice ((sl_list (X := X)).or ((sl_tupA (X := X)).or sl_str)) a1 l1 h1, ?_⟩
  intro ρ F H Γ μ σ k s Q h
  refine a2 ρ F H Γ μ σ k s _ (h.bind.mono (fun x μ1 q => ?_) fun _ _ q => q)
  intro ρ1 F1 H1 v n1 k1 r1
  refine l2 ρ1 F1 H1 Γ μ1 σ k1 (s.nx n1) _ (q.bind.mono (fun lo μ2 q => ?_) fun _ _ q => XP.nx n1 q)
  intro ρ2 F2 H2 n2 k2
  refine h2 ρ2 F2 H2 Γ μ2 σ k2 (s.nx (n1.trans n2)) _ (q.bind.mono (fun hi μ3 q => ?_) fun _ _ q => XP.nx (n1.trans n2) q)
  intro ρ3 F3 H3 n3 k3
  obtain ⟨z, ez, q⟩ := q.of
  have r3 := (r1.nx n2).nx n3
  have n := (n1.trans n2).trans n3
  unfold fSl at ez
  split at ez
  · rename_i y
    split at ez
    · rename_i hz
      cases ez
      cases r3
      exact .inr (.inr ⟨_, rfl, le_million hz, q _ _ _ _ n k3 (.str _)⟩)
    · cases ez
  · rename_i ds
    cases ez
    cases r3 with
    | tup g1 g2 =>
      refine .inr (.inl ⟨_, _, rfl, k3.ex.sqT g1, fun hw => ?_, fun _ p hp => ?_⟩)
      · rw [g2.length] at hw
        rw [cutL_whole hw] at q
        exact q _ _ _ _ n k3 (.tup g1 g2)
      · obtain ⟨n4, k4, r4⟩ := new_tup k3 (cut_dn g2 lo hi) hp
        exact q _ _ _ _ (n.trans n4) k4 r4
  · cases ez
    cases r3 with
    | scr g1 g2 =>
      refine .inl ⟨_, _, rfl, k3.ex.sqL g1, fun p hp => ?_⟩
      obtain ⟨n4, k4, r4⟩ := new_lst k3 (cut_dn g2 lo hi) hp
      exact q _ _ _ _ (n.trans n4) k4 r4
  · cases hs : seqL μ3 x with
    | none => rw [hs] at ez; cases ez
    | some ds =>
      rw [hs] at ez
      cases ez
      obtain ⟨a, vs, rfl, g1, g2⟩ := seqL_ok k3 r3 hs
      refine .inl ⟨a, vs, rfl, .inl g1, fun p hp => ?_⟩
      obtain ⟨n4, k4, r4⟩ := new_lst k3 (cut_dn g2 lo hi) hp
      exact q _ _ _ _ (n.trans n4) k4 r4
end
end Ar

set_option Elab.async false
set_option linter.all false
set_option maxRecDepth 100000
set_option maxHeartbeats 2000000
/-! Ar4: calls of builtins -/
namespace Ar
open PySem PySem.Spec PyProof.Rows L2

def CallS (K : PySem.W.Frag) (r : List V → Hp → VK → Prop) (f : Mu → List D → Option D) : Prop := ∀ (ρ : List Addr) (F H : Hp) (μ : Mu) (vs : List V) (ds : List D) (z : D), HpOk K ρ μ F H → DnAll K ρ F vs ds → f μ ds = some z → ∀ Q : VK, QV K ρ F H Q z μ → r vs H Q
structure CallD (X : Cx) (v : Value) (f : Mu → List D → Option D) : Prop where
  ex : ∃ r, CallR X v r ∧ CallS X.K r f
def dFn (f : Mu → List D → Option D) (a : DA) : DE := fun Γ μ => (a Γ μ).bind fun ds μ1 => R.of μ1 (f μ1 ds)
def orC (f g : Mu → List D → Option D) : Mu → List D → Option D := fun μ x => match f μ x with
  | some z => some z
  | none => g μ x
section
variable {X : Cx} {E : XK} {K : PySem.W.Frag} {e : Expr} {es : List Expr} {da : DA} {pos p : Pos}
theorem CallD.or {v : Value} {f f' : Mu → List D → Option D} (h : CallD X v f) (h' : CallD X v f') : CallD X v (orC f f') := by
  obtain ⟨r, h1, h2⟩ := h.ex
  obtain ⟨r', h1', h2'⟩ := h'.ex
  refine ⟨_, h1.or h1', fun ρ F H μ vs ds z k rv ez Q q => ?_⟩
  unfold orC at ez
  split at ez
  · rename_i z' e1
    cases ez
    exact .inl (h2 ρ F H μ vs ds z k rv e1 Q q)
  · exact .inr (h2' ρ F H μ vs ds z k rv ez Q q)
theorem sim_cb {r : List V → Hp → VK → Prop} {f : Mu → List D → Option D} {ta : TA} (hr : CallS K r f) (ha : SimA K E ta da) : SimE K E (tCB r ta) (dFn f da) := by
  intro ρ F H Γ μ σ k s Q h
  refine ha ρ F H Γ μ σ k s _ (h.bind.mono (fun x μ1 h1 => ?_) fun _ _ q => q)
  intro ρ1 F1 H1 vs n1 k1 r1
  obtain ⟨z, ez, q⟩ := h1.of
  exact hr ρ1 F1 H1 μ1 vs x z k1 r1 ez Q (QV.nx n1 q)
theorem q_callB {id : String} {x : Str} {f : Mu → List D → Option D} (hc : CallD X (.builtin id) f) (hm : X.mg x = none) (hv : bootBuiltins x = some (.builtin id)) (ha : QA X E (e :: es) da) (hg : Gl X x := by rfl) (hn : x ≠ "__name__" := by decide) (hdb : (x == ("__debug__" : Str)) = false := by decide)
    (he : starEach (e :: es) X.env = (false, eval e X.env) :: starEach es X.env := by rfl) (hpl : (backTo pos (starEach es X.env)).any (·.1) = false := by rfl) : QE X E (.Call (.Name x p) (e :: es) [] pos) (dFn f da) := by
  obtain ⟨r, h1, h2⟩ := hc.ex
  obtain ⟨ta, a1, a2⟩ := ha.ex
  exact ⟨_, pe_callB h1 hg hm hv a1 hn hdb he hpl, sim_cb h2 a2⟩
theorem q_callTy {T : String} {x : Str} {f : Mu → List D → Option D} (hc : CallD X (.type T) f) (hm : X.mg x = none) (hv : bootBuiltins x = some (.type T)) (ha : QA X E (e :: es) da) (hg : Gl X x := by rfl) (hn : x ≠ "__name__" := by decide) (hdb : (x == ("__debug__" : Str)) = false := by decide)
    (he : starEach (e :: es) X.env = (false, eval e X.env) :: starEach es X.env := by rfl) (hpl : (backTo pos (starEach es X.env)).any (·.1) = false := by rfl) : QE X E (.Call (.Name x p) (e :: es) [] pos) (dFn f da) := by
  obtain ⟨r, h1, h2⟩ := hc.ex
  obtain ⟨ta, a1, a2⟩ := ha.ex
  exact ⟨_, pe_callTy h1 hg hm hv a1 hn hdb he hpl, sim_cb h2 a2⟩

/-! len -/
def fLen : Mu → List D → Option D := fun μ ds => match ds with
  | [.str z] => if z.length ≤ 1000000 then some (.int z.length) else none
  | [x] => (seqA μ x).map fun xs => .int (xs.length : Nat)
  | _ => none
theorem cd_len : CallD X (.builtin "len") fLen := by
  refine ⟨_, call_len, fun ρ F H μ vs ds z k rv ez Q q => ?_⟩
  unfold fLen at ez
  split at ez
  · rename_i y
    split at ez
    · rename_i hl
      cases ez
      cases rv with
      | cons r1 r2 =>
        cases r1
        cases r2
        exact ⟨_, _, rfl, ⟨le_million hl, rfl⟩, q ρ F H _ Nx.refl k (.int _)⟩
    · cases ez
  · rename_i x _
    cases hs : seqA μ x with
    | none => rw [hs] at ez; cases ez
    | some xs =>
      rw [hs] at ez
      cases ez
      cases rv with
      | cons r1 r2 =>
        cases r2
        obtain ⟨a, vs, rfl, h1, h2⟩ := seqA_ok k r1 hs
        refine ⟨_, vs.length, rfl, ?_, ?_⟩
        · rcases h1 with h1 | h1
          · exact .inl ⟨vs, h1, rfl⟩
          · exact .inr ⟨vs, h1, rfl⟩
        · rw [h2.length]
          exact q ρ F H _ Nx.refl k (.int _)
  · cases ez
/-! of ints -/
def fAbs : Mu → List D → Option D := fun _ ds => match ds with
  | [.int i] => some (.int (if i < 0 then -i else i))
  | _ => none
theorem cd_abs : CallD X (.builtin "abs") fAbs := by
  refine ⟨_, call_abs, fun ρ F H μ vs ds z k rv ez Q q => ?_⟩
  unfold fAbs at ez
  split at ez
  · cases ez
    cases rv with
    | cons r1 r2 =>
      cases r1
      cases r2
      exact ⟨_, rfl, q ρ F H _ Nx.refl k (.int _)⟩
  · cases ez
def fMax2 : Mu → List D → Option D := fun _ ds => match ds with
  | [.int i, .int j] => some (.int (if j > i then j else i))
  | _ => none
def fMin2 : Mu → List D → Option D := fun _ ds => match ds with
  | [.int i, .int j] => some (.int (if j < i then j else i))
  | _ => none
theorem cd_max2 (hc : X.calm = true) : CallD X (.builtin "max") fMax2 := by
  refine ⟨_, call_max2 hc, fun ρ F H μ vs ds z k rv ez Q q => ?_⟩
  unfold fMax2 at ez
  split at ez
  · cases ez
    cases rv with
    | cons r1 r2 =>
      cases r1
      cases r2 with
      | cons r2 r3 =>
        cases r2
        cases r3
        exact ⟨_, _, rfl, q ρ F H _ Nx.refl k (.int _)⟩
  · cases ez
theorem cd_min2 (hc : X.calm = true) : CallD X (.builtin "min") fMin2 := by
  refine ⟨_, call_min2 hc, fun ρ F H μ vs ds z k rv ez Q q => ?_⟩
  unfold fMin2 at ez
  split at ez
  · cases ez
    cases rv with
    | cons r1 r2 =>
      cases r1
      cases r2 with
      | cons r2 r3 =>
        cases r2
        cases r3
        exact ⟨_, _, rfl, q ρ F H _ Nx.refl k (.int _)⟩
  · cases ez
def fInt : Mu → List D → Option D := fun _ ds => match ds with
  | [.int i] => some (.int i)
  | [.bl b] => some (.int (if b then 1 else 0))
  | [.str a] => if a.length ≤ 640 then (PySem.intText? a).map .int else none
  | _ => none
theorem cd_int : CallD X (.type "int") fInt := by
  refine ⟨_, (call_int1 (X := X)).or call_int_str, fun ρ F H μ vs ds z k rv ez Q q => ?_⟩
  unfold fInt at ez
  split at ez
  · cases ez
    cases rv with
    | cons r1 r2 =>
      cases r1
      cases r2
      exact .inl (.inl ⟨_, rfl, q ρ F H _ Nx.refl k (.int _)⟩)
  · cases ez
    cases rv with
    | cons r1 r2 =>
      cases r1
      cases r2
      exact .inl (.inr ⟨_, rfl, q ρ F H _ Nx.refl k (.int _)⟩)
  · split at ez
    · rename_i a hl
      cases hi : PySem.intText? a with
      | none => rw [hi] at ez; cases ez
      | some n =>
        rw [hi] at ez
        cases ez
        cases rv with
        | cons r1 r2 =>
          cases r1
          cases r2
          exact .inr ⟨a, n, rfl, hi, hl, q ρ F H _ Nx.refl k (.int _)⟩
    · cases ez
  · cases ez
def fBool : Mu → List D → Option D := fun _ ds => match ds with
  | [.int i] => some (.bl (i != 0))
  | [.bl b] => some (.bl b)
  | _ => none
theorem fd_noPylong {i j : Int} (h : fdOk j = true) : Builtin.divisionGoesByPylong i j = false := by
  unfold fdOk at h
  rw [Bool.and_eq_true] at h
  exact PyProof.noPylong_of_log2 (Nat.le_of_ble_eq_true h.2)
def fDivmod : Mu → List D → Option D := fun _ ds => match ds with
  | [.int i, .int j] => if 0 < j ∧ fdOk j = true then some (.tup [.int (i / j), .int (i % j)]) else none
  | _ => none
theorem cd_divmod : CallD X (.builtin "divmod") fDivmod := by
  refine ⟨_, call_divmodW, fun ρ F H μ vs ds z k rv ez Q q => ?_⟩
  unfold fDivmod at ez
  split at ez
  · split at ez
    · rename_i hl
      cases ez
      cases rv with
      | cons r1 r2 =>
        cases r1
        cases r2 with
        | cons r2 r3 =>
          cases r2
          cases r3
          refine ⟨_, _, rfl, ⟨hl.1, fd_noPylong hl.2⟩, fun p hp => ?_⟩
          obtain ⟨n2, k2, r2⟩ := new_tup (ds := [.int _, .int _]) k (.cons (.int _) (.cons (.int _) .nil)) hp
          exact q _ _ _ _ n2 k2 r2
    · cases ez
  · cases ez
/-! tuple(x), list(x) -/
def fTuple : Mu → List D → Option D := fun μ ds => match ds with
  | [x] => (seqA μ x).map .tup
  | _ => none
def fList : Mu → List D → Option D := fun μ ds => match ds with
  | [x] => (seqA μ x).map .lst
  | _ => none
/-! sum, all, any, max, min of a list -/
def intsOf : List D → Option (List Int)
  | [] => some []
  | .int i :: ds => (intsOf ds).map (i :: ·)
  | _ => none
def blsOf : List D → Option (List Bool)
  | [] => some []
  | .bl i :: ds => (blsOf ds).map (i :: ·)
  | _ => none
theorem intsOf_ok {ρ : List Addr} {F : Hp} : ∀ {ds : List D} {vs : List V} {ns : List Int}, intsOf ds = some ns → DnAll K ρ F vs ds → vs = ns.map V.int
  | [], _, _, h, r => by cases h; cases r; rfl
  | .int i :: ds, _, _, h, r => by
    cases r with
    | cons r1 r2 =>
      have h : (intsOf ds).map (i :: ·) = some _ := h
      cases e : intsOf ds with
      | none => rw [e] at h; cases h
      | some ns =>
        rw [e] at h
        cases h
        cases r1
        rw [intsOf_ok e r2]
        rfl
  | .non :: _, _, _, h, _ => by cases h
  | .bl _ :: _, _, _, h, _ => by cases h
  | .str _ :: _, _, _, h, _ => by cases h
  | .tup _ :: _, _, _, h, _ => by cases h
  | .lst _ :: _, _, _, h, _ => by cases h
  | .scr _ :: _, _, _, h, _ => by cases h
  | .ins _ _ :: _, _, _, h, _ => by cases h
  | .slt _ _ :: _, _, _, h, _ => by cases h
  | .dK _ :: _, _, _, h, _ => by cases h
  | .loc _ :: _, _, _, h, _ => by cases h
  | .glo _ :: _, _, _, h, _ => by cases h
  | .ty _ :: _, _, _, h, _ => by cases h
theorem blsOf_ok {ρ : List Addr} {F : Hp} : ∀ {ds : List D} {vs : List V} {ns : List Bool}, blsOf ds = some ns → DnAll K ρ F vs ds → vs = ns.map V.bl
  | [], _, _, h, r => by cases h; cases r; rfl
  | .bl i :: ds, _, _, h, r => by
    cases r with
    | cons r1 r2 =>
      have h : (blsOf ds).map (i :: ·) = some _ := h
      cases e : blsOf ds with
      | none => rw [e] at h; cases h
      | some ns =>
        rw [e] at h
        cases h
        cases r1
        rw [blsOf_ok e r2]
        rfl
  | .non :: _, _, _, h, _ => by cases h
  | .int _ :: _, _, _, h, _ => by cases h
  | .str _ :: _, _, _, h, _ => by cases h
  | .tup _ :: _, _, _, h, _ => by cases h
  | .lst _ :: _, _, _, h, _ => by cases h
  | .scr _ :: _, _, _, h, _ => by cases h
  | .ins _ _ :: _, _, _, h, _ => by cases h
  | .slt _ _ :: _, _, _, h, _ => by cases h
  | .dK _ :: _, _, _, h, _ => by cases h
  | .loc _ :: _, _, _, h, _ => by cases h
  | .glo _ :: _, _, _, h, _ => by cases h
  | .ty _ :: _, _, _, h, _ => by cases h
def fInts (g : List Int → Option D) : Mu → List D → Option D := fun μ ds => match ds with
  | [x] => match seqL μ x with
    | some xs => match intsOf xs with
      | some ns => g ns
      | none => none
    | none => none
  | _ => none
theorem fInts_some {ρ : List Addr} {F H : Hp} {μ : Mu} {g : List Int → Option D} {vs : List V} {ds : List D} {z : D} (k : HpOk K ρ μ F H) (rv : DnAll K ρ F vs ds) (h : fInts g μ ds = some z) : ∃ a ns, vs = [.ref a] ∧ SqL K H a (ns.map V.int) ∧ g ns = some z := by
  unfold fInts at h
  split at h
  · split at h
    · split at h
      · rename_i xs hs _ ns hn
        cases rv with
        | cons r1 r2 =>
          cases r2
          obtain ⟨a, vs, rfl, e2, e3⟩ := seqL_ok k r1 hs
          rw [intsOf_ok hn e3] at e2
          exact ⟨a, ns, rfl, .inl e2, h⟩
      · cases h
    · cases h
  · cases h
def fSum : Mu → List D → Option D := fInts fun ns => some (.int ns.sum)
def fMaxL : Mu → List D → Option D := fInts fun ns => ns.max?.map .int
def fMinL : Mu → List D → Option D := fInts fun ns => ns.min?.map .int
theorem cd_maxL (hc : X.calm = true) : CallD X (.builtin "max") fMaxL := by
  refine ⟨_, cr_max hc, fun ρ F H μ vs ds z k rv ez Q q => ?_⟩
  obtain ⟨a, ns, rfl, h, e⟩ := fInts_some k rv ez
  cases em : ns.max? with
  | none => rw [em] at e; cases e
  | some m =>
    rw [em] at e
    cases e
    obtain ⟨h1, h2⟩ := List.max?_eq_some_iff.mp em
    refine ⟨a, ns, rfl, h, List.length_pos_of_mem h1, fun m' h1' h2' => ?_⟩
    have : m' = m := Int.le_antisymm (h2 m' h1') (h2' m h1)
    subst this
    exact q ρ F H _ Nx.refl k (.int _)
theorem cd_minL (hc : X.calm = true) : CallD X (.builtin "min") fMinL := by
  refine ⟨_, cr_min hc, fun ρ F H μ vs ds z k rv ez Q q => ?_⟩
  obtain ⟨a, ns, rfl, h, e⟩ := fInts_some k rv ez
  cases em : ns.min? with
  | none => rw [em] at e; cases e
  | some m =>
    rw [em] at e
    cases e
    obtain ⟨h1, h2⟩ := List.min?_eq_some_iff.mp em
    refine ⟨a, ns, rfl, h, List.length_pos_of_mem h1, fun m' h1' h2' => ?_⟩
    have : m' = m := Int.le_antisymm (h2' m h1) (h2 m' h1')
    subst this
    exact q ρ F H _ Nx.refl k (.int _)
def fMax : Mu → List D → Option D := orC fMax2 fMaxL
def fMin : Mu → List D → Option D := orC fMin2 fMinL
theorem cd_max (hc : X.calm = true) : CallD X (.builtin "max") fMax := (cd_max2 hc).or (cd_maxL hc)
theorem cd_min (hc : X.calm = true) : CallD X (.builtin "min") fMin := (cd_min2 hc).or (cd_minL hc)
def fBls (g : List Bool → D) : Mu → List D → Option D := fun μ ds => match ds with
  | [x] => match seqL μ x with
    | some xs => (blsOf xs).map g
    | none => none
  | _ => none
theorem fBls_some {ρ : List Addr} {F H : Hp} {μ : Mu} {g : List Bool → D} {vs : List V} {ds : List D} {z : D} (k : HpOk K ρ μ F H) (rv : DnAll K ρ F vs ds) (h : fBls g μ ds = some z) : ∃ a ns, vs = [.ref a] ∧ SqL K H a (ns.map V.bl) ∧ g ns = z := by
  unfold fBls at h
  split at h
  · split at h
    · rename_i xs hs
      cases hn : blsOf xs with
      | none => rw [hn] at h; cases h
      | some ns =>
        rw [hn] at h
        cases h
        cases rv with
        | cons r1 r2 =>
          cases r2
          obtain ⟨a, vs, rfl, e2, e3⟩ := seqL_ok k r1 hs
          rw [blsOf_ok hn e3] at e2
          exact ⟨a, ns, rfl, .inl e2, rfl⟩
    · cases h
  · cases h
def fAll : Mu → List D → Option D := fBls fun bs => .bl (bs.all id)
theorem cd_all (hc : X.calm = true) : CallD X (.builtin "all") fAll := by
  refine ⟨_, cr_all hc, fun ρ F H μ vs ds z k rv ez Q q => ?_⟩
  obtain ⟨a, ns, rfl, h, e⟩ := fBls_some k rv ez
  cases e
  exact ⟨a, ns, rfl, h, q ρ F H _ Nx.refl k (.bl _)⟩
/-! isinstance with a built-in class -/
def tyN (μ : Mu) : D → Option String
  | .non => some "NoneType"
  | .bl _ => some "bool"
  | .int _ => some "int"
  | .str _ => some "str"
  | .tup _ => some "tuple"
  | .lst _ => some "list"
  | .scr _ => some "list"
  | .loc n => match μ[n]? with
    | some (.lst _) => some "list"
    | some (.frz _) => some "list"
    | some (.dK _) => some "dict"
    | some (.dT _) => some "dict"
    | _ => none
  | .dK _ => some "dict"
  | _ => none
def tyOk : List String := ["NoneType", "bool", "int", "str", "tuple", "list", "dict"]
def isaB (t T : String) : Bool := t == T || (t == "bool" && T == "int")
theorem tyN_ok {ρ : List Addr} {F H : Hp} {μ : Mu} {v : V} {d : D} {t : String} (k : HpOk K ρ μ F H) (r : Dn K ρ F v d) (h : tyN μ d = some t) : TyX K H v (.type t) := by
  cases r with
  | non => cases h; exact .base .non
  | bl x => cases h; exact .base (.bl x)
  | int i => cases h; exact .base (.int i)
  | str y => cases h; exact .base (.str y)
  | tup hs ha =>
    cases h
    rcases k.ex.sqT hs with (e | ⟨o, e⟩) | ⟨o, its, n, e, c, _⟩
    · exact .base (.tup e)
    · exact .fTuple e
    · exact .kTuple e c
  | lst hs ha =>
    cases h
    exact .base (.lst (k.ex _ _ hs))
  | @loc a n e =>
    have h : (match μ[n]? with
      | some (.lst _) => some "list"
      | some (.frz _) => some "list"
      | some (.dK _) => some "dict"
      | some (.dT _) => some "dict"
      | _ => none) = some t := h
    split at h
    · rename_i ds em
      cases h
      obtain ⟨_, vs, e1, e2⟩ := k.mu n a _ e em
      exact .base (.lst e1)
    · rename_i ds em
      cases h
      obtain ⟨vs, e1, e2⟩ := k.mu n a _ e em
      exact .base (.lst (k.ex _ _ e1))
    · rename_i ds em
      cases h
      obtain ⟨_, vs, e1, e2⟩ := k.mu n a _ e em
      exact .base (.dK e1)
    · rename_i ds em
      cases h
      obtain ⟨_, vs, e1, e2⟩ := k.mu n a _ e em
      exact .base (.dT e1)
    · cases h
  | scr hs ha =>
    cases h
    rcases k.ex.sqL hs with (e | ⟨o, e⟩) | ⟨o, its, n, e, c, _⟩
    · exact .base (.lst e)
    · exact .base (.frz e)
    · exact .kList e c
  | ins _ _ => cases h
  | slt _ _ _ => cases h
  | dK e t => cases h; exact .base (.dK (k.ex _ _ e))
  | glo x => cases h
  | ty n => cases h
  | adr => cases h
  | clo => cases h
  | exn => cases h
theorem isaB_ok : (tyOk.all fun t => ["bool", "int", "str", "tuple", "list", "dict"].all fun T => decide (kitB t T = some (isaB t T))) = true := by decide +kernel
def fIsa : Mu → List D → Option D := fun μ ds => match ds with
  | [x, .ty T] => match tyN μ x with
    | some t => if ["bool", "int", "str", "tuple", "list", "dict"].contains T = true then some (.bl (isaB t T)) else none
    | none => none
  | _ => none
theorem tyN_mem {μ : Mu} {d : D} {t : String} (h : tyN μ d = some t) : t ∈ tyOk := by
  unfold tyN at h
  split at h
  · cases h; decide
  · cases h; decide
  · cases h; decide
  · cases h; decide
  · cases h; decide
  · cases h; decide
  · cases h; decide
  · split at h
    · cases h; decide
    · cases h; decide
    · cases h; decide
    · cases h; decide
    · cases h
  · cases h; decide
  · cases h
theorem cd_isa : CallD X (.builtin "isinstance") fIsa := by
  refine ⟨_, call_isi, fun ρ F H μ vs ds z k rv ez Q q => ?_⟩
  unfold fIsa at ez
  split at ez
  · split at ez
    · split at ez
      · rename_i x T _ t ht hT
        cases ez
        cases rv with
        | cons r1 r2 =>
          cases r2 with
          | cons r2 r3 =>
            cases r2
            cases r3
            have h1 := List.all_eq_true.mp isaB_ok t (tyN_mem ht)
            have h2 := List.all_eq_true.mp h1 T (List.contains_iff_mem.mp hT)
            exact ⟨_, _, _, _, _, rfl, .ty T, tyN_ok k r1 ht, kit_ty (of_decide_eq_true h2), q ρ F H _ Nx.refl k (.bl _)⟩
      · cases ez
    · cases ez
  · cases ez
end
end Ar

set_option Elab.async false
set_option linter.all false
set_option maxRecDepth 100000
set_option maxHeartbeats 2000000
/-! Ar5: statements, targets, loops -/
namespace Ar
open PySem PySem.Spec PyProof.Rows L2

/-! ### statements -/
def dsNext : DS := fun Γ μ => .nx Γ μ
def dSeq (s t : DS) : DS := fun Γ μ => (s Γ μ).thenN t
def dDrop (e : DE) : DS := fun Γ μ => (e Γ μ).thenS fun _ μ1 => .nx Γ μ1
def dRet (e : DE) : DS := fun Γ μ => (e Γ μ).thenS fun d μ1 => .rt d μ1
def dRetN : DS := fun _ μ => .rt .non μ
def dBreak : DS := fun Γ μ => .bk Γ μ
def dCont : DS := fun Γ μ => .ct Γ μ
def dIfS (c : DT) (s t : DS) : DS := fun Γ μ => (c Γ μ).thenS fun b μ1 => match b with
  | true => s Γ μ1
  | false => t Γ μ1
def dNever : DS := fun _ _ => .stk
def dAsg (e : DE) (g : DG) : DS := fun Γ μ => (e Γ μ).thenS fun d μ1 => (g d Γ μ1).thenS fun Γ' μ2 => .nx Γ' μ2
def dSet (i : Nat) (e : DE) : DS := fun Γ μ => (e Γ μ).thenS fun d μ1 => .nx (Γ.set i (some d)) μ1
section
variable {X : Cx} {E : XK} {K : PySem.W.Frag} {e : Expr} {st : Stmt} {rest : List Stmt} {de : DE} {ds dt : DS} {pos : Pos}
theorem sim_next : SimS K E tNext dsNext := by
  intro ρ F H Γ μ σ k s D h
  exact h ρ F H σ Nx.refl k s
theorem sim_seq {t u : TS} (h1 : SimS K E t ds) (h2 : SimS K E u dt) : SimS K E (tSeq t u) (dSeq ds dt) := by
  intro ρ F H Γ μ σ k s D h
  refine h1 ρ F H Γ μ σ k s { D with nx := u D } ?_
  refine (WpS.thenN h).mono (fun Γ1 μ1 q => ?_) (fun _ _ q => q) (fun _ _ q => q) (fun _ _ q => q) (fun _ _ q => q)
  intro ρ1 F1 H1 σ1 n1 k1 s1
  exact h2 ρ1 F1 H1 Γ1 μ1 σ1 k1 s1 D (QS.nx_ n1 q)
theorem qs_nil : QSs X E [] dsNext := ⟨_, pss_nil, sim_next⟩
theorem qs_cons (h1 : QSt X E st ds) (h2 : QSs X E rest dt) : QSs X E (st :: rest) (dSeq ds dt) := by
  obtain ⟨t, a1, a2⟩ := h1.ex
  obtain ⟨u, b1, b2⟩ := h2.ex
  exact ⟨_, pss_cons a1 b1, sim_seq a2 b2⟩
theorem qs_one (h1 : QSt X E st ds) : QSs X E [st] ds := by
  obtain ⟨t, a1, a2⟩ := h1.ex
  exact ⟨_, pss_one a1, a2⟩
theorem q_never : QSt X E st dNever := ⟨_, ps_never, fun ρ F H Γ μ σ k s D h => h.elim⟩
theorem q_expr (he : QE X E e de) (hs : swapsWith e none pos.line X.env = pure false := by rfl) : QSt X E (.Expr e pos) (dDrop de) := by
  obtain ⟨t, a1, a2⟩ := he.ex
  refine ⟨_, ps_expr a1 hs, ?_⟩
  intro ρ F H Γ μ σ k s D h
  refine a2 ρ F H Γ μ σ k s _ ((WpS.thenS h).mono (fun d μ1 q => ?_) fun _ _ q => q)
  exact fun ρ1 F1 H1 v n1 k1 _ => q ρ1 F1 H1 σ n1 k1 (s.nx n1)
theorem q_ret (he : QE X E e de) : QSt X E (.Return (some e) pos) (dRet de) := by
  obtain ⟨t, a1, a2⟩ := he.ex
  refine ⟨_, ps_ret a1, ?_⟩
  intro ρ F H Γ μ σ k s D h
  exact a2 ρ F H Γ μ σ k s _ ((WpS.thenS h).mono (fun d μ1 q => q) fun _ _ q => q)
theorem q_ifS {c : Expr} {a b : List Stmt} {dc : DT} (hc : QT X E c dc) (ha : QSs X E a ds) (hb : QSs X E b dt) : QSt X E (.If c a b pos) (dIfS dc ds dt) := by
  obtain ⟨tc, c1, c2⟩ := hc.ex
  obtain ⟨ta, a1, a2⟩ := ha.ex
  obtain ⟨tb, b1, b2⟩ := hb.ex
  refine ⟨_, ps_if c1 a1 b1, ?_⟩
  intro ρ F H Γ μ σ k s D h
  refine c2 ρ F H Γ μ σ k s _ ((WpS.thenS h).mono (fun d μ1 q => ?_) fun _ _ q => q)
  intro ρ1 F1 H1 n1 k1
  cases d with
  | true =>
    show ta D σ H1
    exact a2 ρ1 F1 H1 Γ μ1 σ k1 (s.nx n1) D (QS.nx_ n1 q)
  | false =>
    show tb D σ H1
    exact b2 ρ1 F1 H1 Γ μ1 σ k1 (s.nx n1) D (QS.nx_ n1 q)
theorem sim_asg {te : TE} {g : TG} {dg : DG} (he : SimE K E te de) (hg : SimG K E g dg) : SimS K E (tAsg te g) (dAsg de dg) := by
  intro ρ F H Γ μ σ k s D h
  refine he ρ F H Γ μ σ k s _ ((WpS.thenS h).mono (fun d μ1 q => ?_) fun _ _ q => q)
  intro ρ1 F1 H1 v n1 k1 r1
  refine hg ρ1 F1 H1 Γ μ1 σ v d k1 (s.nx n1) r1 _ ((WpS.thenS q).mono (fun Γ2 μ2 q => ?_) fun _ _ q => XP.nx n1 q)
  exact fun ρ2 F2 H2 σ2 n2 k2 s2 => q ρ2 F2 H2 σ2 (n1.trans n2) k2 s2
theorem sim_set {te : TE} {i : Nat} (he : SimE K E te de) : SimS K E (tAsg te (gName i)) (dSet i de) := by
  intro ρ F H Γ μ σ k s D h
  refine he ρ F H Γ μ σ k s _ ((WpS.thenS h).mono (fun d μ1 q => ?_) fun _ _ q => q)
  exact fun ρ1 F1 H1 v n1 k1 r1 => q ρ1 F1 H1 _ n1 k1 ((s.nx n1).set r1 i)
/-- name = value -/
theorem q_set (i : Nat) {x : Str} {pos' : Pos} (hN : X.N.Nodup) (he : QE X E e de) (hi : X.N[i]? = some x := by rfl) (hx : Loc X.env.scope x := by first | exact Or.inl rfl | exact Or.inr rfl) (hs : swapsWith e (some (.Name x pos')) pos.line X.env = pure false := by rfl) (hf : X.fn x = true ∨ X.env.scope.names.lookup x = some .local := by first | exact .inl rfl | exact .inr rfl) :
    QSt X E (.Assign [.Name x pos'] e pos) (dSet i de) := by
  obtain ⟨t, a1, a2⟩ := he.ex
  exact ⟨_, ps_set hN hi hx a1 hs hf, sim_set a2⟩
/-! targets -/
def dgName (i : Nat) : DG := fun d Γ μ => .ok (Γ.set i (some d)) μ
abbrev DGs := List D → Gam → Mu → R Gam
def dgNil : DGs := fun ds Γ μ => match ds with
  | [] => .ok Γ μ
  | _ => .stk
def dgCons (g : DG) (gs : DGs) : DGs := fun ds Γ μ => match ds with
  | d :: r => (g d Γ μ).bind fun Γ1 μ1 => gs r Γ1 μ1
  | [] => .stk
def dgTup (n : Nat) (gs : DGs) : DG := fun d Γ μ => match d with
  | .tup ds => if ds.length = n then gs ds Γ μ else .stk
  | _ => .stk
/-- o[i] = .., of a list's place -/
def dgSub (o i : DE) : DG := fun d Γ μ => (o Γ μ).bind fun x μ1 => (i Γ μ1).bind fun y μ2 => match x, y with
  | .loc n, .int j => match μ2[n]? with
    | some (.lst ds) => match ixN ds.length j with
      | some m => .ok Γ (μ2.set n (.lst (ds.set m d)))
      | none => .stk
    | _ => .stk
  | _, _ => .stk
def SimGs (K : PySem.W.Frag) (E : XK) (g : TGs) (dg : DGs) : Prop := ∀ (ρ : List Addr) (F H : Hp) (Γ : Gam) (μ : Mu) (σ : L2.St) (v : List V) (d : List D), HpOk K ρ μ F H → Slots K ρ F Γ σ → DnAll K ρ F v d → ∀ Q : L2.St → Hp → Prop,
  WpR (dg d Γ μ) (fun Γ' μ' => ∀ ρ' F' H' σ', Nx ρ F H ρ' F' H' → HpOk K ρ' μ' F' H' → Slots K ρ' F' Γ' σ' → Q σ' H') (XP K E ρ F H) → g v σ H Q
structure QGs (X : Cx) (E : XK) (es : List Expr) (dg : DGs) : Prop where
  ex : ∃ g, PGs X es g ∧ SimGs X.K E g dg
theorem sim_gname {i : Nat} : SimG K E (gName i) (dgName i) := by
  intro ρ F H Γ μ σ v d k s r Q h
  exact h ρ F H _ Nx.refl k (s.set r i)
theorem qg_name (i : Nat) {x : Str} (hN : X.N.Nodup) (hi : X.N[i]? = some x := by rfl) (hx : Loc X.env.scope x := by first | exact Or.inl rfl | exact Or.inr rfl) (hf : X.fn x = true ∨ X.env.scope.names.lookup x = some .local := by first | exact .inl rfl | exact .inr rfl) :
    QG X E (.Name x pos) (dgName i) := ⟨_, pg_name hN hi hx hf, sim_gname⟩
theorem qgs_nil : QGs X E [] dgNil := by
  refine ⟨_, pgs_nil, ?_⟩
  intro ρ F H Γ μ σ v d k s r Q h
  cases r with
  | nil => exact ⟨rfl, h ρ F H _ Nx.refl k s⟩
  | cons _ _ => exact False.elim h
theorem qgs_cons {es : List Expr} {dg : DG} {dgs : DGs} (h1 : QG X E e dg) (h2 : QGs X E es dgs) (hs : (assignEach (e :: es) X.env).map (·.2) = assign e X.env :: (assignEach es X.env).map (·.2) := by rfl) : QGs X E (e :: es) (dgCons dg dgs) := by
  obtain ⟨g, a1, a2⟩ := h1.ex
  obtain ⟨gs, b1, b2⟩ := h2.ex
  refine ⟨_, pgs_cons a1 b1 hs, ?_⟩
  intro ρ F H Γ μ σ v d k s r Q h
  cases r with
  | nil => exact False.elim h
  | cons r1 r2 =>
    refine ⟨_, _, rfl, a2 ρ F H Γ μ σ _ _ k s r1 _ ((WpR.bind h).mono (fun Γ1 μ1 q => ?_) fun _ _ q => q)⟩
    intro ρ1 F1 H1 σ1 n1 k1 s1
    refine b2 ρ1 F1 H1 Γ1 μ1 σ1 _ _ k1 s1 (r2.nx n1) Q (WpR.mono q (fun Γ2 μ2 q => ?_) fun _ _ q => XP.nx n1 q)
    exact fun ρ2 F2 H2 σ2 n2 k2 s2 => q ρ2 F2 H2 σ2 (n1.trans n2) k2 s2
theorem qg_tup {es : List Expr} {k : Nat} {dgs : DGs} {n : Nat} (hc : X.calm = true) (h : QGs X E es dgs) (hn : (assignEach es X.env).length = n := by rfl) (hst : (assignEach es X.env).findIdx? (·.1) = none := by rfl) : QG X E (.Tuple es k pos) (dgTup n dgs) := by
  obtain ⟨g, a1, a2⟩ := h.ex
  refine ⟨_, pg_tup hc a1 hn hst, ?_⟩
  intro ρ F H Γ μ σ v d k s r Q h
  cases r with
  | tup h1 h2 =>
    have h : WpR (if _ = n then dgs _ Γ μ else .stk) _ _ := h
    split at h
    · rename_i hl
      exact ⟨_, _, rfl, k.ex.sqT h1, by rw [h2.length]; exact hl, a2 ρ F H Γ μ σ _ _ k s h2 Q h⟩
    · exact False.elim h
  | _ => exact False.elim h
theorem set_place {ρ : List Addr} {F H : Hp} {μ : Mu} {n m : Nat} {a : Addr} {ds : List D} {d : D} {v : V} (k : HpOk K ρ μ F H) (e : ρ[n]? = some a) (em : μ[n]? = some (.lst ds)) (r : Dn K ρ F v d) :
    ∃ vs, H a = some (.lst vs) ∧ vs.length = ds.length ∧ HpOk K ρ (μ.set n (.lst (ds.set m d))) F (upd H a (.lst (vs.set m v))) ∧ Nx ρ F H ρ F (upd H a (.lst (vs.set m v))) := by
  obtain ⟨hf, vs, e1, e2⟩ := k.mu n a _ e em
  exact ⟨vs, e1, e2.length, k.write e hf ⟨hf, _, upd_same, e2.set r m⟩, Nx.write_ e hf (by rw [e1]; exact Option.some_ne_none _)⟩
theorem sim_gsub {to ti : TE} {do_ di : DE} (ho : SimE K E to do_) (hi : SimE K E ti di) : SimG K E (gSub to ti rSetL) (dgSub do_ di) := by
  intro ρ F H Γ μ σ v d k s r Q h
  refine ho ρ F H Γ μ σ k s _ ((WpR.bind h).mono (fun x μ1 q => ?_) fun _ _ q => q)
  intro ρ1 F1 H1 w n1 k1 r1
  refine hi ρ1 F1 H1 Γ μ1 σ k1 (s.nx n1) _ ((WpR.bind q).mono (fun y μ2 q => ?_) fun _ _ q => XP.nx n1 q)
  intro ρ2 F2 H2 u n2 k2 r2
  have r1 := r1.nx n2
  cases r1 with
  | @loc a n e =>
    cases r2 with
    | int j =>
      have q : WpR (match μ2[n]? with
        | some (.lst ds) => match ixN ds.length j with
          | some m => .ok Γ (μ2.set n (.lst (ds.set m d)))
          | none => .stk
        | _ => .stk) _ _ := q
      split at q
      · rename_i ds em
        split at q
        · rename_i m hm
          obtain ⟨vs, e1, el, k3, n3⟩ := set_place (m := m) k2 e em ((r.nx n1).nx n2)
          refine ⟨a, vs, j, m, rfl, rfl, e1, by rw [el]; exact hm, ?_⟩
          exact q _ _ _ _ ((n1.trans n2).trans n3) k3 (((s.nx n1).nx n2).nx n3)
        · exact False.elim q
      · exact False.elim q
    | _ => exact False.elim q
  | _ => exact False.elim q
theorem qg_sub {o i : Expr} {do_ di : DE} (ho : QE X E o do_) (hi : QE X E i di) (ha : ∀ v, assign (.Subscript o i pos) X.env v = (do
      let ov ← holding [v] (eval o X.env)
      let iv ← holding [v, ov] (eval i X.env)
      standAt pos
      holding [v, ov, iv] (setItem ov iv v)
      release [v, ov, iv] []) := by intro _; rfl) : QG X E (.Subscript o i pos) (dgSub do_ di) := by
  obtain ⟨to, a1, a2⟩ := ho.ex
  obtain ⟨ti, b1, b2⟩ := hi.ex
  exact ⟨_, pg_sub a1 b1 set_list ha, sim_gsub a2 b2⟩
theorem q_asg {tg : Expr} {dg : DG} (he : QE X E e de) (hg : QG X E tg dg) (hs : swapsWithSole [tg] e pos.line X.env = pure false := by rfl) (hw : swappedStores [tg] e X.env = pure none := by rfl)
    (h1 : (assignEach [tg] X.env).map (·.2) = [assign tg X.env] := by rfl) : QSt X E (.Assign [tg] e pos) (dAsg de dg) := by
  obtain ⟨t, a1, a2⟩ := he.ex
  obtain ⟨g, b1, b2⟩ := hg.ex
  exact ⟨_, ps_asg a1 b1 hs hw h1, sim_asg a2 b2⟩
/-- a, b = x, y -/
def dPar (i j : Nat) (a : DA) : DS := fun Γ μ => (a Γ μ).thenS fun ds μ1 => match ds with
  | [x, y] => .nx ((Γ.set i (some x)).set j (some y)) μ1
  | _ => .stk
def dPar3 (i j l : Nat) (a : DA) : DS := fun Γ μ => (a Γ μ).thenS fun ds μ1 => match ds with
  | [x, y, z] => .nx (((Γ.set i (some x)).set j (some y)).set l (some z)) μ1
  | _ => .stk
theorem q_par (i j : Nat) {x y : Str} {a b : Expr} {da : DA} {px py pt : Pos} {kt k2 pt2} (hc : X.calm = true) (hN : X.N.Nodup) (ha : QA X E [a, b] da) (hi : X.N[i]? = some x := by rfl) (hj : X.N[j]? = some y := by rfl) (hij : i ≠ j := by decide)
    (hx : X.env.scope.names.lookup x = some .local := by rfl) (hy : X.env.scope.names.lookup y = some .local := by rfl)
    (hw : swappedStores [.Tuple [.Name x px, .Name y py] kt pt] (.Tuple [a, b] k2 pt2) X.env = pure (some [x, y]) := by rfl)
    (hs : swapsWithSole [.Tuple [.Name x px, .Name y py] kt pt] (.Tuple [a, b] k2 pt2) pos.line X.env = pure false := by rfl) :
    QSt X E (.Assign [.Tuple [.Name x px, .Name y py] kt pt] (.Tuple [a, b] k2 pt2) pos) (dPar i j da) := by
  obtain ⟨ta, a1, a2⟩ := ha.ex
  refine ⟨_, ps_par hc hN hi hj hij hx hy a1 hw hs, ?_⟩
  intro ρ F H Γ μ σ k s D h
  refine a2 ρ F H Γ μ σ k s _ ((WpS.thenS h).mono (fun d μ1 q => ?_) fun _ _ q => q)
  intro ρ1 F1 H1 vs n1 k1 r1
  split at q
  · cases r1 with
    | cons r1 r2 =>
      cases r2 with
      | cons r2 r3 =>
        cases r3
        exact ⟨_, _, rfl, q ρ1 F1 H1 _ n1 k1 (((s.nx n1).set r1 i).set r2 j)⟩
  · exact False.elim q
theorem q_par3 (i j l : Nat) {x y z : Str} {a b c : Expr} {da : DA} {px py pz pt : Pos} {kt k2 pt2} (hc : X.calm = true) (hN : X.N.Nodup) (ha : QA X E [a, b, c] da) (hi : X.N[i]? = some x := by rfl) (hj : X.N[j]? = some y := by rfl) (hl : X.N[l]? = some z := by rfl) (hij : i ≠ j := by decide) (hil : i ≠ l := by decide) (hjl : j ≠ l := by decide)
    (hx : X.env.scope.names.lookup x = some .local := by rfl) (hy : X.env.scope.names.lookup y = some .local := by rfl) (hz : X.env.scope.names.lookup z = some .local := by rfl)
    (hw : swappedStores [.Tuple [.Name x px, .Name y py, .Name z pz] kt pt] (.Tuple [a, b, c] k2 pt2) X.env = pure (some [x, y, z]) := by rfl)
    (hs : swapsWithSole [.Tuple [.Name x px, .Name y py, .Name z pz] kt pt] (.Tuple [a, b, c] k2 pt2) pos.line X.env = pure false := by rfl) :
    QSt X E (.Assign [.Tuple [.Name x px, .Name y py, .Name z pz] kt pt] (.Tuple [a, b, c] k2 pt2) pos) (dPar3 i j l da) := by
  obtain ⟨ta, a1, a2⟩ := ha.ex
  refine ⟨_, ps_par3 hc hN hi hj hl hij hil hjl hx hy hz a1 hw hs, ?_⟩
  intro ρ F H Γ μ σ k s D h
  refine a2 ρ F H Γ μ σ k s _ ((WpS.thenS h).mono (fun d μ1 q => ?_) fun _ _ q => q)
  intro ρ1 F1 H1 vs n1 k1 r1
  split at q
  · cases r1 with
    | cons r1 r2 =>
      cases r2 with
      | cons r2 r3 =>
        cases r3 with
        | cons r3 r4 =>
          cases r4
          exact ⟨_, _, _, rfl, q ρ1 F1 H1 _ n1 k1 ((((s.nx n1).set r1 i).set r2 j).set r3 l)⟩
  · exact False.elim q
/-- x op= e -/
structure IpD (X : Cx) (op : Operator) (f : Mu → D → D → Option D) : Prop where
  ex : ∃ r, PIp X op r ∧ OpS X.K r f
def dAug (i : Nat) (f : Mu → D → D → Option D) (a : DE) : DS := fun Γ μ => match Γ[i]? with
  | some (some x) => (a Γ μ).thenS fun y μ1 => (R.of μ1 (f μ1 x y)).thenS fun z μ2 => .nx (Γ.set i (some z)) μ2
  | _ => .stk
theorem ipd_add : IpD X .Add fAddI := by
  refine ⟨_, ip_add, fun ρ F H μ v w d e z k rv rw' ez Q q => ?_⟩
  obtain ⟨i, j, rfl, rfl, e2⟩ := fII_some ez
  cases e2
  cases rv
  cases rw'
  exact ⟨i, j, rfl, rfl, q ρ F H _ Nx.refl k (.int _)⟩
/-! o[i] op= e, of a list's place -/
def dAugS (o i : DE) (f : Mu → D → D → Option D) (a : DE) : DS := fun Γ μ => (o Γ μ).thenS fun x μ1 => (i Γ μ1).thenS fun y μ2 => match x, y with
  | .loc n, .int j => match μ2[n]? with
    | some (.lst ds) => match L2.atI ds j with
      | some old => (a Γ μ2).thenS fun u μ4 => (R.of μ4 (f μ4 old u)).thenS fun z μ5 => match μ5[n]? with
        | some (.lst es) => match ixN es.length j with
          | some m => .nx Γ (μ5.set n (.lst (es.set m z)))
          | none => .stk
        | _ => .stk
      | none => .stk
    | _ => .stk
  | _, _ => .stk
theorem pget_list : PGet X (rIxL X.K) := by
  intro pins s σ H o i ov iv Q I ro ri h
  obtain ⟨p, xs, j, z, rfl, rfl, hq, he, q⟩ := h
  cases ro
  obtain ⟨t, rfl⟩ := ri
  obtain ⟨its, r, pl, hz⟩ := I.list hq
  obtain ⟨m, h1, h2, h3, h4, h5⟩ := atI_get he
  obtain ⟨w, ew, rw'⟩ := r.get h2
  have hl := r.length
  have hn := line63
  have fin : EP X pins σ Q w s := ⟨z, H, I, rw', q⟩
  by_cases h0 : 0 ≤ j
  · have hj : j.toNat = m := by
      rw [seqIndex_of h0 h5] at h1
      exact Option.some.inj h1
    exact PySem.wpAny_getItem_list pl.isList h0 (by omega) (by rw [hj]; simpa using ew) fin
  · have hj : (j + (its.toArray.size : Int)).toNat = m := by
      rw [seqIndex_neg (by omega) h4] at h1
      rw [List.size_toArray, ← hl]
      exact Option.some.inj h1
    exact PySem.wpAny_getItem_list_neg pl.isList (by omega) (by rw [List.size_toArray]; omega) (by omega) (by rw [hj]; simpa using ew) fin
theorem q_augS {o i : Expr} {op : Operator} {f : Mu → D → D → Option D} {tpos : Pos} {do_ di : DE} (hp : IpD X op f) (ho : QE X E o do_) (hi : QE X E i di) (he : QE X E e de)
    (ha : ∀ ov iv new, augStore i ov iv new = (do holding [new, ov, iv] (setItem ov iv new); release [new, ov, iv] []; pure .next) := by intros; rfl) : QSt X E (.AugAssign (.Subscript o i tpos) op e pos) (dAugS do_ di f de) := by
  obtain ⟨to, o1, o2⟩ := ho.ex
  obtain ⟨ti, i1, i2⟩ := hi.ex
  obtain ⟨te, e1, e2⟩ := he.ex
  obtain ⟨r, p1, p2⟩ := hp.ex
  refine ⟨_, ps_augS o1 i1 pget_list e1 p1 set_list ha, ?_⟩
  intro ρ F H Γ μ σ k s D h
  refine o2 ρ F H Γ μ σ k s _ ((WpS.thenS h).mono (fun x μ1 q => ?_) fun _ _ q => q)
  intro ρ1 F1 H1 v n1 k1 r1
  refine i2 ρ1 F1 H1 Γ μ1 σ k1 (s.nx n1) _ ((WpS.thenS q).mono (fun y μ2 q => ?_) fun _ _ q => XP.nx n1 q)
  intro ρ2 F2 H2 w n2 k2 r2
  have n12 := n1.trans n2
  have r1 := r1.nx n2
  cases r1 with
  | @loc a n ea =>
    cases r2 with
    | int j =>
      have q : WpS (match μ2[n]? with
        | some (.lst ds) => match L2.atI ds j with
          | some old => (de Γ μ2).thenS fun u μ4 => (R.of μ4 (f μ4 old u)).thenS fun z μ5 => match μ5[n]? with
            | some (.lst es) => match ixN es.length j with
              | some m => .nx Γ (μ5.set n (.lst (es.set m z)))
              | none => .stk
            | _ => .stk
          | none => .stk
        | _ => .stk) _ := q
      split at q
      · rename_i ds em
        split at q
        · rename_i old eo
          obtain ⟨_, vs, ev, rv⟩ := k2.mu n a _ ea em
          obtain ⟨z, hz, rz⟩ := rv.atI eo
          refine ⟨a, vs, j, z, rfl, rfl, SqL.of ev, hz, e2 ρ2 F2 H2 Γ μ2 σ k2 (s.nx n12) _ ((WpS.thenS q).mono (fun u μ4 q => ?_) fun _ _ q => XP.nx n12 q)⟩
          intro ρ4 F4 H4 uv n4 k4 r4
          obtain ⟨zn, ez, q⟩ := (WpS.thenS q).of
          refine p2 ρ4 F4 H4 μ4 z uv old u zn k4 (rz.nx n4) r4 ez _ fun ρ5 F5 H5 zv n5 k5 r5 => ?_
          have n15 := (n12.trans n4).trans n5
          have ea5 := (n4.trans n5).pre _ _ ea
          split at q
          · rename_i es em5
            split at q
            · rename_i m hm
              obtain ⟨vs5, e5, el5, k6, n6⟩ := set_place (m := m) k5 ea5 em5 r5
              refine ⟨a, vs5, j, m, rfl, rfl, e5, by rw [el5]; exact hm, ?_⟩
              exact q _ _ _ _ (n15.trans n6) k6 ((s.nx n15).nx n6)
            · exact False.elim q
          · exact False.elim q
        · exact False.elim q
      · exact False.elim q
    | _ => exact False.elim q
  | _ => exact False.elim q
end
end Ar

set_option Elab.async false
set_option linter.all false
set_option maxRecDepth 100000
set_option maxHeartbeats 2000000
/-! ArG: what a def promises where no guard stands above (so that the text of a list is told exactly) -/
namespace Ar
open PySem PySem.Spec PyProof.Rows L2

structure RoomG (k : Nat) (A : Around) : Prop where
  r : Room k A
  g : A.guards = some []
theorem RoomG.mono {j k : Nat} {A : Around} (h : RoomG k A) (l : j ≤ k) : RoomG j A := ⟨h.r.mono l, h.g⟩
theorem RoomG.units {k : Nat} {A : Around} (h : RoomG k A) : A.units + 64 < cLine := h.r.units
theorem RoomG.down {k : Nat} {A : Around} (h : RoomG (k + 1) A) (en : Env) : RoomG k (A.deeper en) := ⟨h.r.deeper en, h.g⟩
structure Pm (P : Program) (w : World) (K : PySem.W.Frag) (mg : Str → Option Value) (base : Heap) (Z : CXT) (k : Nat) (f : Addr) (fd : FuncData) (ps : List Str) (sp : Sp) : Prop where
  ln : ∀ xs H D E, sp xs H D E → xs.length = ps.length
  go : ∀ (A : Around) (o : List Env) (s : Shared) (H : Hp) (ar : Args) (us : List Value) (xs : List V) (D : VK) (E : XK), RoomG k A → Env0 P w K mg base A o s H → BindsTo s fd ar (ps.zip us) → Vals xs us → sp xs H D E →
    codeAny (model P w) A (.call (.ref f) ar) (CR Z o P w H s D E) s
theorem Pm.mono {P : Program} {w : World} {K : PySem.W.Frag} {mg : Str → Option Value} {base : Heap} {Z : CXT} {j k : Nat} {f : Addr} {fd : FuncData} {ps : List Str} {sp : Sp} (G : Pm P w K mg base Z j f fd ps sp) (l : j ≤ k) : Pm P w K mg base Z k f fd ps sp :=
  ⟨G.ln, fun A o s H ar us xs D E hr => G.go A o s H ar us xs D E (hr.mono l)⟩
section
variable {X : Cx} {Z : CXT} {k n : Nat} {f : Addr} {fd : FuncData} {ps ks : List Str} {sp : Sp} {dvs : List V} {ds : List Value} {E : XK} {x : Str} {p pos : Pos} {e : Expr} {es : List Expr} {ta tk : TA} {kws : List Keyword} {g : List Value → List Value → List Value} {gV : List V → List V → List V}
theorem ran {pins : List (Addr × Obj)} {σ : L2.St} {H : Hp} {s : Shared} {D : VK} {ar : Args} {us : List Value} {xs : List V} (G : Pm X.prog X.w X.K X.mg X.base Z k f fd ps sp) (hr : RoomG k X.A) (hx : Passes Z X E) (I : Inv X pins σ H s)
    (b : BindsTo s fd ar (ps.zip us)) (r : Vals xs us) (h : sp xs H D E) : wpAny (model X.prog X.w) X.A (call (.ref f) ar.pos ar.kw) (EP X pins σ D) X.xe s := by
  refine wpAny_call (codeAny_mono (G.go X.A X.stack s H ar us xs D E hr I.env0 b r h) fun z s' q => ?_)
  match z, q with
  | .error err, q => exact hx pins σ H s err s' I q
  | .ok (.ret u), q => exact I.after q
theorem pe_callG (G : Pm X.prog X.w X.K X.mg X.base Z k f fd ps sp) (hr : RoomG k X.A) (gl : Gl X x) (m : X.mg x = some (.ref f)) (kp : PySem.W.keepIn X.K (.ref f) = true) (b : Binds X.K fd ps ds) (dv : Vals dvs ds) (hx : Passes Z X E)
    (ar : PA X (e :: es) ta) (db : (x == ("__debug__" : Str)) = false := by decide) (st : starEach (e :: es) X.env = (false, eval e X.env) :: starEach es X.env := by rfl) (pl : (backTo pos (starEach es X.env)).any (·.1) = false := by rfl) :
    PE X (.Call (.Name x p) (e :: es) [] pos) (tCall sp dvs E ta) := by
  refine ⟨fun pins s σ H D I h => wpAny_Call_Name_kw (ld_glob I gl m ?_ db)⟩
  refine PySem.W.callWith_K (h₀ := X.base) I.ok.mod.kin kp (thn (ar.run pos pins s σ H _ I h) fun us s1 ⟨xs, H1, I1, r, q⟩ => ⟨I1.kIn, ?_⟩) st pl
  have r2 := r.append dv
  exact ran (ar := ⟨us, []⟩) G hr hx I1 (b s1 us I1.kIn (by rw [← r2.length]; exact G.ln _ _ _ _ q)) r2 q
theorem pe_callGN0 (G : Pm X.prog X.w X.K X.mg X.base Z k f fd ps sp) (hr : RoomG k X.A) (gl : Gl X x) (m : X.mg x = some (.ref f)) (kp : PySem.W.keepIn X.K (.ref f) = true) (b : KBn X.K fd ps 0 ks g gV) (hx : Passes Z X E)
    (kw : PK X kws tk) (al : (backToKw pos (keywordEach kws X.env)).all (·.1.isSome) = true) (ek : (backToKw pos (keywordEach kws X.env)).filterMap (·.1) = ks)
    (db : (x == ("__debug__" : Str)) = false) (pl : ((backTo pos (starEach [] X.env)).any (·.1) || (backToKw pos (keywordEach kws X.env)).any (·.1.isNone)) = false) :
    PE X (.Call (.Name x p) [] kws pos) (tCallN 0 ks.length sp gV E tNil tk) := by
  refine ⟨fun pins s σ H D I h => wpAny_Call_Name_kw (ld_glob I gl m ?_ db)⟩
  refine PySem.W.callWith_KW0 (h₀ := X.base) I.ok.mod.kin kp al (thn (kw.run pos pins s σ H _ I h) fun ws s2 ⟨zs, H2, I2, rz, l1, l2, q2⟩ => ⟨I2.kIn, ?_⟩) pl
  rw [ek]
  exact ran (ar := ⟨[], ks.zip ws⟩) G hr hx I2 (b.to s2 [] ws I2.kIn rfl (rz.length.symm.trans l2)) (b.rel .nil rz) q2
end
/-- a def by its body -/
theorem fn_ofG {Z : CXT} {P : Program} {w : World} {K : PySem.W.Frag} {mg : Str → Option Value} {base : Heap} {k : Nat} {f : Addr} {x qual : Str} {params : Arguments} {body : List Stmt} {scope : Scope} {dvs : List V} {kws : List (Str × V)} {fd : FuncData} {N ps : List Str} {sp : Sp} (F : FunD K x qual params body scope dvs kws f fd) (S : FnScope N ps scope)
    (ln : ∀ xs H D E, sp xs H D E → xs.length = ps.length)
    (bd : ∀ (cdv : Value) (A : Around) (o : List Env) (s : Shared) (H : Hp) (xs : List V) (D : VK) (E : XK), RoomG k (A.deeper (envOfC qual scope s.heap.objs.size f cdv)) → sp xs H D E →
      ∃ t, PSs (cxOf Z P w K mg base N qual scope f cdv A o s H E) body t ∧ t { nx := fun _ H' => D .non H', rt := D } (start N xs) H) : Pm P w K mg base Z (k + 1) f fd ps sp := by
  obtain ⟨oc, od, dV, kV, doc, pm, an, cdv, ct, osl, rfl, lk, hcd, _, _⟩ := F.ex
  refine ⟨ln, fun A o s H ar us xs D E hr e0 hb r hs => ?_⟩
  have KX : K.In s.heap := e0.mod.kin.keeps fun b u z => (e0.bs b u z).1
  have li : s.heap.NoLimit := e0.mod.nolimit.keeps fun b u z => (e0.bs b u z).1
  have hk : ∀ y ∈ ps.zip us, scope.names.lookup y.1 = some .local ∨ (scope.names.lookup y.1 = some .cell ∧ ((cellsFrom (s.heap.objs.size + 1) scope.names []).lookup y.1).isSome = true) := by
    rintro ⟨m, v⟩ hy
    have := S.par m (List.of_mem_zip hy).1
    exact this.imp id fun q => ⟨q, PySem.W.cellsFrom_some _ _ _ (.inl q)⟩
  refine codeAny_call_function hr.r.depth (KX _ _ lk) rfl S.co S.gen rfl (PySem.W.codeRec_of KX hcd) (hb _ _ _ _ (wpAny_newFunctionEnv_cells S.kind hk ?_))
  intro en he s1 y
  subst he
  refine ⟨li.keeps y.toInCall.keep, codeAny_func ?_⟩
  obtain ⟨t, ht, hq⟩ := bd cdv A o s H xs D E (hr.down _) hs
  have I0 := inv_start (CX := Z) (E := E) S hr.r.hd e0 (ln _ _ _ _ hs) r y
  refine wpAny_mono (ht.run [] s1 _ H _ I0 hq) (fun fl s' z => ?_) fun _ _ z => z
  cases fl with
  | brk => obtain ⟨_, _, _, q⟩ := z; exact q.elim
  | cont => obtain ⟨_, _, _, q⟩ := z; exact q.elim
  | next =>
    obtain ⟨τ, G, J, q⟩ := z
    exact ⟨.non, G, J.os, J.bare, J.base, J.hok, rfl, q⟩
  | ret u =>
    obtain ⟨v, τ, G, J, rv, q⟩ := z
    exact ⟨v, G, J.os, J.bare, J.base, J.hok, rv, q⟩
/-- a promise at the caller of the law: turned into the kit's own form for law_call -/
theorem law_callG {P : Program} {w : World} {K : PySem.W.Frag} {mg mb : Str → Option Value} {Z : CXT} {k : Nat} {fa a : Addr} {fd : FuncData} {x : Str} {sp : Sp} {s₁ : Shared} {vs : List Value} {ns : List Int}
    (KX : K.In s₁.heap) (n1 : s₁.heap.Ns mainGlobals mg) (n2 : s₁.heap.Ns builtinsNs mb) (n3 : ∀ y : Str, y ≠ "__name__" → mb y = bootBuiltins y) (n4 : s₁.heap.NoLimit) (n5 : s₁.gens = #[])
    (ha : s₁.heap.get? a = some { cls := .type "list", data := .seq vs.toArray }) (hi : IntsAre vs ns) (hl : ns.length ≤ sizeLine) (hr : RoomG k callerA)
    (F : ∀ base : Heap, K.In base → base.Ns mainGlobals mg → Pm P w K mg base Z k fa fd [x] sp) (bi : ∀ (s : Shared) (u : Value), BindsTo s fd ⟨[u], []⟩ [(x, u)])
    (hs : ∀ H : Hp, Only H → SqL K H a (ns.map V.int) → sp [.ref a] H (fun v _ => v = .bl true) fun _ _ _ => False) (hZ : ∀ H e s', Z [] H s₁ (fun _ _ _ => False) e s' → False) :
    codeAny (model P w) callerA (.call (.ref fa) ⟨[.ref a], []⟩) (fun r s' => r = .ok (.ret (.bool true)) ∧ OldK s₁.heap s'.heap ∧ s'.os = s₁.os ∧ AllBare s'.gens) s₁ := by
  have rv := vals_ints hi
  have lv := hi.length
  have core : ∀ H : Hp, Only H → SqL K H a (ns.map V.int) → HOk P w H s₁.heap → (∀ b, H b ≠ none → b = a ∧ K.lookup a = none) →
      codeAny (model P w) callerA (.call (.ref fa) ⟨[.ref a], []⟩) (fun r s' => r = .ok (.ret (.bool true)) ∧ OldK s₁.heap s'.heap ∧ s'.os = s₁.os ∧ AllBare s'.gens) s₁ := by
    intro H hO hS ok hA
    have n0 : ∀ {b : Addr} {o : Obj}, s₁.heap.get? b = some o → (b = a → K.lookup a = none → False) → H b = none := fun {b o} e h => by
      by_cases q : H b = none
      · exact q
      · exact absurd (hA b q).2 (h (hA b q).1)
    have nA : ∀ {b : Addr} {o : Obj} {es : Array DictEntry} {ep : Nat}, s₁.heap.get? b = some o → o.data = .dict es ep → H b = none := fun {b o es ep} e d => n0 e fun z _ => by
      subst z
      rw [ha] at e
      cases e
      exact nomatch d
    have nsK : ∀ {b : Addr} {m : Str → Option Value}, s₁.heap.Ns b m → (hidT s₁.heap H).Ns b m := by
      rintro b m ⟨o, es, ep, e, d, r⟩
      exact ⟨o, es, ep, hidT_get e (nA e d), d, r⟩
    have hKb : K.In (hidT s₁.heap H) := fun b o e => hidT_get (KX b o e) (n0 (KX b o e) fun z k0 => by subst z; rw [k0] at e; cases e)
    have hM : Mod K mg (hidT s₁.heap H) := by
      obtain ⟨mc, z1, z2⟩ := n4
      exact ⟨hKb, nsK n1, ⟨mb, nsK n2, n3⟩, ⟨mc, nsK z1, z2⟩⟩
    have e0 : Env0 P w K mg (hidT s₁.heap H) callerA [] s₁ H := ⟨rfl, hM, fun _ _ e => of_hidT e, by rw [hidT_size]; exact Nat.le_refl _, trivial, fun b z => (List.not_mem_nil z).elim, ok, AllBare.of_eq n5⟩
    refine codeAny_mono ((F _ hKb (nsK n1)).go callerA [] s₁ H ⟨[.ref a], []⟩ [.ref a] [.ref a] _ _ hr e0 (bi s₁ _) (.cons rfl .nil) (hs H hO hS)) fun r s' h => ?_
    rcases r with e | fl
    · exact (hZ H e s' h).elim
    · cases fl with
      | brk => exact h.elim
      | cont => exact h.elim
      | next => exact h.elim
      | ret u => ?_
      obtain ⟨v, H', os, bare, un, ok', r', q⟩ := h
      cases (show v = V.bl true from q)
      obtain rfl : u = Value.bool true := r'
      refine ⟨rfl, OldK.of_keep fun b o e => ?_, os, bare⟩
      rcases hO b with q | ⟨ob, xs, q⟩
      · exact un.keep b o e q (fun z => (List.not_mem_nil z).elim) (by simp)
      · have e1 := (ok b _ q).1
        rw [e] at e1
        cases e1
        exact (ok' b _ (un.frzs b _ _ q)).1
  cases hk : K.lookup a with
  | some o =>
    have e := KX a o hk
    rw [ha] at e
    cases e
    exact core (fun _ => none) (fun _ => .inl rfl) (.inr ⟨_, vs.toArray, _, hk, rfl, rfl, rfl, by rw [List.size_toArray, lv]; exact hl, by simpa using rv⟩) (fun b u z => nomatch (show (none : Option HO) = some u from z)) fun b z => absurd rfl z
  | none =>
    have yes : ∀ b u, (if b = a then some (HO.frz { cls := .type "list", data := .seq vs.toArray } (.lst (ns.map V.int))) else none) = some u → b = a ∧ HO.frz { cls := .type "list", data := .seq vs.toArray } (.lst (ns.map V.int)) = u := fun b u z => by
      split at z
      · exact ⟨by assumption, Option.some.inj z⟩
      · cases z
    refine core (fun b => if b = a then some (.frz { cls := .type "list", data := .seq vs.toArray } (.lst (ns.map V.int))) else none) (fun b => ?_) (.inl (.inr ⟨_, if_pos rfl⟩)) (fun b u z => ?_) (fun b z => ?_)
    · by_cases q : b = a
      · exact .inr ⟨_, _, if_pos q⟩
      · exact .inl (if_neg q)
    · obtain ⟨rfl, rfl⟩ := yes b u z
      exact ⟨ha, by rw [List.length_map]; exact hl, vs, _, rv, ha⟩
    · obtain ⟨u, z⟩ := Option.ne_none_iff_exists'.mp z
      exact ⟨(yes b u z).1, hk⟩
end Ar

set_option Elab.async false
set_option linter.all false
set_option maxRecDepth 100000
set_option maxHeartbeats 2000000
/-! Ar6: what is walked; for, while; comprehensions; calls of defs -/
namespace Ar
open PySem PySem.Spec PyProof.Rows L2

/-! ### what is walked -/
def seqI (d : D) (μ : Mu) : R (List D) := match d with
  | .tup ds => .ok ds μ
  | .lst ds => .ok ds μ
  | .scr ds => .ok ds μ
  | .str z => .ok (z.cps.toList.map fun c => .str ⟨#[c]⟩) μ
  | .loc n => match μ[n]? with
    | some (.lst ds) => .ok ds (μ.set n (.frz ds))
    | some (.frz ds) => .ok ds μ
    | _ => .stk
  | _ => .stk
def diSeq (e : DE) : DA := fun Γ μ => (e Γ μ).bind seqI
def rngD (lo : Int) (n : Nat) : List D := (List.range n).map fun (i : Nat) => .int (lo + i)
def diRange1 (a : DA) : DA := fun Γ μ => (a Γ μ).bind fun ds μ1 => match ds with
  | [.int j] => if j.natAbs < 2 ^ 61 then .ok (rngD 0 j.toNat) μ1 else .stk
  | _ => .stk
def diRange2 (a : DA) : DA := fun Γ μ => (a Γ μ).bind fun ds μ1 => match ds with
  | [.int i, .int j] => if i.natAbs < 2 ^ 61 ∧ j.natAbs < 2 ^ 61 then .ok (rngD i (j - i).toNat) μ1 else .stk
  | _ => .stk
section
variable {X : Cx} {E : XK} {K : PySem.W.Frag} {e tg : Expr} {de : DE} {pos : Pos}
theorem PI.or {iter : Expr} {w1 w2 : TI} (h1 : PI X tg iter w1) (h2 : PI X tg iter w2) : PI X tg iter (fun σ H Rr => w1 σ H Rr ∨ w2 σ H Rr) := ⟨fun pins s σ H Rr I h => h.elim (h1.run pins s σ H Rr I) (h2.run pins s σ H Rr I)⟩
theorem itok_list' {ρ : List Addr} {F : Hp} {a : Addr} {vs : List V} {ds : List D} (h : SqL K F a vs) (r : DnAll K ρ F vs ds) : ItOk K ρ F (Itl K a) ds where
  go := fun i H s hi => by
    have hl := r.length
    exact ⟨vs, vs[i]'(by omega), s.sqL h, List.getElem?_eq_getElem _⟩
  stop := fun i H s hi0 => have hi := Nat.le_of_eq hi0.symm; ⟨vs, s.sqL h, by rw [r.length]; exact hi⟩
  yld := fun i ρ' F' H μ' x H' s p k y hi => by
    obtain ⟨e1, y⟩ := y
    subst e1
    have q := y vs (k.ex.sqL (s.sqL h))
    obtain ⟨d, hd, rd⟩ := r.getV q
    exact ⟨d, F', hd, Nx.refl, k, rd.mono p s⟩
theorem itok_tup {ρ : List Addr} {F : Hp} {a : Addr} {vs : List V} {ds : List D} (h : SqT K F a vs) (r : DnAll K ρ F vs ds) : ItOk K ρ F (Itt K a) ds where
  go := fun i H s hi => by
    have hl := r.length
    exact ⟨vs, vs[i]'(by omega), s.sqT h, List.getElem?_eq_getElem _⟩
  stop := fun i H s hi0 => have hi := Nat.le_of_eq hi0.symm; ⟨vs, s.sqT h, by rw [r.length]; exact hi⟩
  yld := fun i ρ' F' H μ' x H' s p k y hi => by
    obtain ⟨e1, y⟩ := y
    subst e1
    have q := y vs (k.ex.sqT (s.sqT h))
    obtain ⟨d, hd, rd⟩ := r.getV q
    exact ⟨d, F', hd, Nx.refl, k, rd.mono p s⟩
theorem rngD_len (lo : Int) (n : Nat) : (rngD lo n).length = n := by simp [rngD]
theorem itok_rng {ρ : List Addr} {F : Hp} (lo : Int) (n : Nat) : ItOk K ρ F (Itr lo n) (rngD lo n) where
  go := fun i H s hi => by rw [rngD_len] at hi; exact hi
  stop := fun i H s hi0 => by have hi := Nat.le_of_eq hi0.symm; rw [rngD_len] at hi; exact hi
  yld := fun i ρ' F' H μ' x H' s p k y hi => by
    obtain ⟨e1, e2⟩ := y
    subst e1
    subst e2
    rw [rngD_len] at hi
    exact ⟨.int (lo + i), F', by simp [rngD, hi], Nx.refl, k, .int _⟩
theorem itok_str {ρ : List Addr} {F : Hp} (x : Str) : ItOk K ρ F (Its x) (x.cps.toList.map fun c => .str ⟨#[c]⟩) where
  go := fun i H s hi => by show i < x.cps.size; simpa using hi
  stop := fun i H s hi0 => by have hi := Nat.le_of_eq hi0.symm; show x.cps.size ≤ i; simpa using hi
  yld := fun i ρ' F' H μ' v H' s p k y hi => by
    obtain ⟨e1, c, ec, ev⟩ := y
    subst e1
    subst ev
    refine ⟨.str ⟨#[c]⟩, F', ?_, Nx.refl, k, .str _⟩
    rw [List.getElem?_map, Array.getElem?_toList, ec]
    rfl
theorem qi_seq (he : QE X E e de) : QI X E tg e (diSeq de) := by
  obtain ⟨te, a1, a2⟩ := he.ex
  refine ⟨_, PI.or (pi_str a1) (PI.or (pi_list a1) (pi_tup a1)), ?_⟩
  intro ρ F H Γ μ σ k s Rr h
  unfold diSeq at h
  cases hr : de Γ μ with
  | stk => rw [hr] at h; exact False.elim h
  | exc x μ1 =>
    rw [hr] at h
    refine .inr (.inl (a2 ρ F H Γ μ σ k s _ ?_))
    rw [hr]
    exact h
  | ok d μ1 =>
    rw [hr] at h
    have h : WpR (seqI d μ1) _ _ := h
    cases d with
    | tup ds =>
      refine .inr (.inr (a2 ρ F H Γ μ σ k s _ ?_))
      rw [hr]
      intro ρ1 F1 H1 v n1 k1 r1
      cases r1 with
      | tup h1 h2 => exact ⟨_, rfl, ⟨_, k1.ex.sqT h1⟩, h ρ1 F1 H1 _ n1 k1 (itok_tup h1 h2)⟩
    | lst ds =>
      refine .inr (.inl (a2 ρ F H Γ μ σ k s _ ?_))
      rw [hr]
      intro ρ1 F1 H1 v n1 k1 r1
      cases r1 with
      | lst h1 h2 => exact ⟨_, rfl, ⟨_, SqL.of (k1.ex _ _ h1)⟩, h ρ1 F1 H1 _ n1 k1 (itok_list' (SqL.of h1) h2)⟩
    | scr ds =>
      refine .inr (.inl (a2 ρ F H Γ μ σ k s _ ?_))
      rw [hr]
      intro ρ1 F1 H1 v n1 k1 r1
      cases r1 with
      | scr h1 h2 => exact ⟨_, rfl, ⟨_, k1.ex.sqL h1⟩, h ρ1 F1 H1 _ n1 k1 (itok_list' h1 h2)⟩
    | loc n =>
      refine .inr (.inl (a2 ρ F H Γ μ σ k s _ ?_))
      rw [hr]
      intro ρ1 F1 H1 v n1 k1 r1
      cases r1 with
      | @loc a _ e1 =>
        unfold seqI at h
        simp only at h
        split at h
        · rename_i ds em
          obtain ⟨hf, vs, ev, rv⟩ := k1.mu n a _ e1 em
          obtain ⟨k2, n2⟩ := k1.freeze e1 hf ev rv
          exact ⟨a, rfl, ⟨vs, SqL.of ev⟩, h ρ1 _ H1 _ (n1.trans n2) k2 (itok_list' (SqL.of upd_same) (rv.nx n2))⟩
        · rename_i ds em
          obtain ⟨vs, ev, rv⟩ := k1.mu n a _ e1 em
          exact ⟨a, rfl, ⟨vs, SqL.of (k1.ex _ _ ev)⟩, h ρ1 F1 H1 _ n1 k1 (itok_list' (SqL.of ev) rv)⟩
        · exact False.elim h
    | non => exact False.elim h
    | bl _ => exact False.elim h
    | int _ => exact False.elim h
    | str z =>
      refine .inl (a2 ρ F H Γ μ σ k s _ ?_)
      rw [hr]
      intro ρ1 F1 H1 v n1 k1 r1
      cases r1
      exact ⟨z, rfl, h ρ1 F1 H1 _ n1 k1 (itok_str z)⟩
    | ins _ _ => exact False.elim h
    | slt _ _ => exact False.elim h
    | dK _ => exact False.elim h
    | glo _ => exact False.elim h
    | ty _ => exact False.elim h
    | adr => exact False.elim h
    | clo => exact False.elim h
    | exn => exact False.elim h
theorem qi_range1 {a : Expr} {da : DA} {p : Pos} (hm : X.mg "range" = none) (ha : QA X E [a] da) (hg : Gl X "range" := by rfl) (hs : starEach [a] X.env = [(false, eval a X.env)] := by rfl) : QI X E tg (.Call (.Name "range" p) [a] [] pos) (diRange1 da) := by
  obtain ⟨ta, a1, a2⟩ := ha.ex
  refine ⟨_, pi_range1 hg hm a1 hs, ?_⟩
  intro ρ F H Γ μ σ k s Rr h
  refine a2 ρ F H Γ μ σ k s _ ((WpR.bind h).mono (fun ds μ1 q => ?_) fun _ _ q => q)
  intro ρ1 F1 H1 vs n1 k1 r1
  split at q
  · split at q
    · rename_i j hj
      cases r1 with
      | cons r1 r2 =>
        cases r1
        cases r2
        exact ⟨j, rfl, by omega, by omega, q ρ1 F1 H1 _ n1 k1 (itok_rng 0 j.toNat)⟩
    · exact False.elim q
  · exact False.elim q
theorem qi_range2 {a b : Expr} {da : DA} {p : Pos} (hm : X.mg "range" = none) (ha : QA X E [a, b] da) (hg : Gl X "range" := by rfl) (hs : starEach [a, b] X.env = [(false, eval a X.env), (false, eval b X.env)] := by rfl) (hs2 : starEach [b] X.env = [(false, eval b X.env)] := by rfl) : QI X E tg (.Call (.Name "range" p) [a, b] [] pos) (diRange2 da) := by
  obtain ⟨ta, a1, a2⟩ := ha.ex
  refine ⟨_, pi_range2 hg hm a1 hs hs2, ?_⟩
  intro ρ F H Γ μ σ k s Rr h
  refine a2 ρ F H Γ μ σ k s _ ((WpR.bind h).mono (fun ds μ1 q => ?_) fun _ _ q => q)
  intro ρ1 F1 H1 vs n1 k1 r1
  split at q
  · split at q
    · rename_i i j hj
      cases r1 with
      | cons r1 r2 =>
        cases r2 with
        | cons r2 r3 =>
          cases r1; cases r2; cases r3
          exact ⟨i, j, rfl, by omega, q ρ1 F1 H1 _ n1 k1 (itok_rng i (j - i).toNat)⟩
    · exact False.elim q
  · exact False.elim q

/-! ### for -/
def forL (g : DG) (b : DS) : List D → Gam → Mu → RS
  | [], Γ, μ => .nx Γ μ
  | d :: ds, Γ, μ => (g d Γ μ).thenS fun Γ1 μ1 => match b Γ1 μ1 with
    | .nx Γ2 μ2 => forL g b ds Γ2 μ2
    | .ct Γ2 μ2 => forL g b ds Γ2 μ2
    | .bk Γ2 μ2 => .nx Γ2 μ2
    | .rt d μ2 => .rt d μ2
    | .exc e μ2 => .exc e μ2
    | .stk => .stk
def dFor (i : DA) (g : DG) (b : DS) : DS := fun Γ μ => (i Γ μ).thenS fun ds μ1 => forL g b ds Γ μ1
theorem sim_for {wi : TI} {g : TG} {tb : TS} {di : DA} {dg : DG} {db : DS} (hi : SimI K E wi di) (hg : SimG K E g dg) (hb : SimS K E tb db) : SimS K E (tFor wi g tb) (dFor di dg db) := by
  intro ρ F H Γ μ σ k s D h
  refine hi ρ F H Γ μ σ k s _ ((WpS.thenS h).mono (fun ds μ1 q => ?_) fun _ _ q => q)
  intro ρ1 F1 H1 J n1 k1 it
  refine ⟨fun i m σ' H' => m = ds.length - i ∧ i ≤ ds.length ∧ ∃ ρ' F' Γ' μ', HpOk K ρ' μ' F' H' ∧ Slots K ρ' F' Γ' σ' ∧ Nx ρ F H ρ' F' H' ∧ Sub F1 F' ∧ (∀ (n : Nat) a, ρ1[n]? = some a → ρ'[n]? = some a) ∧ WpS (forL dg db (ds.drop i) Γ' μ') (QS K E ρ F H D),
    ⟨ds.length, rfl, Nat.zero_le _, ρ1, F1, Γ, μ1, k1, s.nx n1, n1, Sub.refl _, fun _ _ h => h, by rw [List.drop_zero]; exact q⟩, ?_⟩
  rintro i m σ' H' ⟨rfl, hi, ρ', F', Γ', μ', k', s', n', sub, pre, q'⟩
  by_cases hlt : i < ds.length
  · refine .inr ⟨it.go i H' (sub.trans k'.ex) hlt, fun σ2 H2 => ∃ ρ' F' Γ' μ', HpOk K ρ' μ' F' H2 ∧ Slots K ρ' F' Γ' σ2 ∧ Nx ρ F H ρ' F' H2 ∧ Sub F1 F' ∧ (∀ (n : Nat) a, ρ1[n]? = some a → ρ'[n]? = some a) ∧ WpS (forL dg db (ds.drop (i + 1)) Γ' μ') (QS K E ρ F H D),
      fun σ2 H2 hN => ⟨ds.length - (i + 1), by omega, rfl, hlt, hN⟩, fun x H2 y => ?_⟩
    obtain ⟨d, F2, hd, n2, k2, r2⟩ := it.yld i ρ' F' H' μ' x H2 sub pre k' y hlt
    have e1 : ds.drop i = d :: ds.drop (i + 1) := by
      rw [List.drop_eq_getElem_cons hlt]
      congr 1
      exact Option.some.inj ((List.getElem?_eq_getElem hlt).symm.trans hd)
    rw [e1] at q'
    refine hg ρ' F2 H2 Γ' μ' σ' x d k2 (s'.nx n2) r2 _ ((WpS.thenS q').mono (fun Γ3 μ3 q3 => ?_) fun _ _ q => XP.nx (n'.trans n2) q)
    intro ρ3 F3 H3 σ3 n3 k3 s3
    have nn := (n'.trans n2).trans n3
    have sub3 : Sub F1 F3 := (sub.trans n2.ex).trans n3.ex
    have pre3 : ∀ (n : Nat) a, ρ1[n]? = some a → ρ3[n]? = some a := fun n a h => n3.pre _ _ (n2.pre _ _ (pre n a h))
    refine hb ρ3 F3 H3 Γ3 μ3 σ3 k3 s3 _ ?_
    cases hb3 : db Γ3 μ3 with
    | nx Γ4 μ4 =>
      rw [hb3] at q3
      exact fun ρ4 F4 H4 σ4 n4 k4 s4 => ⟨ρ4, F4, Γ4, μ4, k4, s4, nn.trans n4, sub3.trans n4.ex, fun n a h => n4.pre _ _ (pre3 n a h), q3⟩
    | ct Γ4 μ4 =>
      rw [hb3] at q3
      exact fun ρ4 F4 H4 σ4 n4 k4 s4 => ⟨ρ4, F4, Γ4, μ4, k4, s4, nn.trans n4, sub3.trans n4.ex, fun n a h => n4.pre _ _ (pre3 n a h), q3⟩
    | bk Γ4 μ4 =>
      rw [hb3] at q3
      exact fun ρ4 F4 H4 σ4 n4 k4 s4 => q3 ρ4 F4 H4 σ4 (nn.trans n4) k4 s4
    | rt d μ4 =>
      rw [hb3] at q3
      exact fun ρ4 F4 H4 v n4 k4 r4 => q3 ρ4 F4 H4 v (nn.trans n4) k4 r4
    | exc e μ4 =>
      rw [hb3] at q3
      exact XP.nx nn q3
    | stk => rw [hb3] at q3; exact False.elim q3
  · have e : i = ds.length := by omega
    subst e
    rw [List.drop_length] at q'
    exact .inl ⟨it.stop _ H' (sub.trans k'.ex) rfl, q' ρ' F' H' σ' n' k' s'⟩
theorem q_for {iter : Expr} {body : List Stmt} {di : DA} {dg : DG} {db : DS} (hp : PassesOwn (model X.prog X.w) X.A X.env X.xe) (hc : X.calm = true) (hi : QI X E tg iter di) (hg : QG X E tg dg) (hb : QSs X E body db)
    (hs : ∀ x, foldedSetIterable iter X.env x = pure x := by intro _; rfl) : QSt X E (.For tg iter body [] pos) (dFor di dg db) := by
  obtain ⟨wi, i1, i2⟩ := hi.ex
  obtain ⟨g, g1, g2⟩ := hg.ex
  obtain ⟨b, b1, b2⟩ := hb.ex
  exact ⟨_, ps_for hp hc i1 g1 b1 hs, sim_for i2 g2 b2⟩

/-! ### while: some number of turns is enough -/
def whileN (c : DT) (b : DS) : Nat → Gam → Mu → RS
  | 0, _, _ => .stk
  | n + 1, Γ, μ => (c Γ μ).thenS fun t μ1 => match t with
    | false => .nx Γ μ1
    | true => match b Γ μ1 with
      | .nx Γ2 μ2 => whileN c b n Γ2 μ2
      | .ct Γ2 μ2 => whileN c b n Γ2 μ2
      | .bk Γ2 μ2 => .nx Γ2 μ2
      | .rt d μ2 => .rt d μ2
      | .exc e μ2 => .exc e μ2
      | .stk => .stk
open Classical in
noncomputable def dWhile (c : DT) (b : DS) : DS := fun Γ μ => if h : ∃ n, whileN c b n Γ μ ≠ .stk then whileN c b h.choose Γ μ else .stk
theorem whileN_more (c : DT) (b : DS) : ∀ (n m : Nat) (Γ : Gam) (μ : Mu), n ≤ m → whileN c b n Γ μ ≠ .stk → whileN c b m Γ μ = whileN c b n Γ μ := by
  intro n
  induction n with
  | zero => intro m Γ μ _ h; exact absurd rfl h
  | succ n ih =>
    intro m Γ μ hm h
    cases m with
    | zero => omega
    | succ m =>
      unfold whileN at h ⊢
      cases hc : c Γ μ with
      | stk => rfl
      | exc e μ1 => rfl
      | ok t μ1 =>
        rw [hc] at h
        cases t with
        | false => rfl
        | true =>
          cases hb : b Γ μ1 with
          | nx Γ2 μ2 =>
            simp only [R.thenS, hb] at h ⊢
            exact ih m Γ2 μ2 (by omega) h
          | ct Γ2 μ2 =>
            simp only [R.thenS, hb] at h ⊢
            exact ih m Γ2 μ2 (by omega) h
          | bk Γ2 μ2 => simp only [R.thenS, hb]
          | rt d μ2 => simp only [R.thenS, hb]
          | exc e μ2 => simp only [R.thenS, hb]
          | stk => simp only [R.thenS, hb]
theorem dWhile_eq {c : DT} {b : DS} {n : Nat} {Γ : Gam} {μ : Mu} (h : whileN c b n Γ μ ≠ .stk) : dWhile c b Γ μ = whileN c b n Γ μ := by
  have hx : ∃ n, whileN c b n Γ μ ≠ .stk := ⟨n, h⟩
  unfold dWhile
  rw [dif_pos hx]
  have h2 := hx.choose_spec
  rcases Nat.le_total n hx.choose with hle | hle
  · exact whileN_more c b _ _ Γ μ hle h
  · exact (whileN_more c b _ _ Γ μ hle h2).symm
theorem sim_while {tc : TT} {tb : TS} {dc : DT} {db : DS} (hc : SimT K E tc dc) (hb : SimS K E tb db) : SimS K E (tWhile tc tb) (dWhile dc db) := by
  intro ρ F H Γ μ σ k s D h
  have hx : ∃ n, whileN dc db n Γ μ ≠ .stk := by
    by_cases hx : ∃ n, whileN dc db n Γ μ ≠ .stk
    · exact hx
    · unfold dWhile at h
      rw [dif_neg hx] at h
      exact False.elim h
  obtain ⟨N, hN⟩ := hx
  rw [dWhile_eq hN] at h
  refine ⟨fun m σ' H' => ∃ ρ' F' Γ' μ', HpOk K ρ' μ' F' H' ∧ Slots K ρ' F' Γ' σ' ∧ Nx ρ F H ρ' F' H' ∧ WpS (whileN dc db m Γ' μ') (QS K E ρ F H D), ⟨N, ρ, F, Γ, μ, k, s, Nx.refl, h⟩, ?_⟩
  rintro m σ' H' ⟨ρ', F', Γ', μ', k', s', n', q'⟩
  cases m with
  | zero => exact False.elim q'
  | succ m =>
    unfold whileN at q'
    refine hc ρ' F' H' Γ' μ' σ' k' s' _ ((WpS.thenS q').mono (fun t μ1 q => ?_) fun _ _ q => XP.nx n' q)
    intro ρ1 F1 H1 n1 k1
    cases t with
    | false =>
      show D.nx σ' H1
      exact q ρ1 F1 H1 σ' (n'.trans n1) k1 (s'.nx n1)
    | true =>
      show ∃ N : L2.St → Hp → Prop, _
      refine ⟨fun σ2 H2 => ∃ ρ' F' Γ' μ', HpOk K ρ' μ' F' H2 ∧ Slots K ρ' F' Γ' σ2 ∧ Nx ρ F H ρ' F' H2 ∧ WpS (whileN dc db m Γ' μ') (QS K E ρ F H D), fun σ2 H2 hN => ⟨m, Nat.lt_succ_self m, hN⟩, ?_⟩
      have nn := n'.trans n1
      refine hb ρ1 F1 H1 Γ' μ1 σ' k1 (s'.nx n1) _ ?_
      cases hb3 : db Γ' μ1 with
      | nx Γ4 μ4 =>
        rw [hb3] at q
        exact fun ρ4 F4 H4 σ4 n4 k4 s4 => ⟨ρ4, F4, Γ4, μ4, k4, s4, nn.trans n4, q⟩
      | ct Γ4 μ4 =>
        rw [hb3] at q
        exact fun ρ4 F4 H4 σ4 n4 k4 s4 => ⟨ρ4, F4, Γ4, μ4, k4, s4, nn.trans n4, q⟩
      | bk Γ4 μ4 =>
        rw [hb3] at q
        exact fun ρ4 F4 H4 σ4 n4 k4 s4 => q ρ4 F4 H4 σ4 (nn.trans n4) k4 s4
      | rt d μ4 =>
        rw [hb3] at q
        exact fun ρ4 F4 H4 v n4 k4 r4 => q ρ4 F4 H4 v (nn.trans n4) k4 r4
      | exc e μ4 =>
        rw [hb3] at q
        exact XP.nx nn q
      | stk => rw [hb3] at q; exact False.elim q
theorem q_while {c : Expr} {body : List Stmt} {dc : DT} {db : DS} (hp : PassesOwn (model X.prog X.w) X.A X.env X.xe) (hc : QT X E c dc) (hb : QSs X E body db) : QSt X E (.While c body [] pos) (dWhile dc db) := by
  obtain ⟨wi, i1, i2⟩ := hc.ex
  obtain ⟨b, b1, b2⟩ := hb.ex
  exact ⟨_, ps_while hp i1 b1, sim_while i2 b2⟩

/-! ### calls of defs -/
abbrev Fn := List D → Mu → R D
def spM (K : PySem.W.Frag) (m : Fn) : Sp := fun vs H Q E => ∃ ρ F μ ds, HpOk K ρ μ F H ∧ DnAll K ρ F vs ds ∧ WpR (m ds μ) (QV K ρ F H Q) (XP K E ρ F H)
def dCall (m : Fn) (a : DA) : DE := fun Γ μ => (a Γ μ).bind m
theorem sim_call {m : Fn} {ta : TA} {da : DA} (ha : SimA K E ta da) : SimE K E (tCall (spM K m) [] E ta) (dCall m da) := by
  intro ρ F H Γ μ σ k s Q h
  refine ha ρ F H Γ μ σ k s _ ((WpR.bind h).mono (fun ds μ1 q => ?_) fun _ _ q => q)
  intro ρ1 F1 H1 vs n1 k1 r1
  rw [List.append_nil]
  exact ⟨ρ1, F1, μ1, ds, k1, r1, q.mono (fun d μ2 q => QV.nx n1 q) fun _ _ q => XP.nx n1 q⟩
/-- the def x of the module does what m says, by at most level k -/
structure FnG (P : Program) (w : World) (K : PySem.W.Frag) (mg : Str → Option Value) (base : Heap) (x : Str) (k : Nat) (m : Fn) : Prop where
  ex : ∃ f fd ps, mg x = some (.ref f) ∧ PySem.W.keepIn K (.ref f) = true ∧ Binds K fd ps [] ∧ Pm P w K mg base (L2.CX P w) k f fd ps (spM K m)
theorem FnG.mono {P : Program} {w : World} {mg : Str → Option Value} {base : Heap} {x : Str} {j k : Nat} {m : Fn} (G : FnG P w K mg base x j m) (h : j ≤ k) : FnG P w K mg base x k m := by
  obtain ⟨f, fd, ps, h1, h2, h3, h4⟩ := G.ex
  exact ⟨f, fd, ps, h1, h2, h3, h4.mono h⟩
theorem q_call {x : Str} {es : List Expr} {p : Pos} {j : Nat} {m : Fn} {da : DA} (G : FnG X.prog X.w X.K X.mg X.base x j m) (hr : RoomG j X.A) (hp : Passes (L2.CX X.prog X.w) X E) (ha : QA X E (e :: es) da) (hg : Gl X x := by rfl)
    (hdb : (x == ("__debug__" : Str)) = false := by decide) (he : starEach (e :: es) X.env = (false, eval e X.env) :: starEach es X.env := by rfl) (hpl : (backTo pos (starEach es X.env)).any (·.1) = false := by rfl) :
    QE X E (.Call (.Name x p) (e :: es) [] pos) (dCall m da) := by
  obtain ⟨f, fd, ps, h1, h2, h3, h4⟩ := G.ex
  obtain ⟨ta, a1, a2⟩ := ha.ex
  exact ⟨_, pe_callG h4 hr hg h1 h2 h3 .nil hp a1 hdb he hpl, sim_call a2⟩
/-- a def from its body: N names in all, the first n are the parameters -/
def RS.fin : RS → R D
  | .nx _ μ => .ok .non μ
  | .rt d μ => .ok d μ
  | .exc e μ => .exc e μ
  | _ => .stk
def dDef (n N : Nat) (b : DS) : Fn := fun ds μ => if ds.length = n then (b (ds.map some ++ List.replicate (N - ds.length) none) μ).fin else .stk
theorem slots_start {ρ : List Addr} {F : Hp} {N : List Str} {vs : List V} {ds : List D} (h : DnAll K ρ F vs ds) : Slots K ρ F (ds.map some ++ List.replicate (N.length - ds.length) none) (L2.start N vs) := by
  unfold L2.start
  refine ⟨by simp [h.length], fun i d e => ?_⟩
  by_cases hi : i < ds.length
  · rw [List.getElem?_append_left (by simpa using hi)] at e
    rw [List.getElem?_append_left (by simp [h.length]; exact hi)]
    rw [List.getElem?_map] at e ⊢
    cases e2 : ds[i]? with
    | none => rw [e2] at e; cases e
    | some d' =>
      rw [e2] at e
      cases e
      obtain ⟨v, hv, r⟩ := h.get e2
      exact ⟨v, by rw [hv]; rfl, r⟩
  · rw [List.getElem?_append_right (by simpa using hi)] at e
    rw [List.getElem?_replicate] at e
    split at e <;> cases e
theorem fn_ok {P : Program} {w : World} {mg : Str → Option Value} {base : Heap} {x qual : Str} {params : Arguments} {body : List Stmt} {scope : Scope} {f : Addr} {fd : FuncData} {N ps : List Str} {k n nn : Nat} {db : DS} (F : FunD K x qual params body scope [] [] f fd) (S : FnScope N ps scope)
    (hn : ps.length = n) (hN : N.length = nn)
    (hb : ∀ (cdv : Value) (A : Around) (outer : List Env) (s : Shared) (H : Hp) (E : XK), RoomG k (A.deeper (envOfC qual scope s.heap.objs.size f cdv)) → QSs (cxOf (L2.CX P w) P w K mg base N qual scope f cdv A outer s H E) E body db) :
    Pm P w K mg base (L2.CX P w) (k + 1) f fd ps (spM K (dDef n nn db)) := by
  refine fn_ofG F S (fun vs H Q E h => ?_) (fun cdv A outer s H vs Q E hr h => ?_)
  · obtain ⟨ρ, F0, μ, ds, k0, r0, h⟩ := h
    unfold dDef at h
    split at h
    · rename_i hl
      rw [r0.length, hl, hn]
    · exact False.elim h
  · obtain ⟨ρ, F0, μ, ds, k0, r0, h⟩ := h
    obtain ⟨t, t1, t2⟩ := (hb cdv A outer s H E hr).ex
    refine ⟨t, t1, ?_⟩
    unfold dDef at h
    split at h
    · refine t2 ρ F0 H _ μ _ k0 (slots_start r0) _ ?_
      subst hN
      cases hres : db (ds.map some ++ List.replicate (N.length - ds.length) none) μ with
      | nx Γ μ1 => rw [hres] at h; exact fun ρ1 F1 H1 σ1 n1 k1 s1 => h ρ1 F1 H1 .non n1 k1 .non
      | rt d μ1 => rw [hres] at h; exact h
      | bk Γ μ1 => rw [hres] at h; exact False.elim h
      | ct Γ μ1 => rw [hres] at h; exact False.elim h
      | exc e μ1 => rw [hres] at h; exact h
      | stk => rw [hres] at h; exact False.elim h
    · exact False.elim h
end
end Ar

set_option Elab.async false
set_option linter.all false
set_option maxRecDepth 100000
set_option maxHeartbeats 2000000
/-! Ar7: comprehensions -/
namespace Ar
open PySem PySem.Spec PyProof.Rows L2

/-! ### the canonical readings -/
def tE (K : PySem.W.Frag) (E : XK) (de : DE) : TE := fun σ H Q => ∃ ρ F Γ μ, HpOk K ρ μ F H ∧ Slots K ρ F Γ σ ∧ WpR (de Γ μ) (QV K ρ F H Q) (XP K E ρ F H)
def tT (K : PySem.W.Frag) (E : XK) (dt : DT) : TT := fun σ H Q => ∃ ρ F Γ μ, HpOk K ρ μ F H ∧ Slots K ρ F Γ σ ∧ WpR (dt Γ μ) (fun b μ' => ∀ ρ' F' H', Nx ρ F H ρ' F' H' → HpOk K ρ' μ' F' H' → Q b H') (XP K E ρ F H)
theorem QE.pe {X : Cx} {E : XK} {e : Expr} {de : DE} (h : QE X E e de) : PE X e (tE X.K E de) := by
  obtain ⟨te, h1, h2⟩ := h.ex
  exact ⟨fun pins s σ H Q I ⟨ρ, F, Γ, μ, k, sl, q⟩ => h1.run pins s σ H Q I (h2 ρ F H Γ μ σ k sl Q q)⟩
theorem QT.pt {X : Cx} {E : XK} {e : Expr} {dt : DT} (h : QT X E e dt) : PT X e (tT X.K E dt) := by
  obtain ⟨te, h1, h2⟩ := h.ex
  exact ⟨fun pins s σ H Q I ⟨ρ, F, Γ, μ, k, sl, q⟩ => h1.run pins s σ H Q I (h2 ρ F H Γ μ σ k sl Q q)⟩
/-- the ifs of a comprehension -/
structure QTs (X : Cx) (E : XK) (es : List Expr) (dt : DT) : Prop where
  run : PTs X es (tT X.K E dt)
def dYes : DT := fun _ μ => .ok true μ
theorem qts_nil {X : Cx} {E : XK} : QTs X E [] dYes := ⟨⟨fun pins s σ H Q I ⟨ρ, F, Γ, μ, k, sl, q⟩ => pts_nil.run pins s σ H Q I (q ρ F H Nx.refl k)⟩⟩
theorem qts_one {X : Cx} {E : XK} {c : Expr} {dt : DT} (h : QT X E c dt) : QTs X E [c] dt := ⟨pts_one h.pt⟩

/-! ### targets of a comprehension -/
def wipeG (Γ : Gam) : List Nat → Gam
  | [] => Γ
  | v :: vs => (wipeG Γ vs).set v none
theorem slots_wipe {K : PySem.W.Frag} {ρ : List Addr} {F : Hp} {Γ : Gam} {σ : L2.St} (h : Slots K ρ F Γ σ) : ∀ vs : List Nat, Slots K ρ F (wipeG Γ vs) (wipe σ vs)
  | [] => h
  | v :: vs => (slots_wipe h vs).unset none v
/-- wipe is blind to what g stores -/
def Blind (g : TG) (vs : List Nat) : Prop := ∀ (v : V) (σ : L2.St) (H : Hp) (Q : L2.St → Hp → Prop), g v σ H Q → g v σ H fun σ' H' => wipe σ' vs = wipe σ vs ∧ Q σ' H'
theorem wipe_set {σ : L2.St} {i : Nat} {o : Option V} : ∀ {vs : List Nat}, i ∈ vs → wipe (σ.set i o) vs = wipe σ vs
  | v :: vs, h => by
    unfold wipe
    by_cases hv : v = i
    · subst hv
      by_cases hm : v ∈ vs
      · rw [wipe_set hm]
      · have comm : ∀ (ws : List Nat), v ∉ ws → wipe (σ.set v o) ws = (wipe σ ws).set v o := by
          intro ws
          induction ws with
          | nil => intro _; rfl
          | cons w ws ih =>
            intro hw
            unfold wipe
            rw [ih (fun z => hw (List.mem_cons_of_mem _ z)), List.set_comm]
            exact fun z => hw (by rw [z]; exact List.mem_cons_self)
        rw [comm vs hm, List.set_set]
    · have hm : i ∈ vs := by
        rcases List.mem_cons.mp h with z | z
        · exact absurd z.symm hv
        · exact z
      rw [wipe_set hm]
theorem blind_name {i : Nat} {vs : List Nat} (h : i ∈ vs) : Blind (gName i) vs := fun v σ H Q q => ⟨wipe_set h, q⟩
theorem wipe_none {σ : L2.St} : ∀ {vs : List Nat} {i : Nat}, i ∈ vs → i < σ.length → (wipe σ vs)[i]? = some none
  | v :: vs, i, h, hl => by
    unfold wipe
    by_cases hv : v = i
    · subst hv
      exact List.getElem?_set_self (by rw [wipe_length]; exact hl)
    · rw [List.getElem?_set_ne hv]
      rcases List.mem_cons.mp h with z | z
      · exact absurd z.symm hv
      · exact wipe_none z hl
theorem wipe_wipe {σ : L2.St} (vs : List Nat) : wipe (wipe σ vs) vs = wipe σ vs := by
  have gen : ∀ ws : List Nat, (∀ i ∈ ws, i ∈ vs) → wipe (wipe σ vs) ws = wipe σ vs := by
    intro ws
    induction ws with
    | nil => intro _; rfl
    | cons w ws ih =>
      intro h
      show (wipe (wipe σ vs) ws).set w none = wipe σ vs
      rw [ih fun i hi => h i (List.mem_cons_of_mem _ hi)]
      by_cases hl : w < σ.length
      · apply List.ext_getElem?
        intro j
        by_cases hj : w = j
        · subst hj
          rw [List.getElem?_set_self (by rw [wipe_length]; exact hl), wipe_none (h w List.mem_cons_self) hl]
        · rw [List.getElem?_set_ne hj]
      · rw [List.set_eq_of_length_le (by rw [wipe_length]; omega)]
  exact gen vs fun _ h => h
structure QGb (X : Cx) (scope : Scope) (tg : Expr) (vs : List Nat) (dg : DG) : Prop where
  ex : ∃ g, (∀ (s : Shared) (H : Hp) (C : Addr) (cl : List (Str × Addr)) (fp : List Addr), PG (X.blk s H scope (compEnvC scope cl C X.env) fp) tg g) ∧ SimG X.K E0 g dg ∧ Blind g vs
theorem qgb_name {X : Cx} {scope : Scope} (i : Nat) {x : Str} {pos : Pos} (hN : X.N.Nodup) (hi : X.N[i]? = some x := by rfl) (hx : ∀ C cl, Loc (compEnvC scope cl C X.env).scope x := by intro _ _; first | exact Or.inl rfl | exact Or.inr rfl) (hf : ∀ C cl, (scope.names.lookup x == some .cell) = true ∨ (compEnvC scope cl C X.env).scope.names.lookup x = some .local := by intro _ _; first | exact .inl rfl | exact .inr rfl) :
    QGb X scope (.Name x pos) [i] (dgName i) := ⟨gName i, fun _ _ C cl _ => pg_name hN hi (hx C cl) (hf C cl), sim_gname, blind_name (by simp)⟩
/-! ### [e for x in xs if t] -/
def lcL (g : DG) (t : DT) (e : DE) (Γ : Gam) : List D → Mu → R (List D)
  | [], μ => .ok [] μ
  | d :: ds, μ => (g d Γ μ).nox.bind fun Γ1 μ1 => (t Γ1 μ1).nox.bind fun b μ2 => match b with
    | false => lcL g t e Γ ds μ2
    | true => (e Γ1 μ2).nox.bind fun y μ3 => (lcL g t e Γ ds μ3).bind fun ys μ4 => .ok (y :: ys) μ4
section
variable {X : Cx} {E : XK} {K : PySem.W.Frag}
theorem Nx.aside {ρ ρ' : List Addr} {F F' H H' : Hp} {dl : Addr} {o : HO} (n : Nx ρ F H ρ' F' H') (h : H dl = none) : Nx ρ F H ρ' F' (upd H' dl o) := by
  refine ⟨n.pre, n.ex, fun a u e hn => ?_, n.newR, n.newF, fun a e => ?_⟩
  · rw [upd_ne (ne_of_none e h)]; exact n.keep a u e hn
  · by_cases ha : a = dl
    · subst ha; exact h
    · rw [upd_ne ha] at e; exact n.there a e
theorem Nx.stays {ρ ρ' : List Addr} {F F' H H' : Hp} {dl : Addr} {o : HO} (n : Nx ρ F H ρ' F' H') (h1 : H dl = some o) (h2 : dl ∉ ρ) (h3 : F dl = none) : H' dl = some o ∧ dl ∉ ρ' ∧ F' dl = none := by
  refine ⟨n.keep dl _ h1 h2, fun z => ?_, ?_⟩
  · rcases n.newR dl z with z | z
    · exact h2 z
    · rw [h1] at z; cases z
  · cases e : F' dl with
    | none => rfl
    | some u =>
      rcases n.newF dl u e with z | z | z
      · rw [h3] at z; cases z
      · rw [h1] at z; cases z
      · exact absurd z h2
/-- what is done with the list that was made -/
def Fin (K : PySem.W.Frag) (fin : List D → Mu → R D) : Prop := ∀ (ρ0 ρ : List Addr) (F0 H0 F H : Hp) (μ : Mu) (dl : Addr) (vs : List V) (ys : List D) (Q : VK), HpOk K ρ μ F H → Nx ρ0 F0 H0 ρ F H → H0 dl = none → H dl = some (.lst vs) → dl ∉ ρ → F dl = none → DnAll K ρ F vs ys → WpR (fin ys μ) (QV K ρ0 F0 H0 Q) (fun _ _ => True) → Q (.ref dl) H
/-- what is made so far at dl, the rest still to come -/
def LcW (K : PySem.W.Frag) (fin : List D → Mu → R D) (dg : DG) (dt : DT) (de : DE) (Γw : Gam) (ds : List D) (Q : VK) (ρ1 : List Addr) (F1 H1 : Hp) (dl : Addr) (i : Nat) (H' : Hp) : Prop :=
  ∃ ρ' F' μ' acc dacc, HpOk K ρ' μ' F' H' ∧ Nx ρ1 F1 H1 ρ' F' H' ∧ H' dl = some (.lst acc) ∧ dl ∉ ρ' ∧ F' dl = none ∧ DnAll K ρ' F' acc dacc ∧ acc.length ≤ i ∧
    WpR (lcL dg dt de Γw (ds.drop i) μ') (fun ys μ2 => WpR (fin (dacc ++ ys) μ2) (QV K ρ1 F1 H1 Q) (fun _ _ => True)) (fun _ _ => True)
/-- the loop of a comprehension, whatever is done with the list at the end -/
theorem lc_sim {wi : TI} {g : TG} {di : DA} {dg : DG} {dt : DT} {de : DE} {vs : List Nat} (fin : List D → Mu → R D) (hi : SimI K E wi di) (hg : SimG K E0 g dg) (hb : Blind g vs) (hfin : Fin K fin) :
    SimE K E (tLc wi g (tT K E0 dt) (tE K E0 de) vs) (fun Γ μ => (di Γ μ).bind fun ds μ1 => if ds.length ≤ 1000000 then (lcL dg dt de (wipeG Γ vs) ds μ1).bind fin else .stk) := by
  intro ρ F H Γ μ σ k s Q h
  refine hi ρ F H Γ μ σ k s _ ((WpR.bind h).mono (fun ds μ1 q => ?_) fun _ _ q => q)
  intro ρ1 F1 H1 J n1 k1 it
  split at q
  · rename_i hlen
    intro dl hD
    have D1 : dl ∉ ρ1 := k1.fresh hD
    have D2 : F1 dl = none := k1.freshF hD
    have q0 : WpR (lcL dg dt de (wipeG Γ vs) ds μ1) (fun ys μ2 => WpR (fin ys μ2) (QV K ρ1 F1 H1 Q) (fun _ _ => True)) (fun _ _ => True) :=
      (WpR.bind q).mono (fun ys μ2 q => q.mono (fun d μ3 q => QV.nx n1 q) fun _ _ _ => trivial) fun _ _ _ => trivial
    refine ⟨fun i m H' => m = ds.length - i ∧ i ≤ ds.length ∧ LcW K fin dg dt de (wipeG Γ vs) ds Q ρ1 F1 H1 dl i H', ⟨ds.length, rfl, Nat.zero_le _, ρ1, F1, μ1, [], [], k1.beside D1 D2, Nx.aside Nx.refl hD, upd_same, D1, D2, .nil, Nat.le_refl _, by rw [List.drop_zero]; exact q0⟩, ?_⟩
    rintro i m H' ⟨rfl, hi, ρ', F', μ', acc, dacc, k', n', hd', dr, df, ra, hla, q'⟩
    by_cases hlt : i < ds.length
    · have e1 : ds.drop i = ds[i] :: ds.drop (i + 1) := List.drop_eq_getElem_cons hlt
      refine .inr ⟨it.go i H' (n'.ex.trans k'.ex) hlt, LcW K fin dg dt de (wipeG Γ vs) ds Q ρ1 F1 H1 dl (i + 1), fun H2 hN => ⟨ds.length - (i + 1), by omega, rfl, hlt, hN⟩, fun x H2 y => ?_⟩
      obtain ⟨d, F2, hd, n2, k2, r2⟩ := it.yld i ρ' F' H' μ' x H2 n'.ex n'.pre k' y hlt
      have ed : ds[i] = d := Option.some.inj ((List.getElem?_eq_getElem hlt).symm.trans hd)
      rw [e1, ed] at q'
      obtain ⟨b1, b2, b3⟩ := n2.stays hd' dr df
      have nn2 := n'.trans n2
      have hs' : Slots K ρ' F' (wipeG Γ vs) (wipe σ vs) := (slots_wipe (s.nx n1) vs).nx n'
      have z := hb x (wipe σ vs) H2 (fun σ2 H2 => tT K E0 dt σ2 H2 fun b H3 => if b = true then tE K E0 de σ2 H3 fun y H4 => ∃ acc, H4 dl = some (.lst acc) ∧ acc.length < sizeLine ∧ LcW K fin dg dt de (wipeG Γ vs) ds Q ρ1 F1 H1 dl (i + 1) (upd H4 dl (.lst (acc ++ [y]))) else LcW K fin dg dt de (wipeG Γ vs) ds Q ρ1 F1 H1 dl (i + 1) H3) (hg ρ' F2 H2 (wipeG Γ vs) μ' (wipe σ vs) x d k2 (hs'.nx n2) r2 _ ((WpR.bind q').nox.mono (fun Γ3 μ3 q3 => by
        intro ρ3 F3 H3 σ3 n3 k3 s3
        have nn3 := nn2.trans n3
        obtain ⟨c1, c2, c3⟩ := n3.stays b1 b2 b3
        refine ⟨ρ3, F3, Γ3, μ3, k3, s3, (WpR.bind q3).nox.mono (fun b μ4 q4 => ?_) fun _ _ q => q⟩
        intro ρ4 F4 H4 n4 k4
        have nn4 := nn3.trans n4
        obtain ⟨d1, d2, d3⟩ := n4.stays c1 c2 c3
        have ra4 := ((ra.nx n2).nx n3).nx n4
        cases b with
        | false => exact ⟨ρ4, F4, μ4, acc, dacc, k4, nn4, d1, d2, d3, ra4, by omega, q4⟩
        | true =>
          refine ⟨ρ4, F4, Γ3, μ4, k4, s3.nx n4, (WpR.bind q4).nox.mono (fun yd μ5 q5 => ?_) fun _ _ q => q⟩
          intro ρ5 F5 H5 yv n5 k5 r5
          obtain ⟨g1, g2, g3⟩ := n5.stays d1 d2 d3
          refine ⟨acc, g1, Nat.lt_of_lt_of_le (show acc.length < 1000000 by omega) million, ρ5, F5, μ5, acc ++ [yv], dacc ++ [yd], k5.beside g2 g3, (nn4.trans n5).aside hD, upd_same, g2, g3, (ra4.nx n5).append (.cons r5 .nil), by rw [List.length_append, List.length_singleton]; omega, ?_⟩
          exact (WpR.bind q5).mono (fun ys μ6 q6 => by rw [List.append_assoc]; exact q6) fun _ _ q => q) fun _ _ q => False.elim (by
          exact q)))
      · rw [wipe_wipe] at z
        exact z
    · have e : i = ds.length := by omega
      subst e
      rw [List.drop_length] at q'
      refine .inl ⟨it.stop _ H' (n'.ex.trans k'.ex) rfl, ?_⟩
      refine hfin ρ1 ρ' F1 H1 F' H' μ' dl acc dacc Q k' n' hD hd' dr df ra ?_
      have q' : WpR (fin (dacc ++ []) μ') _ _ := q'
      rw [List.append_nil] at q'
      exact q'
  · exact False.elim q
def finL (ys : List D) (μ : Mu) : R D := .ok (.lst ys) μ
def finM (ys : List D) (μ : Mu) : R D := .ok (.loc μ.length) (μ ++ [.lst ys])
theorem fin_L : Fin K finL := by
  intro ρ0 ρ F0 H0 F H μ dl vs ys Q k n h0 hd hr hf r q
  have sub : Sub F (upd F dl (.lst vs)) := fun b u e => by
    rw [upd_ne fun z => by subst z; rw [hf] at e; cases e]
    exact e
  have k2 : HpOk K ρ μ (upd F dl (.lst vs)) H := by
    refine ⟨fun b u e => ?_, k.len, k.nd, fun j b u e1 e2 => ?_⟩
    · by_cases hb : b = dl
      · subst hb
        rw [upd_same] at e
        cases e
        exact hd
      · rw [upd_ne hb] at e
        exact k.ex b u e
    · have ne : b ≠ dl := fun z => by subst z; exact hr (List.mem_of_getElem? e1)
      exact (k.mu j b u e1 e2).mono (fun _ _ h => h) sub rfl fun z => by rw [upd_ne ne]; exact z
  refine q ρ (upd F dl (.lst vs)) H (.ref dl) ⟨n.pre, n.ex.trans sub, n.keep, n.newR, fun a o e => ?_, n.there⟩ k2 (.lst upd_same (r.mono (fun _ _ h => h) sub))
  by_cases ha : a = dl
  · subst ha; exact .inr (.inl h0)
  · rw [upd_ne ha] at e; exact n.newF a o e
end
/-- [e for target in iter if ..] -/
def dLcF (fin : List D → Mu → R D) (vs : List Nat) (i : DA) (g : DG) (t : DT) (e : DE) : DE := fun Γ μ => (i Γ μ).bind fun ds μ1 => if ds.length ≤ 1000000 then (lcL g t e (wipeG Γ vs) ds μ1).bind fin else .stk
section
variable {X : Cx} {E : XK}
theorem q_lc {fin : List D → Mu → R D} {elt tg iter : Expr} {ifs : List Expr} {scope : Scope} {pos : Pos} {di : DA} {dg : DG} {dt : DT} {de : DE} (own : List (Str × Nat)) (hfin : Fin X.K fin) (hc : X.calm = true) (hN : X.N.Nodup) (hi : QI X E tg iter di) (ok : BlkOk X.N X.env.scope scope own)
    (hg : QGb X scope tg (own.map (·.2)) dg) (ht : ∀ (s : Shared) (H : Hp) (C : Addr) (cl : List (Str × Addr)) (fp : List Addr), QTs (X.blk s H scope (compEnvC scope cl C X.env) fp) E0 ifs dt)
    (he : ∀ (s : Shared) (H : Hp) (C : Addr) (cl : List (Str × Addr)) (fp : List Addr), QE (X.blk s H scope (compEnvC scope cl C X.env) fp) E0 elt de) (hs : ∀ x, foldedSetIterable iter X.env x = pure x := by intro _; rfl) :
    QE X E (.ListComp elt [⟨tg, iter, ifs, 0⟩] scope pos) (dLcF fin (own.map (·.2)) di dg dt de) := by
  obtain ⟨wi, i1, i2⟩ := hi.ex
  obtain ⟨g, g1, g2, g3⟩ := hg.ex
  exact ⟨_, pe_lc hc hN i1 ok g1 (fun s H C cl fp => (ht s H C cl fp).run) (fun s H C cl fp => (he s H C cl fp).pe) hs, lc_sim fin i2 g2 g3 hfin⟩
/-- name = [..] on one line -/
theorem q_setLc (i : Nat) {fin : List D → Mu → R D} {y : Str} {py spos : Pos} {elt tg iter : Expr} {ifs : List Expr} {scope : Scope} {pos : Pos} {di : DA} {dg : DG} {dt : DT} {de : DE} (own : List (Str × Nat)) (hfin : Fin X.K fin) (hc : X.calm = true) (hN : X.N.Nodup)
    (hi : QI X E tg iter di) (ok : BlkOk X.N X.env.scope scope own)
    (hg : QGb X scope tg (own.map (·.2)) dg) (ht : ∀ (s : Shared) (H : Hp) (C : Addr) (cl : List (Str × Addr)) (fp : List Addr), QTs (X.blk s H scope (compEnvC scope cl C X.env) fp) E0 ifs dt)
    (he : ∀ (s : Shared) (H : Hp) (C : Addr) (cl : List (Str × Addr)) (fp : List Addr), QE (X.blk s H scope (compEnvC scope cl C X.env) fp) E0 elt de)
    (hsw : swapsWith (.ListComp elt [⟨tg, iter, ifs, 0⟩] scope pos) (some (.Name y py)) spos.line X.env = pure true) (hy : X.N[i]? = some y := by rfl) (hyl : X.env.scope.names.lookup y = some .local := by rfl)
    (hs : ∀ x, foldedSetIterable iter X.env x = pure x := by intro _; rfl) :
    QSt X E (.Assign [.Name y py] (.ListComp elt [⟨tg, iter, ifs, 0⟩] scope pos) spos) (dSet i (dLcF fin (own.map (·.2)) di dg dt de)) := by
  obtain ⟨wi, i1, i2⟩ := hi.ex
  obtain ⟨g, g1, g2, g3⟩ := hg.ex
  exact ⟨_, ps_setLc hc hN hy hyl hsw i1 ok g1 (fun s H C cl fp => (ht s H C cl fp).run) (fun s H C cl fp => (he s H C cl fp).pe) hs, sim_set (lc_sim fin i2 g2 g3 hfin)⟩
end
end Ar

set_option Elab.async false
set_option linter.all false
set_option maxRecDepth 100000
set_option maxHeartbeats 2000000
/-! Ar8: enumerate, zip, calls with keywords, methods of lists and texts -/
namespace Ar
open PySem PySem.Spec PyProof.Rows L2

/-! ### enumerate of a tuple -/
section
open Sem (wp)
open AutoSeq1 (wpAny_loadPart')
set_option maxHeartbeats 1000000 in
theorem meets_enumerate_new1 {v : Value} {o : Obj} {H : Heap → Prop} (B : Begins v o H) :
    Meets (Builtin.«enumerate.__new__» ⟨[.type "enumerate", v], []⟩) (fun _ R s => H s.heap ∧
      R (.ok (.ret (.ref (s.heap.push o).objs.size))) { s with heap := (s.heap.push o).push { cls := .type "enumerate", data := .fields #[.none, .bool false, .ref s.heap.objs.size, rawInt 0, .none, .none] } }) :=
  .of_wp fun prog w A R s h => by
    obtain ⟨hp, g, d, tk, os⟩ := s; obtain ⟨h1, h⟩ := h
    have hsub := sub_enumerate
    have q1 : ∀ {A' : Around} {E : Value → Shared → Prop} {Q : Value → Shared → Prop}, Q (.ref hp.objs.size) ⟨hp.push o, g, d, tk, os⟩ → wpAny (model prog w) A' (pyIter v) Q E ⟨hp, g, d, tk, os⟩ :=
      fun q => B.iter prog w _ _ ⟨hp, g, d, tk, os⟩ _ h1 q
    wp_walk using q1
    refine wpAny_stack_any fun st => wpAny_pure ?_
    split
    · rename_i c _ _ _ _ _
      cases (c == Value.type "enumerate")
      · wp_walk using q1
        exact ⟨_, rfl, h⟩
      · wp_walk using q1
        exact ⟨_, rfl, h⟩
    · wp_walk using q1
      exact ⟨_, rfl, h⟩
theorem call_enumerate_B {prog : Program} {w : World} {A : Around} {E : Value → Shared → Prop} {s : Shared} {v : Value} {o : Obj} {H : Heap → Prop} {Q : Value → Shared → Prop} (B : Begins v o H) (h1 : H s.heap)
    (h : ∀ h', IsEnum h' (s.heap.objs.size + 1) s.heap.objs.size 0 .none → h'.get? s.heap.objs.size = some o → h'.objs.size = s.heap.objs.size + 2 →
      (∀ b o, s.heap.get? b = some o → h'.get? b = some o) → Q (.ref (s.heap.objs.size + 1)) { s with heap := h' }) :
    wpAny (model prog w) A (call (.type "enumerate") [v]) Q E s := by
  refine callType_new F.called_enumerate (by decide) (F.typeCall_enumerate_1 _) (F.newCall_enumerate_1 _) (fun obj => F.args_object_init_2 obj _) F.entry_enumerate_new
    (meets_enumerate_new1 B) ⟨h1, ?_⟩
  have hz : (s.heap.push o).objs.size = s.heap.objs.size + 1 := Heap.size_push ..
  show _ ∧ _
  rw [hz]
  have he : IsEnum ((s.heap.push o).push { cls := .type "enumerate", data := .fields #[.none, .bool false, .ref s.heap.objs.size, rawInt 0, .none, .none] }) (s.heap.objs.size + 1) s.heap.objs.size 0 .none := by
    have := Heap.get?_push_size (s.heap.push o) (o := { cls := .type "enumerate", data := .fields #[.none, .bool false, .ref s.heap.objs.size, rawInt 0, .none, .none] }) rfl
    rw [hz] at this; exact this
  refine ⟨⟨_, he, rfl⟩, h _ he (Heap.get?_push_of_some _ (Heap.get?_push_size _ B.free)) (by rw [Heap.size_push, hz]) fun b o x => Heap.get?_push_of_some _ (Heap.get?_push_of_some _ x)⟩
end
def IteT (K : PySem.W.Frag) (a : Addr) : It :=
  ⟨fun i H => ∃ (xs : List V) (x : V), SqT K H a xs ∧ xs[i]? = some x, fun i H v H' => ∃ T x, v = .ref T ∧ H T = none ∧ H' = upd H T (.tup [.int (i : Nat), x]) ∧ ∀ xs, SqT K H a xs → xs[i]? = some x, fun i H => ∃ xs : List V, SqT K H a xs ∧ xs.length ≤ i⟩
theorem turn_enumT {P : Program} {w : World} {K : PySem.W.Frag} {elts : List Expr} {kk : Nat} {tpos : Pos} (a e it : Addr) :
    Turn P w K (.Tuple elts kk tpos) (IteT K a) [e, it] e (fun i h => (∃ old, IsEnum h e it ((i : Nat) : Int) old) ∧ h.IsTupleIter it a i ∧ e ≠ it ∧ a ≠ it ∧ e ≠ a) where
  mem := by simp
  obj := fun i h st b hb => by
    obtain ⟨⟨old, he⟩, ⟨o, ho, hc, hd⟩, _⟩ := st
    have e' : b = e ∨ b = it := by simpa using hb
    rcases e' with z | z
    · rw [z]; exact ⟨_, he, fun v q => nomatch q⟩
    · rw [z]; exact ⟨o, ho, fun v q => by rw [hd] at q; cases q⟩
  keep := fun i h h' st k => let ⟨⟨old, he⟩, hi, hne⟩ := st; ⟨⟨old, k e (by simp) _ he⟩, hi.at fun o q => k it (by simp) o q, hne⟩
  item := by
    intro X hP hw hK hc i pins s σ H E I hf st hg
    subst hP hw hK
    obtain ⟨⟨old, he⟩, hit, hne, hai, hea⟩ := st
    obtain ⟨xs, x, hq, hx⟩ := hg
    obtain ⟨its, rv, p, hz⟩ := I.tuple hq
    obtain ⟨u, hu, ru⟩ := rv.get hx
    have hel : e < s.heap.objs.size := Heap.lt_size he
    have hil : it < s.heap.objs.size := by obtain ⟨_, q, _⟩ := hit; exact Heap.lt_size q
    have hlt : i < its.toArray.size := by
      have := (List.getElem?_eq_some_iff.mp hu).1
      simpa using this
    refine wpAny_pyNext_enum_itemD (n := its.toArray.size) (Draws.tuple (A := X.A.in1) (I.ok.hd hc) it a hai its.toArray) he ⟨hit, p⟩ hlt hne (by simp [hne, hea]) fun y h' tk hy ho hst' hT hsz hk => ?_
    have ey : y = u := by
      have e2 : its.toArray[i]? = some y := hy
      have e3 : its.toArray[i]? = some u := by simpa using hu
      exact Option.some.inj (e2.symm.trans e3)
    subst ey
    refine ⟨_, rfl, wpAny_letOwnedTupleGo_enum (s := { s with heap := h', toks := tk + 1 }) ho fun h'' he' sb => ?_⟩
    have hT2 : h''.get? s.heap.objs.size = some { cls := .type "tuple", data := .seq #[.int i tk, y] } := (sb.2 _ (Nat.ne_of_gt hel)).trans hT
    have new : ObjOk X.prog X.w (upd H s.heap.objs.size (.tup [.int (i : Nat), x])) h'' s.heap.objs.size (.tup [.int (i : Nat), x]) :=
      ⟨by show 2 ≤ sizeLine; decide, [.int i tk, y], .cons ⟨_, rfl⟩ (.cons ru .nil), ⟨_, hT2, rfl, _, rfl⟩⟩
    have I1 : Inv X pins σ (upd H s.heap.objs.size (.tup [.int (i : Nat), x])) { s with heap := h'', toks := tk + 1 } :=
      I.turnedNew (ch := [e, it]) (fun b ob hb q => (sb.2 b (fun z => hb (by simp [z]))).trans (hk b ob (fun z => hb (by simp [z])) (fun z => hb (by simp [z])) q)) hf (Nat.le_refl _) new
    refine ⟨.ref s.heap.objs.size, _, I1, rfl, ⟨_, x, rfl, I.hok.fresh (Nat.le_refl _), rfl, fun ys hy => by rw [I.tuple_inj hy hq]; exact hx⟩, ⟨⟨y, ?_⟩, hst'.1.at fun o q => (sb.2 it (Ne.symm hne)).trans q, hne, hai, hea⟩, fun b hb => ?_⟩
    · have e1 : ((i + 1 : Nat) : Int) = (i : Int) + 1 := by omega
      rw [e1]; exact he'
    · have hb' : b < s.heap.objs.size := by
        have e' : b = e ∨ b = it := by simpa using hb
        rcases e' with z | z
        · rw [z]; exact hel
        · rw [z]; exact hil
      rw [upd_ne (Nat.ne_of_lt hb')]
      exact (hf b hb).1
  done := by
    intro X hP hw hK hc i pins s σ H E I hf st hg
    subst hP hw hK
    obtain ⟨⟨old, he⟩, hit, hne, hai, hea⟩ := st
    obtain ⟨xs, hq, hx⟩ := hg
    obtain ⟨its, rv, p, hz⟩ := I.tuple hq
    obtain ⟨f0, f1, f2, f3, f4, f5⟩ := hf it (by simp)
    have hl := rv.length
    -- the iterator may stand behind the end: then as at the end
    have hh : X.A.in1.handled = none := I.ok.hd hc
    have hT : s.TypeIs (.ref e) "enumerate" := ⟨_, he, rfl⟩
    unfold pyNext
    refine wpAny_bind (wpAny_attempt (wpAny_callSpecial?_slot (name := Str.ofString "__next__") hT F.slot_enumerate_next
      (wpAny_call_entry F.slot_enumerate_next hT F.entry_enumerate_next ?_ (F.args_enumerate_next_1 _))))
    show wpAny _ _ (field (.ref e) 2 >>= _) _ _ _
    refine wpAny_bind (wpAny_field he rfl (x := .ref it) rfl ?_)
    refine wpAny_bind (wpAny_nextOf_tuple_end hh hit p (by simp; omega) fun h' y he' hy => ?_)
    obtain ⟨o, ho, hc2⟩ := hy
    refine wpAny_bind (wpAny_isInstance (T := "StopIteration") (b := true) ⟨o, ho, hc2⟩ isSubtype_stop ?_)
    exact wpAny_pure ⟨rfl, I.turned (t' := s.toks) (fun b o hb q => he' b o hb q) f0 f1 f3 f4 f5⟩
  self := fun A i s Q E st h => let ⟨⟨_, he⟩, _⟩ := st; wpAny_pyIter_enum he h
def iEnumT (K : PySem.W.Frag) (ta : TA) : TI := fun σ H R => ta σ H fun vs H1 => ∃ a xs, vs = [.ref a] ∧ SqT K H1 a xs ∧ R (IteT K a) H1
theorem pi_enumT {X : Cx} {e : Expr} {ta : TA} {p pos tpos : Pos} {elts : List Expr} {kk : Nat} (hg : Gl X "enumerate") (hm : X.mg "enumerate" = none) (ha : PA X [e] ta) (hs : starEach [e] X.env = [(false, eval e X.env)] := by rfl) :
    PI X (.Tuple elts kk tpos) (.Call (.Name "enumerate" p) [e] [] pos) (iEnumT X.K ta) := by
  refine ⟨fun pins s σ H R I h => ?_⟩
  refine Call_ (ld_blt I hg hm boot_enumerate (PyProof.Rows.callWith_type1 (thn (ha.run pos pins s σ H _ I h) fun us s1 ⟨vs, H1, I1, r1, q1⟩ => ?_) hs rfl))
  obtain ⟨a, xs, ex, hq, q⟩ := q1
  subst ex
  cases r1 with
  | cons r rr =>
    cases rr
    cases r
    obtain ⟨its, rv, p', hz⟩ := I1.tuple hq
    have ha : a < s1.heap.objs.size := by obtain ⟨o, ho, _⟩ := id p'; exact Heap.lt_size ho
    refine call_enumerate_B (begins_tuple a its.toArray) p' fun h' he hit hsz hk => wpAny_pyIter_enum he ?_
    have I2 : Inv X pins σ H1 { s1 with heap := h' } := I1.kept (t' := s1.toks) hk
    refine ⟨s1.heap.objs.size + 1, [s1.heap.objs.size + 1, s1.heap.objs.size], _, _, H1, rfl, I2, turn_enumT a (s1.heap.objs.size + 1) s1.heap.objs.size, ⟨⟨.none, he⟩, ⟨_, hit, rfl, rfl⟩, Nat.succ_ne_self _, Nat.ne_of_lt ha, Nat.ne_of_gt (Nat.lt_succ_of_lt ha)⟩, fun b hb => ?_, q⟩
    have e' : b = s1.heap.objs.size + 1 ∨ b = s1.heap.objs.size := by simpa using hb
    have hle : s1.heap.objs.size ≤ b := by
      rcases e' with z | z
      · rw [z]; exact Nat.le_add_right _ _
      · rw [z]; exact Nat.le_refl _
    exact I1.fpOk hle (I1.hok.fresh hle)

/-! ### enumerate, zip by data -/
def enumD : Nat → List D → List D
  | _, [] => []
  | k, d :: ds => .tup [.int (k : Nat), d] :: enumD (k + 1) ds
theorem enumD_len : ∀ (k : Nat) (ds : List D), (enumD k ds).length = ds.length
  | _, [] => rfl
  | k, d :: ds => congrArg Nat.succ (enumD_len (k + 1) ds)
theorem enumD_get : ∀ (k i : Nat) (ds : List D) (d : D), ds[i]? = some d → (enumD k ds)[i]? = some (.tup [.int ((k + i : Nat) : Int), d])
  | k, 0, x :: ds, d, h => by simp at h; subst h; simp [enumD]
  | k, i + 1, x :: ds, d, h => by
    have := enumD_get (k + 1) i ds d (by simpa using h)
    show (enumD (k + 1) ds)[i]? = _
    rw [this, show k + 1 + i = k + (i + 1) by omega]
  | k, i, [], d, h => by simp at h
def seqIE (d : D) (μ : Mu) : R (List D) := match d with
  | .str _ => .stk
  | d => seqI d μ
def diEnum (a : DA) : DA := fun Γ μ => (a Γ μ).bind fun xs μ1 => match xs with
  | [x] => (seqIE x μ1).bind fun ds μ2 => .ok (enumD 0 ds) μ2
  | _ => .stk
def zipD : List D → List D → List D
  | x :: xs, y :: ys => .tup [x, y] :: zipD xs ys
  | _, _ => []
/-- the list of a value: places are frozen -/
def seqIL (d : D) (μ : Mu) : R (List D) := match d with
  | .lst ds => .ok ds μ
  | .loc n => match μ[n]? with
    | some (.lst ds) => .ok ds (μ.set n (.frz ds))
    | some (.frz ds) => .ok ds μ
    | _ => .stk
  | _ => .stk
def diZip (a : DA) : DA := fun Γ μ => (a Γ μ).bind fun xs μ1 => match xs with
  | [.tup ds, .tup es] => .ok (zipD ds es) μ1
  | [x, y] => (seqIL x μ1).bind fun ds μ2 => (seqIL y μ2).bind fun es μ3 => .ok (zipD ds es) μ3
  | _ => .stk
section
variable {X : Cx} {E : XK} {K : PySem.W.Frag} {e e2 tg : Expr} {de : DE} {da : DA} {pos : Pos}
/-- a list's items come frozen -/
theorem seqIL_ok {ρ : List Addr} {F H : Hp} {μ μ' : Mu} {v : V} {d : D} {ds : List D} (k : HpOk K ρ μ F H) (r : Dn K ρ F v d) (h : seqIL d μ = .ok ds μ') : ∃ a vs F', v = .ref a ∧ HpOk K ρ μ' F' H ∧ Nx ρ F H ρ F' H ∧ SqL K F' a vs ∧ DnAll K ρ F' vs ds := by
  unfold seqIL at h
  split at h
  · cases h
    cases r with
    | lst h1 h2 => exact ⟨_, _, F, rfl, k, Nx.refl, SqL.of h1, h2⟩
  · rename_i n
    cases r with
    | @loc a _ e1 =>
      split at h
      · rename_i ds em
        cases h
        obtain ⟨hf, vs, ev, rv⟩ := k.mu n a _ e1 em
        obtain ⟨k2, n2⟩ := k.freeze e1 hf ev rv
        exact ⟨a, vs, _, rfl, k2, n2, SqL.of upd_same, rv.nx n2⟩
      · rename_i ds em
        cases h
        obtain ⟨vs, ev, rv⟩ := k.mu n a _ e1 em
        exact ⟨a, vs, F, rfl, k, Nx.refl, SqL.of ev, rv⟩
      · cases h
  · cases h
theorem itok_enumL {ρ : List Addr} {F : Hp} {a : Addr} {vs : List V} {ds : List D} (h : SqL K F a vs) (r : DnAll K ρ F vs ds) : ItOk K ρ F (Ite K a) (enumD 0 ds) where
  go := fun i H s hi => by
    have hl := r.length
    rw [enumD_len] at hi
    exact ⟨vs, vs[i]'(by omega), s.sqL h, List.getElem?_eq_getElem _⟩
  stop := fun i H s hi0 => by have hi := Nat.le_of_eq hi0.symm; rw [enumD_len] at hi; exact ⟨vs, s.sqL h, by rw [r.length]; exact hi⟩
  yld := fun i ρ' F' H μ' x H' s p k y hi => by
    obtain ⟨T, z, e1, hT, e2, y⟩ := y
    subst e1 e2
    have q := y vs (k.ex.sqL (s.sqL h))
    obtain ⟨d, hd, rd⟩ := r.getV q
    have q2 := enumD_get 0 i ds d hd
    rw [Nat.zero_add] at q2
    obtain ⟨n2, k2, r2⟩ := new_tup (vs := [.int (i : Nat), z]) (ds := [.int (i : Nat), d]) k (.cons (.int _) (.cons (rd.mono p s) .nil)) hT
    exact ⟨_, _, q2, n2, k2, r2⟩
theorem itok_enumT {ρ : List Addr} {F : Hp} {a : Addr} {vs : List V} {ds : List D} (h : SqT K F a vs) (r : DnAll K ρ F vs ds) : ItOk K ρ F (IteT K a) (enumD 0 ds) where
  go := fun i H s hi => by
    have hl := r.length
    rw [enumD_len] at hi
    exact ⟨vs, vs[i]'(by omega), s.sqT h, List.getElem?_eq_getElem _⟩
  stop := fun i H s hi0 => by have hi := Nat.le_of_eq hi0.symm; rw [enumD_len] at hi; exact ⟨vs, s.sqT h, by rw [r.length]; exact hi⟩
  yld := fun i ρ' F' H μ' x H' s p k y hi => by
    obtain ⟨T, z, e1, hT, e2, y⟩ := y
    subst e1 e2
    have q := y vs (k.ex.sqT (s.sqT h))
    obtain ⟨d, hd, rd⟩ := r.getV q
    have q2 := enumD_get 0 i ds d hd
    rw [Nat.zero_add] at q2
    obtain ⟨n2, k2, r2⟩ := new_tup (vs := [.int (i : Nat), z]) (ds := [.int (i : Nat), d]) k (.cons (.int _) (.cons (rd.mono p s) .nil)) hT
    exact ⟨_, _, q2, n2, k2, r2⟩
theorem qi_enum {elts : List Expr} {kk : Nat} {tpos p : Pos} (hm : X.mg "enumerate" = none) (ha : QA X E [e] da) (hg : Gl X "enumerate" := by rfl) (hs : starEach [e] X.env = [(false, eval e X.env)] := by rfl) :
    QI X E (.Tuple elts kk tpos) (.Call (.Name "enumerate" p) [e] [] pos) (diEnum da) := by
  obtain ⟨ta, a1, a2⟩ := ha.ex
  refine ⟨_, PI.or (pi_enum hg hm a1 hs) (pi_enumT hg hm a1 hs), ?_⟩
  intro ρ F H Γ μ σ k s Rr h
  unfold diEnum at h
  cases hr : da Γ μ with
  | stk => rw [hr] at h; exact False.elim h
  | exc x μ1 =>
    rw [hr] at h
    refine .inl (a2 ρ F H Γ μ σ k s _ ?_)
    rw [hr]
    exact h
  | ok xs μ1 =>
    rw [hr] at h
    cases xs with
    | nil => exact False.elim h
    | cons x xs =>
      cases xs with
      | cons _ _ => exact False.elim h
      | nil =>
        have h : WpR ((seqIE x μ1).bind fun ds μ2 => .ok (enumD 0 ds) μ2) _ _ := h
        cases x with
        | tup ds =>
          refine .inr (a2 ρ F H Γ μ σ k s _ ?_)
          rw [hr]
          intro ρ1 F1 H1 vs n1 k1 r1
          cases r1 with
          | cons r1 r2 =>
            cases r2
            cases r1 with
            | tup h1 h2 => exact ⟨_, _, rfl, k1.ex.sqT h1, h ρ1 F1 H1 _ n1 k1 (itok_enumT h1 h2)⟩
        | lst ds =>
          refine .inl (a2 ρ F H Γ μ σ k s _ ?_)
          rw [hr]
          intro ρ1 F1 H1 vs n1 k1 r1
          cases r1 with
          | cons r1 r2 =>
            cases r2
            cases r1 with
            | lst h1 h2 => exact ⟨_, _, rfl, .inl (Rd.of (k1.ex _ _ h1)), h ρ1 F1 H1 _ n1 k1 (itok_enumL (SqL.of h1) h2)⟩
        | scr ds =>
          refine .inl (a2 ρ F H Γ μ σ k s _ ?_)
          rw [hr]
          intro ρ1 F1 H1 vs n1 k1 r1
          cases r1 with
          | cons r1 r2 =>
            cases r2
            cases r1 with
            | scr h1 h2 => exact ⟨_, _, rfl, k1.ex.sqL h1, h ρ1 F1 H1 _ n1 k1 (itok_enumL h1 h2)⟩
        | loc n =>
          refine .inl (a2 ρ F H Γ μ σ k s _ ?_)
          rw [hr]
          intro ρ1 F1 H1 vs n1 k1 r1
          cases r1 with
          | cons r1 r2 =>
            cases r2
            have e3 : seqIE (.loc n) μ1 = seqIL (.loc n) μ1 := rfl
            rw [e3] at h
            cases hs : seqIL (.loc n) μ1 with
            | stk => rw [hs] at h; exact False.elim h
            | exc _ _ => unfold seqIL at hs; simp only at hs; split at hs <;> cases hs
            | ok ds μ2 =>
              rw [hs] at h
              obtain ⟨a, vs, F2, rfl, k2, n2, h1, h2⟩ := seqIL_ok k1 r1 hs
              exact ⟨a, vs, rfl, k2.ex.sqL h1, h ρ1 F2 H1 _ (n1.trans n2) k2 (itok_enumL h1 h2)⟩
        | non => exact False.elim h
        | bl _ => exact False.elim h
        | int _ => exact False.elim h
        | str _ => exact False.elim h
        | ins _ _ => exact False.elim h
        | slt _ _ => exact False.elim h
        | dK _ => exact False.elim h
        | glo _ => exact False.elim h
        | ty _ => exact False.elim h
        | adr => exact False.elim h
        | clo => exact False.elim h
        | exn => exact False.elim h
end
end Ar

set_option Elab.async false
set_option linter.all false
set_option maxRecDepth 100000
set_option maxHeartbeats 2000000
/-! Ar9: calls with keywords, methods of lists and texts -/
namespace Ar
open PySem PySem.Spec PyProof.Rows L2

/-! ### calls with keywords -/
def pick {α : Type} (pm : List Nat) (xs : List α) : List α := pm.filterMap (xs[·]?)
theorem pick_vals {xs : List V} {us : List Value} (h : Vals xs us) : ∀ pm : List Nat, Vals (pick pm xs) (pick pm us)
  | [] => .nil
  | i :: pm => by
    unfold pick
    rw [List.filterMap_cons, List.filterMap_cons]
    cases e : xs[i]? with
    | none => rw [h.none_of e]; exact pick_vals h pm
    | some x =>
      obtain ⟨u, e2, r⟩ := h.get e
      rw [e2]
      exact .cons r (pick_vals h pm)
theorem pick_dn {K : PySem.W.Frag} {ρ : List Addr} {F : Hp} {xs : List V} {ds : List D} (h : DnAll K ρ F xs ds) : ∀ pm : List Nat, DnAll K ρ F (pick pm xs) (pick pm ds)
  | [] => .nil
  | i :: pm => by
    unfold pick
    rw [List.filterMap_cons, List.filterMap_cons]
    cases e : ds[i]? with
    | none =>
      have e2 : xs[i]? = none := by
        rw [List.getElem?_eq_none_iff] at e ⊢
        rw [h.length]
        exact e
      rw [e2]
      exact pick_dn h pm
    | some d =>
      obtain ⟨v, e2, r⟩ := h.get e
      rw [e2]
      exact .cons r (pick_dn h pm)
structure FnK (P : Program) (w : World) (K : PySem.W.Frag) (mg : Str → Option Value) (base : Heap) (x : Str) (k : Nat) (n : Nat) (ks : List Str) (pm : List Nat) (m : Fn) : Prop where
  ex : ∃ f fd ps, mg x = some (.ref f) ∧ PySem.W.keepIn K (.ref f) = true ∧ KBn K fd ps n ks (fun us ws => pick pm (us ++ ws)) (fun vs zs => pick pm (vs ++ zs)) ∧ Pm P w K mg base (L2.CX P w) k f fd ps (spM K m)
theorem kbn_of {K : PySem.W.Frag} {x qual : Str} {params : Arguments} {body : List Stmt} {scope : Scope} {f : Addr} {fd : FuncData} {ps : List Str} (F : FunD K x qual params body scope [] [] f fd) (n : Nat) (ks : List Str) (pm : List Nat)
    (h : ∀ (kV doc pm' : Value) (an : Option Addr) (cdv ct : Value) (us ws : List Value), us.length = n → ws.length = ks.length → bindArgs (PySem.W.fnOf x qual params body scope .none kV doc pm' an cdv ct) ⟨us, ks.zip ws⟩ = pure (ps.zip (pick pm (us ++ ws)))) :
    KBn K fd ps n ks (fun us ws => pick pm (us ++ ws)) (fun vs zs => pick pm (vs ++ zs)) := by
  obtain ⟨oc, od, dV, kV, doc, pm', an, cdv, ct, osl, rfl, lk, hcd, hD, hK⟩ := F.ex
  rcases hD with ⟨_, rfl⟩ | ⟨e, _⟩
  · exact ⟨fun s us ws X l1 l2 => .of_eq (h kV doc pm' an cdv ct us ws l1 l2), fun r1 r2 => pick_vals (r1.append r2) pm⟩
  · exact absurd rfl e
structure QK (X : Cx) (E : XK) (kws : List Keyword) (da : DA) : Prop where
  ex : ∃ ta, PK X kws ta ∧ SimA X.K E ta da
def dCallK (n m : Nat) (pm : List Nat) (f : Fn) (a k : DA) : DE := fun Γ μ => (a Γ μ).bind fun xs μ1 => (k Γ μ1).bind fun zs μ2 => if xs.length = n ∧ zs.length = m then f (pick pm (xs ++ zs)) μ2 else .stk
section
variable {X : Cx} {E : XK} {e : Expr} {es : List Expr} {kws : List Keyword} {de : DE} {da dk : DA} {pos p kpos : Pos} {nm : Option Str}
theorem qk_nil : QK X E [] daNil := ⟨_, pk_nil, sim_nil⟩
theorem qk_cons (ha : QE X E e de) (hr : QK X E kws dk) : QK X E (⟨nm, e, kpos⟩ :: kws) (daCons de dk) := by
  obtain ⟨te, a1, a2⟩ := ha.ex
  obtain ⟨ta, b1, b2⟩ := hr.ex
  exact ⟨_, pk_cons a1 b1, sim_cons a2 b2⟩
theorem sim_callK {K : PySem.W.Frag} {n m : Nat} {pm : List Nat} {f : Fn} {ta tk : TA} (ha : SimA K E ta da) (hk : SimA K E tk dk) : SimE K E (tCallN n m (spM K f) (fun vs zs => pick pm (vs ++ zs)) E ta tk) (dCallK n m pm f da dk) := by
  intro ρ F H Γ μ σ k s Q h
  refine ha ρ F H Γ μ σ k s _ ((WpR.bind h).mono (fun xs μ1 q => ?_) fun _ _ q => q)
  intro ρ1 F1 H1 vs n1 k1 r1
  refine hk ρ1 F1 H1 Γ μ1 σ k1 (s.nx n1) _ ((WpR.bind q).mono (fun zs μ2 q => ?_) fun _ _ q => XP.nx n1 q)
  intro ρ2 F2 H2 ws n2 k2 r2
  have nn := n1.trans n2
  split at q
  · rename_i hl
    exact ⟨by rw [r1.length]; exact hl.1, by rw [r2.length]; exact hl.2, ρ2, F2, μ2, _, k2, pick_dn ((r1.nx n2).append r2) pm, q.mono (fun d μ2 q => QV.nx nn q) fun _ _ q => XP.nx nn q⟩
  · exact False.elim q
theorem q_callK0 {x : Str} {j mm : Nat} {ks : List Str} {pm : List Nat} {m : Fn} (G : FnK X.prog X.w X.K X.mg X.base x j 0 ks pm m) (hr : RoomG j X.A) (hp : Passes (L2.CX X.prog X.w) X E) (hk : QK X E kws dk) (hg : Gl X x := by rfl)
    (hall : (backToKw pos (keywordEach kws X.env)).all (·.1.isSome) = true := by rfl) (hks : (backToKw pos (keywordEach kws X.env)).filterMap (·.1) = ks := by rfl) (hmm : ks.length = mm := by rfl)
    (hdb : (x == ("__debug__" : Str)) = false := by decide) (hpl : ((backTo pos (starEach [] X.env)).any (·.1) || (backToKw pos (keywordEach kws X.env)).any (·.1.isNone)) = false := by rfl) :
    QE X E (.Call (.Name x p) [] kws pos) (dCallK 0 mm pm m daNil dk) := by
  subst hmm
  obtain ⟨f, fd, ps, h1, h2, h3, h4⟩ := G.ex
  obtain ⟨tk, b1, b2⟩ := hk.ex
  exact ⟨_, pe_callGN0 h4 hr hg h1 h2 h3 hp b1 hall hks hdb hpl, sim_callK sim_nil b2⟩
end

/-! ### methods of lists that change them -/
def placeL (μ : Mu) (d : D) : Option (Nat × List D) := match d with
  | .loc n => match μ[n]? with
    | some (.lst ds) => some (n, ds)
    | _ => none
  | _ => none
theorem placeL_ok {K : PySem.W.Frag} {ρ : List Addr} {F H : Hp} {μ : Mu} {v : V} {d : D} {n : Nat} {ds : List D} (k : HpOk K ρ μ F H) (r : Dn K ρ F v d) (h : placeL μ d = some (n, ds)) : ∃ a vs, v = .ref a ∧ ρ[n]? = some a ∧ μ[n]? = some (.lst ds) ∧ F a = none ∧ H a = some (.lst vs) ∧ DnAll K ρ F vs ds := by
  unfold placeL at h
  split at h
  · rename_i m
    split at h
    · rename_i ds' em
      cases h
      cases r with
      | @loc a _ e =>
        obtain ⟨hf, vs, e1, e2⟩ := k.mu n a _ e em
        exact ⟨a, vs, rfl, e, em, hf, e1, e2⟩
    · cases h
  · cases h
def dAppend (o e : DE) : DE := fun Γ μ => (o Γ μ).bind fun x μ1 => match placeL μ1 x with
  | some _ => (e Γ μ1).bind fun d μ2 => match placeL μ2 x with
    | some (n, ds) => if ds.length < 1000000 then .ok .non (μ2.set n (.lst (ds ++ [d]))) else .stk
    | none => .stk
  | none => .stk
def dExtend (o e : DE) : DE := fun Γ μ => (o Γ μ).bind fun x μ1 => match placeL μ1 x with
  | some _ => (e Γ μ1).bind fun d μ2 => match placeL μ2 x, seqL μ2 d with
    | some (n, ds), some es => if ds.length + es.length ≤ 1000000 then .ok .non (μ2.set n (.lst (ds ++ es))) else .stk
    | _, _ => .stk
  | none => .stk
section
variable {X : Cx} {E : XK} {o e : Expr} {do_ de : DE} {apos cpos : Pos}
theorem q_append (ho : QE X E o do_) (he : QE X E e de)
    (hbase : attributeBase o "append" X.env (eval o X.env) = eval o X.env := by rfl)
    (hfew : ((backTo cpos (starEach (e :: []) X.env)).all (fun x => !x.1) && (backToKw cpos (keywordEach [] X.env)).all (fun x => x.1.isSome)
      && decide ((e :: []).length + ([] : List Keyword).length + (if ([] : List Keyword).isEmpty then 0 else 1) < 30)) = true := by rfl)
    (hline : (apos.endLine == cpos.line) = true := by rfl) (hs : starEach (e :: []) X.env = (false, eval e X.env) :: starEach [] X.env := by rfl) (hplain : (backTo cpos (starEach [] X.env)).any (·.1) = false := by rfl) :
    QE X E (.Call (.Attribute o "append" apos) [e] [] cpos) (dAppend do_ de) := by
  obtain ⟨to, o1, o2⟩ := ho.ex
  obtain ⟨te, e1, e2⟩ := he.ex
  refine ⟨_, pe_bm PySem.F.plainAttrs_list PySem.F.slot_list_append PySem.F.type_list_append mt_append o1 (pa_cons e1 pa_nil hs) hbase hfew hline hs hplain, ?_⟩
  intro ρ F H Γ μ σ k s Q h
  refine o2 ρ F H Γ μ σ k s _ ((WpR.bind h).mono (fun x μ1 q => ?_) fun _ _ q => q)
  intro ρ1 F1 H1 v n1 k1 r1
  split at q
  · rename_i nd hp
    obtain ⟨a, vs, rfl, _, _, _, hv, _⟩ := placeL_ok k1 r1 hp
    refine ⟨.inl ⟨rfl, vs, SqL.of hv⟩, ?_⟩
    refine e2 ρ1 F1 H1 Γ μ1 σ k1 (s.nx n1) _ ((WpR.bind q).mono (fun d μ2 q => ?_) fun _ _ q => XP.nx n1 q)
    intro ρ2 F2 H2 w n2 k2 r2
    split at q
    · rename_i n ds hp2
      split at q
      · rename_i hl
        obtain ⟨a', vs2, e3, er, em, hf, hv2, rv2⟩ := placeL_ok k2 (r1.nx n2) hp2
        cases e3
        have k3 := k2.write (o := .lst (vs2 ++ [w])) (m := .lst (ds ++ [d])) er hf ⟨hf, _, upd_same, rv2.append (.cons r2 .nil)⟩
        have n3 := Nx.write_ (o := .lst (vs2 ++ [w])) (F := F2) (H := H2) er hf (by rw [hv2]; exact Option.some_ne_none _)
        exact ⟨a, vs2, w, rfl, rfl, hv2, by rw [rv2.length]; exact lt_million hl, q ρ2 F2 _ _ ((n1.trans n2).trans n3) k3 .non⟩
      · exact False.elim q
    · exact False.elim q
  · exact False.elim q
/-! ### texts -/
def strsOf : List D → Option (List Str)
  | [] => some []
  | .str x :: ds => (strsOf ds).map (x :: ·)
  | _ => none
theorem strsOf_ok {K : PySem.W.Frag} {ρ : List Addr} {F : Hp} : ∀ {ds : List D} {vs : List V} {ns : List Str}, strsOf ds = some ns → DnAll K ρ F vs ds → vs = ns.map V.str
  | [], _, _, h, r => by cases h; cases r; rfl
  | .str i :: ds, _, _, h, r => by
    cases r with
    | cons r1 r2 =>
      have h : (strsOf ds).map (i :: ·) = some _ := h
      cases e : strsOf ds with
      | none => rw [e] at h; cases h
      | some ns =>
        rw [e] at h
        cases h
        cases r1
        rw [strsOf_ok e r2]
        rfl
  | .non :: _, _, _, h, _ => by cases h
  | .bl _ :: _, _, _, h, _ => by cases h
  | .int _ :: _, _, _, h, _ => by cases h
  | .tup _ :: _, _, _, h, _ => by cases h
  | .lst _ :: _, _, _, h, _ => by cases h
  | .scr _ :: _, _, _, h, _ => by cases h
  | .ins _ _ :: _, _, _, h, _ => by cases h
  | .slt _ _ :: _, _, _, h, _ => by cases h
  | .dK _ :: _, _, _, h, _ => by cases h
  | .loc _ :: _, _, _, h, _ => by cases h
  | .glo _ :: _, _, _, h, _ => by cases h
  | .ty _ :: _, _, _, h, _ => by cases h
/-- sep.join(list | tuple of texts) -/
def fJoin : Mu → D → D → Option D := fun μ x y => match x with
  | .str a => match seqA μ y with
    | some ds => match strsOf ds with
      | some ys => if (ys.map (·.length)).sum + ys.length * a.length ≤ 1000000 then some (.str (Txt.join a ys)) else none
      | none => none
    | none => none
  | _ => none
def isStr : D → Bool
  | .str _ => true
  | _ => false
def dStrM (f : Mu → D → D → Option D) (o e : DE) : DE := fun Γ μ => (o Γ μ).bind fun x μ1 => match isStr x with
  | true => (e Γ μ1).bind fun y μ2 => R.of μ2 (f μ2 x y)
  | false => .stk
def StrS (K : PySem.W.Frag) (r : V → List V → Hp → VK → Prop) (f : Mu → D → D → Option D) : Prop := ∀ (ρ : List Addr) (F H : Hp) (μ : Mu) (v w : V) (d e z : D), HpOk K ρ μ F H → Dn K ρ F v d → Dn K ρ F w e → f μ d e = some z → ∀ Q : VK, QV K ρ F H Q z μ → r v [w] H Q
theorem sim_m1 {K : PySem.W.Frag} {r : V → List V → Hp → VK → Prop} {f : Mu → D → D → Option D} {to te : TE} (hr : StrS K r f) (ho : SimE K E to do_) (he : SimE K E te de) : SimE K E (tM1 r to te) (dStrM f do_ de) := by
  intro ρ F H Γ μ σ k s Q h
  refine ho ρ F H Γ μ σ k s _ ((WpR.bind h).mono (fun x μ1 q => ?_) fun _ _ q => q)
  intro ρ1 F1 H1 v n1 k1 r1
  cases r1 with
  | str a =>
    refine ⟨⟨a, rfl⟩, ?_⟩
    refine he ρ1 F1 H1 Γ μ1 σ k1 (s.nx n1) _ ((WpR.bind (show WpR ((de Γ μ1).bind fun y μ2 => R.of μ2 (f μ2 (.str a) y)) _ _ from q)).mono (fun y μ2 q => ?_) fun _ _ q => XP.nx n1 q)
    intro ρ2 F2 H2 w n2 k2 r2
    obtain ⟨z, ez, q⟩ := q.of
    exact hr ρ2 F2 H2 μ2 _ w _ y z k2 (.str a) r2 ez Q (QV.nx (n1.trans n2) q)
  | _ => exact False.elim q
theorem q_join (ho : QE X E o do_) (he : QE X E e de) (hs : starEach [e] X.env = [(false, eval e X.env)] := by rfl) (hbase : attributeBase o "join" X.env (eval o X.env) = eval o X.env := by rfl) (hline : (apos.endLine == cpos.line) = true := by rfl) :
    QE X E (.Call (.Attribute o "join" apos) [e] [] cpos) (dStrM fJoin do_ de) := by
  obtain ⟨to, o1, o2⟩ := ho.ex
  obtain ⟨te, e1, e2⟩ := he.ex
  refine ⟨_, pe_join o1 e1 hs hbase hline, sim_m1 ?_ o2 e2⟩
  intro ρ F H μ v w d e z k rv rw' ez Q q
  unfold fJoin at ez
  split at ez
  · rename_i a
    cases hs : seqA μ e with
    | none => rw [hs] at ez; cases ez
    | some ds =>
      cases hy : strsOf ds with
      | none => simp only [hs, hy] at ez; cases ez
      | some ys =>
        simp only [hs, hy] at ez
        have ez : (if (ys.map (·.length)).sum + ys.length * a.length ≤ 1000000 then some (D.str (Txt.join a ys)) else none) = some z := ez
        split at ez
        · rename_i hl
          cases ez
          cases rv
          obtain ⟨p, vs, rfl, h1, h2⟩ := seqA_ok k rw' hs
          rw [strsOf_ok hy h2] at h1
          exact ⟨a, p, ys, rfl, rfl, h1, Nat.le_trans hl (by decide), q ρ F H _ Nx.refl k (.str _)⟩
        · cases ez
  · cases ez
end
end Ar

set_option Elab.async false
set_option linter.all false
set_option maxRecDepth 100000
set_option maxHeartbeats 2000000
/-! Ar10: the head: a Hook with facts of one's own; the law's end -/
namespace Ar
open PySem PySem.Spec PyProof.Rows L2

def obsX (fa : List He.Fa) (fn : List He.DefD) (ex : PySem.W.Frag → Bool) (K : PySem.W.Frag) : He.AlD := (((fa.all fun f => f.ok K) && fn.all fun d => d.ok K) && ex K, fn.map fun d => He.fnW K d.at_)
def SaysX (fa : List He.Fa) (fn : List He.DefD) (ex : PySem.W.Frag → Bool) (K : PySem.W.Frag) : Prop := obsX fa fn ex K = He.valD fn
theorem SaysX.both {fa : List He.Fa} {fn : List He.DefD} {ex : PySem.W.Frag → Bool} {K : PySem.W.Frag} (c : SaysX fa fn ex K) : He.SaysD fa fn K ∧ ex K = true := by
  unfold SaysX obsX He.valD at c
  have c1 := congrArg (fun z : He.AlD => z.1) c
  have c2 := congrArg (fun z : He.AlD => z.2) c
  obtain ⟨c3, c4⟩ := He.ba c1
  exact ⟨Prod.ext c3 c2, c4⟩
/-- a module's name as data -/
structure GloC (K : PySem.W.Frag) (mg : Str → Option Value) (x : Str) (d : D) : Prop where
  ex : ∃ v u, mg x = some u ∧ RelV v u ∧ ∀ ρ F, Dn K ρ F v d
theorem GloC.v {X : Cx} {x : Str} {d : D} (h : GloC X.K X.mg x d) : GloV X x d := ⟨h.ex⟩
def dvD : He.Dv → Option D
  | .non => some .non
  | .bl b => some (.bl b)
  | .int i => some (.int i)
  | .str x => some (.str x)
  | .ty n => some (.ty n)
  | .glo x => some (.glo x)
  | _ => none
theorem dvD_ok {K : PySem.W.Frag} {x : He.Dv} {d : D} (h : dvD x = some d) (ρ : List Addr) (F : Hp) : Dn K ρ F (x.v K) d := by
  cases x with
  | non => cases h; exact .non
  | bl b => cases h; exact .bl b
  | int i => cases h; exact .int i
  | str x => cases h; exact .str x
  | ty n => cases h; exact .ty n
  | glo x => cases h; exact .glo x
  | byt b => cases h
  | flt b => cases h
  | adr p => cases h
def dvDs : List He.Dv → Option (List D)
  | [] => some []
  | x :: xs => match dvD x, dvDs xs with
    | some d, some ds => some (d :: ds)
    | _, _ => none
theorem dvDs_ok {K : PySem.W.Frag} (ρ : List Addr) (F : Hp) : ∀ {xs : List He.Dv} {ds : List D}, dvDs xs = some ds → DnAll K ρ F (xs.map (He.Dv.v K)) ds
  | [], _, h => by cases h; exact .nil
  | x :: xs, ds, h => by
    unfold dvDs at h
    split at h
    · rename_i d ds' e1 e2
      cases h
      exact .cons (dvD_ok e1 ρ F) (dvDs_ok ρ F e2)
    · cases h
theorem glo_tup {K : PySem.W.Frag} {h : Heap} {mg : Str → Option Value} {x : Str} {vs : List He.Dv} {ds : List D} (X : K.In h) (G : h.Ns mainGlobals mg) (c1 : (He.Fa.glo x).ok K = true) (c2 : He.tupB K x vs = true) (e : dvDs vs = some ds) : GloC K mg x (.tup ds) :=
  ⟨.ref (He.ga K x), .ref (He.ga K x), He.glo_ok X G c1, rfl, fun ρ F => .tup (He.tupB_ok c2 F) (dvDs_ok ρ F e)⟩
theorem glo_int {K : PySem.W.Frag} {h : Heap} {mg : Str → Option Value} {x : Str} {i : Int} (X : K.In h) (G : h.Ns mainGlobals mg) (c1 : (He.Fa.int x i).ok K = true) : GloC K mg x (.int i) := by
  obtain ⟨t, e⟩ := He.int_ok X G c1
  exact ⟨.int i, _, e, ⟨t, rfl⟩, fun ρ F => .int i⟩
/-- the law's last step: what the mirror says of the script -/
theorem law_end {K : PySem.W.Frag} {m : Fn} {n : Nat} (hm : ∀ ns : List Int, ns.length ≤ n → ∃ μ, m [.scr (ns.map .int)] [] = .ok (.bl true) μ) (H : Hp) (a : Addr) (ns : List Int) (hl : ns.length ≤ n) (hS : SqL K H a (ns.map V.int)) : spM K m [.ref a] H (fun v _ => v = .bl true) fun _ _ _ => False := by
  obtain ⟨μ, e⟩ := hm ns hl
  have hd : ∀ ns : List Int, DnAll K [] H (ns.map V.int) (ns.map D.int) := by
    intro ns
    induction ns with
    | nil => exact .nil
    | cons i ns ih => exact .cons (.int i) ih
  refine ⟨[], H, [], [.scr (ns.map .int)], ⟨Sub.refl _, rfl, List.nodup_nil, fun n a o e => by simp at e⟩, .cons (.scr hS (hd ns)) .nil, ?_⟩
  rw [e]
  intro ρ F H' v _ _ r
  cases r
  rfl
theorem cx_end {P : Program} {w : World} (H : Hp) (s : Shared) (e : Value) (s' : Shared) (h : L2.CX P w [] H s (fun _ _ _ => False) e s') : False := by
  obtain ⟨a, B, H', cls, d, _, _, _, _, _, _, _, z⟩ := h
  exact z
theorem walk {l : PySem.W.OpenLaw} {n k : Nat} {q : Program} {loose : List Str} {XP : (Str → Option Value) → Heap → Prop} {YP : World → Heap → Prop} {d : DefRec} {x : Str}
    (hn : l.most = some n) (hn2 : n ≤ sizeLine) (hdf : d.params.defaults = []) (hr : RoomG k callerA)
    (F : ∀ (w : World) (mg : Str → Option Value) (fa : Addr) (h : Heap), YP w h → h.Ns mainGlobals mg → mg d.name = some (.ref fa) →
      ∃ (K : PySem.W.Frag) (fd : FuncData) (m : Fn), K.In h ∧ (∀ (s : Shared) (u : Value), BindsTo s fd ⟨[u], []⟩ [(x, u)]) ∧
        (∀ ns : List Int, ns.length ≤ n → ∃ μ, m [.scr (ns.map .int)] [] = .ok (.bl true) μ) ∧
        ∀ base : Heap, K.In base → base.Ns mainGlobals mg → Pm l.prog w K mg base (L2.CX l.prog w) k fa fd [x] (spM K m)) :
    PySem.W.WalkO q loose XP YP l.row.toRowW d [] (fun f vs => PySem.call f vs) := by
  refine Att.attach_call hn hdf fun w s₀ s₁ mg mb fa o pm cd doc a vs ns G Y ho hd hcd hmg hobj hints hlen hg => ?_
  obtain ⟨K, fd, m, KX, hb, hm, hF⟩ := F w mg fa _ Y G.T.g hmg
  exact law_callG KX G.T.g G.T.b G.T.builtins G.T.nolimit hg hobj hints (Nat.le_trans hlen hn2) hr hF hb (fun H hO hS => law_end hm H a ns hlen hS) fun H e s' => cx_end H s₁ e s'
/-- FnG from the def's datum -/
theorem fng {P : Program} {w : World} {K : PySem.W.Frag} {mg : Str → Option Value} {base : Heap} {x qual : Str} {params : Arguments} {body : List Stmt} {scope : Scope} {f : Addr} {fd : FuncData} {ps : List Str} {k : Nat} {m : Fn} (F : FunD K x qual params body scope [] [] f fd) (g : mg x = some (.ref f))
    (hb : ∀ (kV doc pm : Value) (an : Option Addr) (cdv ct : Value) (us : List Value), us.length = ps.length → bindArgs (PySem.W.fnOf x qual params body scope Value.none kV doc pm an cdv ct) { pos := us } = pure (ps.zip us))
    (ok : Pm P w K mg base (L2.CX P w) k f fd ps (spM K m)) : FnG P w K mg base x k m := ⟨f, fd, ps, g, F.kp, F.bindsN hb, ok⟩
theorem fnk {P : Program} {w : World} {K : PySem.W.Frag} {mg : Str → Option Value} {base : Heap} {x qual : Str} {params : Arguments} {body : List Stmt} {scope : Scope} {f : Addr} {fd : FuncData} {ps : List Str} {k : Nat} {m : Fn} (F : FunD K x qual params body scope [] [] f fd) (g : mg x = some (.ref f)) (n : Nat) (ks : List Str) (pm : List Nat)
    (h : ∀ (kV doc pm' : Value) (an : Option Addr) (cdv ct : Value) (us ws : List Value), us.length = n → ws.length = ks.length → bindArgs (PySem.W.fnOf x qual params body scope .none kV doc pm' an cdv ct) ⟨us, ks.zip ws⟩ = pure (ps.zip (pick pm (us ++ ws))))
    (ok : Pm P w K mg base (L2.CX P w) k f fd ps (spM K m)) : FnK P w K mg base x k n ks pm m := ⟨f, fd, ps, g, F.kp, kbn_of F n ks pm h, ok⟩
theorem blk {N : List Str} {sc scope : Scope} {own : List (Str × Nat)} (h1 : scope.kind = ScopeKind.function) (h2 : (scope.names.all fun y => decide (List.lookup y.1 scope.names = some y.2)) = true) (h3 : (own.all fun p => decide (N[p.2]? = some p.1)) = true)
    (h4 : (scope.names.all fun y => !decide (y.2 = NameKind.free) || (decide (List.lookup y.1 sc.names = some NameKind.cell) || decide (List.lookup y.1 sc.names = some NameKind.free))) = true)
    (h5 : (scope.names.all fun y => !(decide (y.2 = NameKind.local) || decide (y.2 = NameKind.cell)) || ((own.map (·.1)).contains y.1 || !N.contains y.1)) = true) : BlkOk N sc scope own := by
  refine ⟨h1, fun y hy => of_decide_eq_true (List.all_eq_true.mp h2 y hy), fun p hp => of_decide_eq_true (List.all_eq_true.mp h3 p hp), fun y hy hf => ?_, fun y hy hf => ?_⟩
  · have := List.all_eq_true.mp h4 y hy
    simp only [hf, decide_true, Bool.not_true, Bool.false_or, Bool.or_eq_true, decide_eq_true_eq] at this
    exact this
  · have := List.all_eq_true.mp h5 y hy
    have e : (decide (y.2 = NameKind.local) || decide (y.2 = NameKind.cell)) = true := by
      rcases hf with h | h <;> simp [h]
    rw [e] at this
    simp only [Bool.not_true, Bool.false_or, Bool.or_eq_true, Bool.not_eq_true', List.contains_iff_mem] at this
    rcases this with h | h
    · exact .inl h
    · refine .inr fun z => ?_
      have : N.contains y.1 = true := by simpa using z
      rw [h] at this
      cases this
end Ar

set_option Elab.async false
set_option linter.all false
set_option maxRecDepth 100000
set_option maxHeartbeats 2000000
/-! Ar11: what a combinator gives: rules that rewrite -/
namespace Ar
open PySem PySem.Spec PyProof.Rows L2

/-- what is wished of an exception; nothing is let if nothing is said -/
class ExW where
  X : ExK → Mu → Prop
instance (priority := low) xp0 : ExW := ⟨fun _ _ => False⟩
def Ok [x : ExW] {α : Type} (r : R α) (Q : α → Mu → Prop) : Prop := match r with
  | .ok a μ => Q a μ
  | .exc e μ => x.X e μ
  | .stk => False
def OkO {α : Type} (o : Option α) (Q : α → Prop) : Prop := match o with
  | some a => Q a
  | none => False
def OkS [x : ExW] (r : RS) (N B C : Gam → Mu → Prop) (T : D → Mu → Prop) : Prop := match r with
  | .nx Γ μ => N Γ μ
  | .bk Γ μ => B Γ μ
  | .ct Γ μ => C Γ μ
  | .rt d μ => T d μ
  | .exc e μ => x.X e μ
  | .stk => False
def SetG (Γ : Gam) (i : Nat) (d : D) (P : Gam → Prop) : Prop := P (Γ.set i (some d))
theorem setg0 {x : Option D} {G : Gam} {d : D} {P : Gam → Prop} : SetG (x :: G) 0 d P = P (some d :: G) := rfl
theorem setgS {x : Option D} {G : Gam} {i : Nat} {d : D} {P : Gam → Prop} : SetG (x :: G) (i + 1) d P = SetG G i d fun G' => P (x :: G') := rfl
def UnsetG (Γ : Gam) (i : Nat) (P : Gam → Prop) : Prop := P (Γ.set i none)
theorem unsetg0 {x : Option D} {G : Gam} {P : Gam → Prop} : UnsetG (x :: G) 0 P = P (none :: G) := rfl
theorem unsetgS {x : Option D} {G : Gam} {i : Nat} {P : Gam → Prop} : UnsetG (x :: G) (i + 1) P = UnsetG G i fun G' => P (x :: G') := rfl
def WipeG (Γ : Gam) (vs : List Nat) (P : Gam → Prop) : Prop := P (wipeG Γ vs)
theorem wipeg0 {Γ : Gam} {P : Gam → Prop} : WipeG Γ [] P = P Γ := rfl
theorem wipegS {Γ : Gam} {v : Nat} {vs : List Nat} {P : Gam → Prop} : WipeG Γ (v :: vs) P = WipeG Γ vs fun G => UnsetG G v P := rfl
def InitG (ds : List D) (M : Nat) (P : Gam → Prop) : Prop := P (ds.map some ++ List.replicate (M - ds.length) none)
theorem initg0 {P : Gam → Prop} : InitG [] 0 P = P [] := rfl
theorem initgN {M : Nat} {P : Gam → Prop} : InitG [] (M + 1) P = InitG [] M fun G => P (none :: G) := rfl
theorem initgS {d : D} {ds : List D} {M : Nat} {P : Gam → Prop} : InitG (d :: ds) (M + 1) P = InitG ds M fun G => P (some d :: G) := by
  unfold InitG
  rw [List.map_cons, List.length_cons, Nat.add_sub_add_right, List.cons_append]
def LenIs {α : Type} (ds : List α) (n : Nat) (P : Prop) : Prop := ds.length = n ∧ P
theorem lenis0 {α : Type} {P : Prop} : LenIs ([] : List α) 0 P = P := by unfold LenIs; simp
theorem lenisS {α : Type} {d : α} {ds : List α} {n : Nat} {P : Prop} : LenIs (d :: ds) (n + 1) P = LenIs ds n P := by unfold LenIs; simp
def LenLe {α : Type} (ds : List α) (n : Nat) (P : Prop) : Prop := ds.length ≤ n ∧ P
theorem lenle0 {α : Type} {n : Nat} {P : Prop} : LenLe ([] : List α) n P = P := by unfold LenLe; simp
theorem lenleS {α : Type} {d : α} {ds : List α} {n : Nat} {P : Prop} : LenLe (d :: ds) (n + 1) P = LenLe ds n P := by unfold LenLe; simp
theorem Ok.mono [ExW] {α : Type} {r : R α} {Q Q' : α → Mu → Prop} (h : Ok r Q) (i : ∀ a μ, Q a μ → Q' a μ) : Ok r Q' := by
  cases r with
  | ok a μ => exact i _ _ h
  | _ => exact h
theorem OkS.mono [ExW] {r : RS} {N B C N' B' C' : Gam → Mu → Prop} {T T' : D → Mu → Prop} (h : OkS r N B C T) (hn : ∀ a μ, N a μ → N' a μ) (hb : ∀ a μ, B a μ → B' a μ) (hc : ∀ a μ, C a μ → C' a μ) (ht : ∀ a μ, T a μ → T' a μ) : OkS r N' B' C' T' := by
  cases r with
  | nx a μ => exact hn _ _ h
  | bk a μ => exact hb _ _ h
  | ct a μ => exact hc _ _ h
  | rt a μ => exact ht _ _ h
  | exc _ _ => exact h
  | stk => exact h
/-- where nothing is raised, nothing is wished of it -/
theorem Ok.up [x : ExW] {α : Type} {r : R α} {Q : α → Mu → Prop} (h : @Ok xp0 α r Q) : Ok r Q := by
  cases r with
  | ok a μ => exact h
  | exc e μ => exact False.elim h
  | stk => exact h
theorem OkS.up [x : ExW] {r : RS} {N B C : Gam → Mu → Prop} {T : D → Mu → Prop} (h : @OkS xp0 r N B C T) : OkS r N B C T := by
  cases r with
  | exc e μ => exact False.elim h
  | _ => exact h
section
variable [x_ : ExW] {α β : Type} {Γ : Gam} {μ : Mu} {Q : D → Mu → Prop} {QB : Bool → Mu → Prop} {QL : List D → Mu → Prop} {QG_ : Gam → Mu → Prop} {QO_ : Option Int → Mu → Prop} {N B C : Gam → Mu → Prop} {T : D → Mu → Prop}
theorem ok_ok {a : α} {P : α → Mu → Prop} : Ok (.ok a μ) P = P a μ := rfl
theorem ok_stk {P : α → Mu → Prop} : Ok (.stk : R α) P = False := rfl
theorem ok_exc {e : ExK} {P : α → Mu → Prop} : Ok (.exc e μ : R α) P = x_.X e μ := rfl
theorem ok_bind {r : R α} {f : α → Mu → R β} {P : β → Mu → Prop} : Ok (r.bind f) P = Ok r fun a μ1 => Ok (f a μ1) P := by cases r <;> rfl
theorem ok_nox {r : R α} {P : α → Mu → Prop} : Ok r.nox P = @Ok xp0 α r P := by cases r <;> rfl
theorem ok_of {o : Option α} {P : α → Mu → Prop} : Ok (R.of μ o) P = OkO o fun a => P a μ := by cases o <;> rfl
theorem oko_some {a : α} {P : α → Prop} : OkO (some a) P = P a := rfl
theorem oko_none {P : α → Prop} : OkO (none : Option α) P = False := rfl
theorem oko_ite {c : Prop} [Decidable c] {a : α} {P : α → Prop} : OkO (if c then some a else none) P = (c ∧ P a) := by
  by_cases h : c
  · rw [if_pos h]; exact propext ⟨fun z => ⟨h, z⟩, fun z => z.2⟩
  · rw [if_neg h]; exact propext ⟨fun z => False.elim z, fun z => h z.1⟩
theorem oko_map {f : α → β} {o : Option α} {P : β → Prop} : OkO (o.map f) P = OkO o fun a => P (f a) := by cases o <;> rfl
theorem ok_ite {c : Prop} [Decidable c] {r : R α} {P : α → Mu → Prop} : Ok (if c then r else .stk) P = (c ∧ Ok r P) := by
  by_cases h : c
  · rw [if_pos h]; exact propext ⟨fun z => ⟨h, z⟩, fun z => z.2⟩
  · rw [if_neg h]; exact propext ⟨fun z => False.elim z, fun z => h z.1⟩
theorem oks_nx : OkS (.nx Γ μ) N B C T = N Γ μ := rfl
theorem oks_stk : OkS .stk N B C T = False := rfl
theorem oks_exc {e : ExK} : OkS (.exc e μ) N B C T = x_.X e μ := rfl
theorem oks_bk : OkS (.bk Γ μ) N B C T = B Γ μ := rfl
theorem oks_ct : OkS (.ct Γ μ) N B C T = C Γ μ := rfl
theorem oks_rt {d : D} : OkS (.rt d μ) N B C T = T d μ := rfl
theorem oks_then {r : R α} {f : α → Mu → RS} : OkS (r.thenS f) N B C T = Ok r fun a μ1 => OkS (f a μ1) N B C T := by cases r <;> rfl
theorem oks_thenN {r : RS} {f : Gam → Mu → RS} : OkS (r.thenN f) N B C T = OkS r (fun Γ μ => OkS (f Γ μ) N B C T) B C T := by cases r <;> rfl
/-! expressions -/
theorem ok_var0 {d : D} {G : Gam} : Ok (dVar 0 (some d :: G) μ) Q = Q d μ := rfl
theorem ok_varS {i : Nat} {x : Option D} {G : Gam} : Ok (dVar (i + 1) (x :: G) μ) Q = Ok (dVar i G μ) Q := rfl
theorem ok_c {d : D} : Ok (dC d Γ μ) Q = Q d μ := rfl
theorem ok_bin {f : Mu → D → D → Option D} {a b : DE} : Ok (dBin f a b Γ μ) Q = Ok (a Γ μ) fun x μ1 => Ok (b Γ μ1) fun y μ2 => OkO (f μ2 x y) fun z => Q z μ2 := by
  unfold dBin; simp only [ok_bind, ok_of]
theorem ok_un {f : Mu → D → Option D} {a : DE} : Ok (dUn f a Γ μ) Q = Ok (a Γ μ) fun x μ1 => OkO (f μ1 x) fun z => Q z μ1 := by
  unfold dUn; simp only [ok_bind, ok_of]
def OkB (d : D) (P : Bool → Prop) : Prop := match d with
  | .bl b => P b
  | _ => False
theorem okb {b : Bool} {P : Bool → Prop} : OkB (.bl b) P = P b := rfl
theorem ok_test {a : DE} : Ok (dTest a Γ μ) QB = Ok (a Γ μ) fun x μ1 => OkB x fun b => QB b μ1 := by
  unfold dTest; rw [ok_bind]; congr 1; funext x μ1; cases x <;> rfl
theorem ok_tru {a : DE} : Ok (dTru a Γ μ) QB = Ok (a Γ μ) fun x μ1 => OkO (truD μ1 x) fun b => QB b μ1 := by
  unfold dTru; simp only [ok_bind, ok_of]
theorem ok_and {t u : DT} : Ok (dAnd t u Γ μ) QB = Ok (t Γ μ) fun c μ1 => if c = true then Ok (u Γ μ1) QB else QB false μ1 := by
  unfold dAnd; rw [ok_bind]; congr 1; funext c μ1; cases c <;> rfl
theorem ok_or {t u : DT} : Ok (dOr t u Γ μ) QB = Ok (t Γ μ) fun c μ1 => if c = true then QB true μ1 else Ok (u Γ μ1) QB := by
  unfold dOr; rw [ok_bind]; congr 1; funext c μ1; cases c <;> rfl
theorem ok_not {t : DT} : Ok (dNot t Γ μ) QB = Ok (t Γ μ) fun c μ1 => QB (!c) μ1 := by
  unfold dNot; simp only [ok_bind, ok_ok]
theorem ok_andV {x y : DE} : Ok (dAndV x y Γ μ) Q = Ok (x Γ μ) fun c μ1 => OkB c fun b => if b = true then Ok (y Γ μ1) Q else Q (.bl false) μ1 := by
  unfold dAndV; rw [ok_bind]; congr 1; funext c μ1
  cases c with
  | bl b => cases b <;> rfl
  | _ => rfl
theorem ok_orV {x y : DE} : Ok (dOrV x y Γ μ) Q = Ok (x Γ μ) fun c μ1 => OkB c fun b => if b = true then Q (.bl true) μ1 else Ok (y Γ μ1) Q := by
  unfold dOrV; rw [ok_bind]; congr 1; funext c μ1
  cases c with
  | bl b => cases b <;> rfl
  | _ => rfl
theorem ok_notV {x : DE} : Ok (dNotV x Γ μ) Q = Ok (x Γ μ) fun c μ1 => OkB c fun b => Q (.bl (!b)) μ1 := by
  unfold dNotV; rw [ok_bind]; congr 1; funext c μ1
  cases c with
  | bl b => cases b <;> rfl
  | _ => rfl
theorem ok_if {t : DT} {x y : DE} : Ok (dIf t x y Γ μ) Q = Ok (t Γ μ) fun c μ1 => if c = true then Ok (x Γ μ1) Q else Ok (y Γ μ1) Q := by
  unfold dIf; rw [ok_bind]; congr 1; funext c μ1; cases c <;> rfl
theorem ok_nil : Ok (daNil Γ μ) QL = QL [] μ := rfl
theorem ok_cons {e : DE} {r : DA} : Ok (daCons e r Γ μ) QL = Ok (e Γ μ) fun x μ1 => Ok (r Γ μ1) fun xs μ2 => QL (x :: xs) μ2 := by
  unfold daCons; simp only [ok_bind, ok_ok]
theorem ok_tup {a : DA} : Ok (dTup a Γ μ) Q = Ok (a Γ μ) fun xs μ1 => LenLe xs 1000000 (Q (.tup xs) μ1) := by
  unfold dTup LenLe; simp only [ok_bind, ok_ite, ok_ok]
theorem ok_lst {a : DA} : Ok (dLst a Γ μ) Q = Ok (a Γ μ) fun xs μ1 => LenLe xs 1000000 (Q (.lst xs) μ1) := by
  unfold dLst LenLe; simp only [ok_bind, ok_ite, ok_ok]
theorem ok_lstM {a : DA} : Ok (dLstM a Γ μ) Q = Ok (a Γ μ) fun xs μ1 => LenLe xs 1000000 (Q (.loc μ1.length) (μ1 ++ [.lst xs])) := by
  unfold dLstM LenLe; simp only [ok_bind, ok_ite, ok_ok]
theorem ok_fn {f : Mu → List D → Option D} {a : DA} : Ok (dFn f a Γ μ) Q = Ok (a Γ μ) fun ds μ1 => OkO (f μ1 ds) fun z => Q z μ1 := by
  unfold dFn; simp only [ok_bind, ok_of]
theorem ok_call {m : Fn} {a : DA} : Ok (dCall m a Γ μ) Q = Ok (a Γ μ) fun ds μ1 => Ok (m ds μ1) Q := by
  unfold dCall; simp only [ok_bind]
theorem ok_callK {n m : Nat} {pm : List Nat} {f : Fn} {a k : DA} : Ok (dCallK n m pm f a k Γ μ) Q = Ok (a Γ μ) fun xs μ1 => Ok (k Γ μ1) fun zs μ2 => LenIs xs n (LenIs zs m (Ok (f (pick pm (xs ++ zs)) μ2) Q)) := by
  unfold dCallK LenIs; simp only [ok_bind, ok_ite, and_assoc]
theorem ok_noPart : Ok (dNoPart Γ μ) QO_ = QO_ none μ := rfl
def OkI (d : D) (P : Int → Prop) : Prop := match d with
  | .int b => P b
  | _ => False
theorem oki {i : Int} {P : Int → Prop} : OkI (.int i) P = P i := rfl
theorem ok_part {a : DE} : Ok (dPart a Γ μ) QO_ = Ok (a Γ μ) fun x μ1 => OkI x fun i => QO_ (some i) μ1 := by
  unfold dPart; rw [ok_bind]; congr 1; funext x μ1; cases x <;> rfl
theorem ok_sl {a : DE} {l h : DO} : Ok (dSl a l h Γ μ) Q = Ok (a Γ μ) fun x μ1 => Ok (l Γ μ1) fun lo μ2 => Ok (h Γ μ2) fun hi μ3 => OkO (fSl μ3 x lo hi) fun z => Q z μ3 := by
  unfold dSl; simp only [ok_bind, ok_of]
/-! statements -/
theorem oks_next : OkS (dsNext Γ μ) N B C T = N Γ μ := rfl
theorem oks_seq {s t : DS} : OkS (dSeq s t Γ μ) N B C T = OkS (s Γ μ) (fun Γ μ => OkS (t Γ μ) N B C T) B C T := by unfold dSeq; rw [oks_thenN]
theorem oks_drop {e : DE} : OkS (dDrop e Γ μ) N B C T = Ok (e Γ μ) fun _ μ1 => N Γ μ1 := by unfold dDrop; simp only [oks_then, oks_nx]
theorem oks_ret {e : DE} : OkS (dRet e Γ μ) N B C T = Ok (e Γ μ) T := by unfold dRet; simp only [oks_then, oks_rt]
theorem oks_retN : OkS (dRetN Γ μ) N B C T = T .non μ := rfl
theorem oks_break : OkS (dBreak Γ μ) N B C T = B Γ μ := rfl
theorem oks_cont : OkS (dCont Γ μ) N B C T = C Γ μ := rfl
theorem oks_never : OkS (dNever Γ μ) N B C T = False := rfl
theorem oks_if {c : DT} {s t : DS} : OkS (dIfS c s t Γ μ) N B C T = Ok (c Γ μ) fun b μ1 => if b = true then OkS (s Γ μ1) N B C T else OkS (t Γ μ1) N B C T := by
  unfold dIfS; rw [oks_then]; congr 1; funext b μ1; cases b <;> rfl
theorem oks_asg {e : DE} {g : DG} : OkS (dAsg e g Γ μ) N B C T = Ok (e Γ μ) fun d μ1 => Ok (g d Γ μ1) N := by unfold dAsg; simp only [oks_then, oks_nx]
theorem oks_set {i : Nat} {e : DE} : OkS (dSet i e Γ μ) N B C T = Ok (e Γ μ) fun d μ1 => SetG Γ i d fun G => N G μ1 := by unfold dSet SetG; simp only [oks_then, oks_nx]
theorem ok_gName {i : Nat} {d : D} : Ok (dgName i d Γ μ) N = SetG Γ i d fun G => N G μ := rfl
theorem ok_gNil : Ok (dgNil [] Γ μ) N = N Γ μ := rfl
theorem ok_gCons {g : DG} {gs : DGs} {d : D} {r : List D} : Ok (dgCons g gs (d :: r) Γ μ) N = Ok (g d Γ μ) fun Γ1 μ1 => Ok (gs r Γ1 μ1) N := by unfold dgCons; simp only [ok_bind]
theorem ok_gTup {n : Nat} {gs : DGs} {ds : List D} : Ok (dgTup n gs (.tup ds) Γ μ) N = LenIs ds n (Ok (gs ds Γ μ) N) := by unfold dgTup LenIs; simp only [ok_ite]
theorem ok_gSub {o i : DE} {d : D} : Ok (dgSub o i d Γ μ) N = Ok (o Γ μ) fun x μ1 => Ok (i Γ μ1) fun y μ2 => OkO (placeL μ2 x) fun p => OkI y fun j => OkO (ixN p.2.length j) fun m => N Γ (μ2.set p.1 (.lst (p.2.set m d))) := by
  unfold dgSub; simp only [ok_bind]
  congr 1; funext x μ1; congr 1; funext y μ2
  unfold placeL
  split
  · rename_i n j
    cases h : μ2[n]? with
    | none => simp [ok_stk, OkO, h]
    | some o =>
      cases o with
      | lst ds =>
        simp only [h, oko_some, oki]
        cases ixN ds.length j <;> rfl
      | _ => simp [ok_stk, OkO, h]
  · rename_i hx
    rw [ok_stk]
    cases x with
    | loc n =>
      cases y with
      | int j => exact absurd rfl (hx n j rfl)
      | _ =>
        cases h : μ2[n]? with
        | none => simp [OkO, h]
        | some o => cases o <;> simp [OkO, OkI, h]
    | _ => rfl
def OkL2 (ds : List D) (P : D → D → Prop) : Prop := match ds with
  | [x, y] => P x y
  | _ => False
def OkL3 (ds : List D) (P : D → D → D → Prop) : Prop := match ds with
  | [x, y, z] => P x y z
  | _ => False
theorem okl2 {x y : D} {P : D → D → Prop} : OkL2 [x, y] P = P x y := rfl
theorem okl3 {x y z : D} {P : D → D → D → Prop} : OkL3 [x, y, z] P = P x y z := rfl
theorem oks_par {i j : Nat} {a : DA} : OkS (dPar i j a Γ μ) N B C T = Ok (a Γ μ) fun ds μ1 => OkL2 ds fun x y => SetG Γ i x fun G => SetG G j y fun G => N G μ1 := by
  unfold dPar; rw [oks_then]; congr 1; funext ds μ1
  rcases ds with _ | ⟨x, _ | ⟨y, _ | ⟨z, r⟩⟩⟩ <;> rfl
theorem oks_par3 {i j l : Nat} {a : DA} : OkS (dPar3 i j l a Γ μ) N B C T = Ok (a Γ μ) fun ds μ1 => OkL3 ds fun x y z => SetG Γ i x fun G => SetG G j y fun G => SetG G l z fun G => N G μ1 := by
  unfold dPar3; rw [oks_then]; congr 1; funext ds μ1
  rcases ds with _ | ⟨x, _ | ⟨y, _ | ⟨z, _ | ⟨u, r⟩⟩⟩⟩ <;> rfl
def OkV (Γ : Gam) (i : Nat) (P : D → Prop) : Prop := match Γ[i]? with
  | some (some x) => P x
  | _ => False
theorem okv0 {d : D} {G : Gam} {P : D → Prop} : OkV (some d :: G) 0 P = P d := rfl
theorem okvS {x : Option D} {G : Gam} {i : Nat} {P : D → Prop} : OkV (x :: G) (i + 1) P = OkV G i P := rfl
theorem oks_aug {i : Nat} {f : Mu → D → D → Option D} {a : DE} : OkS (dAug i f a Γ μ) N B C T = OkV Γ i fun x => Ok (a Γ μ) fun y μ1 => OkO (f μ1 x y) fun z => SetG Γ i z fun G => N G μ1 := by
  unfold dAug OkV SetG
  cases h : Γ[i]? with
  | none => rfl
  | some o => cases o <;> simp only [oks_then, ok_of, oks_nx, oks_stk]
theorem ok_append {o e : DE} : Ok (dAppend o e Γ μ) Q = Ok (o Γ μ) fun x μ1 => OkO (placeL μ1 x) fun _ => Ok (e Γ μ1) fun d μ2 => OkO (placeL μ2 x) fun p => p.2.length < 1000000 ∧ Q .non (μ2.set p.1 (.lst (p.2 ++ [d]))) := by
  unfold dAppend; rw [ok_bind]; congr 1; funext x μ1
  cases placeL μ1 x with
  | none => rfl
  | some p =>
    simp only [ok_bind, oko_some]
    congr 1; funext d μ2
    cases placeL μ2 x with
    | none => rfl
    | some p => simp only [ok_ite, ok_ok, oko_some]
theorem ok_strM {f : Mu → D → D → Option D} {o e : DE} : Ok (dStrM f o e Γ μ) Q = Ok (o Γ μ) fun x μ1 => (isStr x = true ∧ Ok (e Γ μ1) fun y μ2 => OkO (f μ2 x y) fun z => Q z μ2) := by
  unfold dStrM; rw [ok_bind]; congr 1; funext x μ1
  cases isStr x with
  | true => simp only [ok_bind, ok_of, true_and]
  | false => simp [ok_stk]
/-! defs -/
theorem ok_def {n M : Nat} {b : DS} {ds : List D} : Ok (dDef n M b ds μ) Q = LenIs ds n (InitG ds M fun G => OkS (b G μ) (fun _ μ => Q .non μ) (fun _ _ => False) (fun _ _ => False) Q) := by
  unfold dDef LenIs InitG; rw [ok_ite]; congr 1
  show Ok (b (ds.map some ++ List.replicate (M - ds.length) none) μ).fin Q = OkS (b (ds.map some ++ List.replicate (M - ds.length) none) μ) _ _ _ _
  generalize b (ds.map some ++ List.replicate (M - ds.length) none) μ = r
  cases r <;> rfl
/-! walks -/
theorem ok_iSeq {e : DE} : Ok (diSeq e Γ μ) QL = Ok (e Γ μ) fun d μ1 => Ok (seqI d μ1) QL := by unfold diSeq; rw [ok_bind]
def OkI1 (ds : List D) (P : Int → Prop) : Prop := match ds with
  | [.int j] => P j
  | _ => False
def OkI2 (ds : List D) (P : Int → Int → Prop) : Prop := match ds with
  | [.int i, .int j] => P i j
  | _ => False
theorem oki1 {i : Int} {P : Int → Prop} : OkI1 [.int i] P = P i := rfl
theorem oki2 {i j : Int} {P : Int → Int → Prop} : OkI2 [.int i, .int j] P = P i j := rfl
theorem ok_range1 {a : DA} : Ok (diRange1 a Γ μ) QL = Ok (a Γ μ) fun ds μ1 => OkI1 ds fun j => j.natAbs < 2 ^ 61 ∧ QL (rngD 0 j.toNat) μ1 := by
  unfold diRange1; rw [ok_bind]; congr 1; funext ds μ1
  rcases ds with _ | ⟨x, _ | ⟨y, r⟩⟩
  · rfl
  · cases x <;> first | rfl | exact ok_ite
  · cases x <;> rfl
theorem ok_range2 {a : DA} : Ok (diRange2 a Γ μ) QL = Ok (a Γ μ) fun ds μ1 => OkI2 ds fun i j => (i.natAbs < 2 ^ 61 ∧ j.natAbs < 2 ^ 61) ∧ QL (rngD i (j - i).toNat) μ1 := by
  unfold diRange2; rw [ok_bind]; congr 1; funext ds μ1
  rcases ds with _ | ⟨x, _ | ⟨y, _ | ⟨z, r⟩⟩⟩
  · rfl
  · cases x <;> rfl
  · cases x <;> cases y <;> first | rfl | exact ok_ite
  · cases x <;> cases y <;> rfl
def OkL1 (ds : List D) (P : D → Prop) : Prop := match ds with
  | [x] => P x
  | _ => False
theorem okl1 {x : D} {P : D → Prop} : OkL1 [x] P = P x := rfl
theorem ok_enum {a : DA} : Ok (diEnum a Γ μ) QL = Ok (a Γ μ) fun xs μ1 => OkL1 xs fun x => Ok (seqIE x μ1) fun ds μ2 => QL (enumD 0 ds) μ2 := by
  unfold diEnum; rw [ok_bind]; congr 1; funext ds μ1
  rcases ds with _ | ⟨x, _ | ⟨y, r⟩⟩
  · rfl
  · show Ok ((seqIE x μ1).bind _) _ = _
    rw [ok_bind]; rfl
  · rfl
theorem oks_for {i : DA} {g : DG} {b : DS} : OkS (dFor i g b Γ μ) N B C T = Ok (i Γ μ) fun ds μ1 => OkS (forL g b ds Γ μ1) N B C T := by unfold dFor; rw [oks_then]
theorem oks_forNil {g : DG} {b : DS} : OkS (forL g b [] Γ μ) N B C T = N Γ μ := rfl
theorem oks_forCons {g : DG} {b : DS} {d : D} {ds : List D} : OkS (forL g b (d :: ds) Γ μ) N B C T = Ok (g d Γ μ) fun Γ1 μ1 => OkS (b Γ1 μ1) (fun Γ2 μ2 => OkS (forL g b ds Γ2 μ2) N B C T) N (fun Γ2 μ2 => OkS (forL g b ds Γ2 μ2) N B C T) T := by
  rw [forL, oks_then]; congr 1; funext Γ1 μ1
  cases b Γ1 μ1 <;> rfl
/-- a loop by what stands before each item -/
theorem oks_forInv {g : DG} {b : DS} (I : List D → List D → Gam → Mu → Prop) : ∀ (ds pre : List D) (Γ : Gam) (μ : Mu), I pre ds Γ μ → (∀ pre d ds Γ μ, I pre (d :: ds) Γ μ → Ok (g d Γ μ) fun Γ1 μ1 => OkS (b Γ1 μ1) (I (pre ++ [d]) ds) N (I (pre ++ [d]) ds) T) → (∀ pre Γ μ, I pre [] Γ μ → N Γ μ) → OkS (forL g b ds Γ μ) N B C T
  | [], pre, Γ, μ, h, _, h2 => h2 pre Γ μ h
  | d :: ds, pre, Γ, μ, h, h1, h2 => by
    rw [oks_forCons]
    exact (h1 pre d ds Γ μ h).mono fun Γ1 μ1 q => q.mono (fun Γ2 μ2 q => oks_forInv I ds (pre ++ [d]) Γ2 μ2 q h1 h2) (fun _ _ q => q) (fun Γ2 μ2 q => oks_forInv I ds (pre ++ [d]) Γ2 μ2 q h1 h2) fun _ _ q => q
theorem oks_whileS {c : DT} {b : DS} {n : Nat} : OkS (whileN c b (n + 1) Γ μ) N B C T = Ok (c Γ μ) fun t μ1 => if t = true then OkS (b Γ μ1) (fun Γ2 μ2 => OkS (whileN c b n Γ2 μ2) N B C T) N (fun Γ2 μ2 => OkS (whileN c b n Γ2 μ2) N B C T) T else N Γ μ1 := by
  rw [whileN, oks_then]; congr 1; funext t μ1
  cases t with
  | false => rfl
  | true =>
    show OkS (match b Γ μ1 with
      | .nx Γ2 μ2 => whileN c b n Γ2 μ2
      | .ct Γ2 μ2 => whileN c b n Γ2 μ2
      | .bk Γ2 μ2 => .nx Γ2 μ2
      | .rt d μ2 => .rt d μ2
      | .exc e μ2 => .exc e μ2
      | .stk => .stk) N B C T = _
    cases b Γ μ1 <;> rfl
theorem oks_not_stk {r : RS} (h : OkS r N B C T) : r ≠ .stk := fun z => by subst z; exact h
/-- a while by what stands before each turn, and a number that falls -/
theorem oks_whileInv {c : DT} {b : DS} (I : Nat → Gam → Mu → Prop) {k : Nat} (h : I k Γ μ) (step : ∀ k Γ μ, I k Γ μ → Ok (c Γ μ) fun t μ1 => if t = true then OkS (b Γ μ1) (fun Γ2 μ2 => ∃ j, j < k ∧ I j Γ2 μ2) N (fun Γ2 μ2 => ∃ j, j < k ∧ I j Γ2 μ2) T else N Γ μ1) : OkS (dWhile c b Γ μ) N B C T := by
  have all : ∀ n k Γ μ, k ≤ n → I k Γ μ → OkS (whileN c b (n + 1) Γ μ) N B C T := by
    intro n
    induction n with
    | zero =>
      intro k Γ μ hk hi
      rw [oks_whileS]
      refine (step k Γ μ hi).mono fun t μ1 q => ?_
      cases t with
      | false => exact q
      | true => exact OkS.mono q (fun Γ2 μ2 ⟨j, hj, _⟩ => absurd hj (by omega)) (fun _ _ z => z) (fun Γ2 μ2 ⟨j, hj, _⟩ => absurd hj (by omega)) fun _ _ z => z
    | succ n ih =>
      intro k Γ μ hk hi
      rw [oks_whileS]
      refine (step k Γ μ hi).mono fun t μ1 q => ?_
      cases t with
      | false => exact q
      | true => exact OkS.mono q (fun Γ2 μ2 ⟨j, hj, z⟩ => ih j Γ2 μ2 (by omega) z) (fun _ _ z => z) (fun Γ2 μ2 ⟨j, hj, z⟩ => ih j Γ2 μ2 (by omega) z) fun _ _ z => z
  have q := all k k Γ μ (Nat.le_refl _) h
  rw [dWhile_eq (oks_not_stk q)]
  exact q
theorem lc_nx {g : DG} {t : DT} {e : DE} {P : List D → Mu → Prop} : ∀ (ds : List D) (Γ : Gam) (μ : Mu), Ok (lcL g t e Γ ds μ) P = @Ok xp0 _ (lcL g t e Γ ds μ) P
  | [], _, _ => rfl
  | d :: ds, Γ, μ => by
    have no : ∀ (ds : List D) (Γ : Gam) (μ : Mu) (z : ExK) (ν : Mu), lcL g t e Γ ds μ ≠ .exc z ν := by
      intro ds
      induction ds with
      | nil => intro Γ μ z ν h; cases h
      | cons d ds ih =>
        intro Γ μ z ν h
        rw [lcL] at h
        cases h1 : (g d Γ μ) with
        | ok Γ1 μ1 =>
          rw [h1] at h
          simp only [R.nox, R.bind] at h
          cases h2 : (t Γ1 μ1) with
          | ok b μ2 =>
            rw [h2] at h
            simp only [R.nox, R.bind] at h
            cases b with
            | true =>
              cases h3 : (e Γ1 μ2) with
              | ok y μ3 =>
                simp only [h3, R.nox, R.bind] at h
                cases h4 : lcL g t e Γ ds μ3 with
                | ok ys μ4 => rw [h4] at h; cases h
                | exc a b => exact ih _ _ _ _ h4
                | stk => rw [h4] at h; cases h
              | exc a b => simp only [h3, R.nox, R.bind] at h; cases h
              | stk => simp only [h3, R.nox, R.bind] at h; cases h
            | false => exact ih _ _ _ _ h
          | exc a b => rw [h2] at h; cases h
          | stk => rw [h2] at h; cases h
        | exc a b => rw [h1] at h; cases h
        | stk => rw [h1] at h; cases h
    cases h : lcL g t e Γ (d :: ds) μ with
    | ok a μ => rfl
    | exc a b => exact absurd h (no _ _ _ _ _)
    | stk => rfl
theorem ok_lc {fin : List D → Mu → R D} {vs : List Nat} {i : DA} {g : DG} {t : DT} {e : DE} : Ok (dLcF fin vs i g t e Γ μ) Q = Ok (i Γ μ) fun ds μ1 => LenLe ds 1000000 (WipeG Γ vs fun G => @Ok xp0 _ (lcL g t e G ds μ1) fun ys μ2 => Ok (fin ys μ2) Q) := by
  unfold dLcF LenLe WipeG; simp only [ok_bind, ok_ite]
  congr 1; funext a μ1; rw [lc_nx]
theorem ok_finL {ys : List D} : Ok (finL ys μ) Q = Q (.lst ys) μ := rfl
theorem ok_finM {ys : List D} : Ok (finM ys μ) Q = Q (.loc μ.length) (μ ++ [.lst ys]) := rfl
end
section
variable {α β : Type} {Γ : Gam} {μ : Mu} {Q : D → Mu → Prop} {QB : Bool → Mu → Prop} {QL : List D → Mu → Prop} {QG_ : Gam → Mu → Prop} {QO_ : Option Int → Mu → Prop} {N B C : Gam → Mu → Prop} {T : D → Mu → Prop}
theorem ok_lcNil {g : DG} {t : DT} {e : DE} : Ok (lcL g t e Γ [] μ) QL = QL [] μ := rfl
theorem ok_lcCons {g : DG} {t : DT} {e : DE} {d : D} {ds : List D} : Ok (lcL g t e Γ (d :: ds) μ) QL = Ok (g d Γ μ) fun Γ1 μ1 => Ok (t Γ1 μ1) fun b μ2 => if b = true then Ok (e Γ1 μ2) fun y μ3 => Ok (lcL g t e Γ ds μ3) fun ys μ4 => QL (y :: ys) μ4 else Ok (lcL g t e Γ ds μ2) QL := by
  rw [lcL]; simp only [ok_bind, ok_nox]
  congr 1; funext Γ1 μ1; congr 1; funext b μ2
  cases b <;> simp only [ok_bind, ok_nox, ok_ok, if_true, if_false, Bool.false_eq_true]
theorem ok_lcConsY {g : DG} {e : DE} {d : D} {ds : List D} : Ok (lcL g dYes e Γ (d :: ds) μ) QL = Ok (g d Γ μ) fun Γ1 μ1 => Ok (e Γ1 μ1) fun y μ3 => Ok (lcL g dYes e Γ ds μ3) fun ys μ4 => QL (y :: ys) μ4 := by
  rw [ok_lcCons]; rfl
theorem ok_yes {QB : Bool → Mu → Prop} : Ok (dYes Γ μ) QB = QB true μ := rfl
/-- a comprehension with no if, by what stands -/
theorem ok_lcInv {g : DG} {e : DE} (I : List D → List D → Mu → Prop) : ∀ (ds acc : List D) (μ : Mu), I acc ds μ → (∀ acc d ds μ, I acc (d :: ds) μ → Ok (g d Γ μ) fun Γ1 μ1 => Ok (e Γ1 μ1) fun y μ2 => I (acc ++ [y]) ds μ2) → Ok (lcL g dYes e Γ ds μ) fun ys μ2 => I (acc ++ ys) [] μ2
  | [], acc, μ, h, _ => by rw [ok_lcNil, List.append_nil]; exact h
  | d :: ds, acc, μ, h, h1 => by
    rw [ok_lcCons]
    refine (h1 acc d ds μ h).mono fun Γ1 μ1 q => ?_
    rw [ok_yes, if_pos rfl]
    refine q.mono fun y μ2 q => ?_
    refine (ok_lcInv I ds (acc ++ [y]) μ2 q h1).mono fun ys μ3 q => ?_
    rw [List.append_assoc] at q
    exact q
theorem ok_end {r : R D} (h : Ok r fun d _ => d = .bl true) : ∃ μ, r = .ok (.bl true) μ := by
  cases r with
  | ok d μ =>
    have h : d = .bl true := h
    exact ⟨μ, by rw [h]⟩
  | _ => exact False.elim h
end
end Ar

set_option Elab.async false
set_option linter.all false
set_option maxRecDepth 100000
set_option maxHeartbeats 2000000
/-! Ar12: small facts of the mirror's data -/
namespace Ar
open PySem PySem.Spec PyProof.Rows L2

theorem fix_loc {μ : Mu} {n : Nat} {ds : List D} {i : Int} (h : μ[n]? = some (.lst ds)) : fIx μ (.loc n) (.int i) = L2.atI ds i := by
  show (match seqA μ (.loc n) with | some ds => L2.atI ds i | none => none) = _
  unfold seqA seqL
  simp only [h]
theorem place_loc {μ : Mu} {n : Nat} {ds : List D} (h : μ[n]? = some (.lst ds)) : placeL μ (.loc n) = some (n, ds) := by
  unfold placeL
  simp only [h]
theorem atI_0 {α : Type} {a : α} {r : List α} : L2.atI (a :: r) 0 = some a := by
  unfold L2.atI ixN; rw [if_pos (by decide), if_pos (by simp only [List.length_cons]; omega)]; rfl
theorem atI_1 {α : Type} {a b : α} {r : List α} : L2.atI (a :: b :: r) 1 = some b := by
  unfold L2.atI ixN; rw [if_pos (by decide), if_pos (by simp only [List.length_cons]; omega)]; rfl
theorem atI_2 {α : Type} {a b c : α} {r : List α} : L2.atI (a :: b :: c :: r) 2 = some c := by
  unfold L2.atI ixN; rw [if_pos (by decide), if_pos (by simp only [List.length_cons]; omega)]; rfl
theorem atI_3 {α : Type} {a b c d : α} {r : List α} : L2.atI (a :: b :: c :: d :: r) 3 = some d := by
  unfold L2.atI ixN; rw [if_pos (by decide), if_pos (by simp only [List.length_cons]; omega)]; rfl
theorem atI_4 {α : Type} {a b c d e : α} {r : List α} : L2.atI (a :: b :: c :: d :: e :: r) 4 = some e := by
  unfold L2.atI ixN; rw [if_pos (by decide), if_pos (by simp only [List.length_cons]; omega)]; rfl
theorem atI_5 {α : Type} {a b c d e f : α} {r : List α} : L2.atI (a :: b :: c :: d :: e :: f :: r) 5 = some f := by
  unfold L2.atI ixN; rw [if_pos (by decide), if_pos (by simp only [List.length_cons]; omega)]; rfl
theorem atI_nat {α : Type} {xs : List α} {k : Nat} : L2.atI xs (k : Int) = xs[k]? := by
  unfold L2.atI ixN
  rw [if_pos (by omega)]
  by_cases h : k < xs.length
  · rw [if_pos (by omega)]; rfl
  · rw [if_neg (by omega), List.getElem?_eq_none (by omega)]; rfl
theorem atI_map {xs : List D} {i : Int} (h0 : 0 ≤ i) (h1 : i < xs.length) : ∃ x, L2.atI xs i = some x ∧ x ∈ xs := by
  obtain ⟨k, rfl⟩ := Int.eq_ofNat_of_zero_le h0
  rw [atI_nat]
  exact ⟨xs[k]'(by omega), List.getElem?_eq_getElem _, List.getElem_mem _⟩
theorem ixN_nat {n k : Nat} (h : k < n) : ixN n (k : Int) = some k := by
  unfold ixN
  rw [if_pos (by omega), if_pos (by omega)]
  rfl
theorem pow_6 {μ : Mu} : fPowI μ (.int 10) (.int 6) = some (.int 1000000) := by
  have h : powOk 10 6 = true := by decide
  show (if powOk 10 6 = true then some (D.int (10 ^ (6 : Int).toNat)) else none) = _
  rw [if_pos h]; rfl
theorem pow_18 {μ : Mu} : fPowI μ (.int 10) (.int 18) = some (.int 1000000000000000000) := by
  have h : powOk 10 18 = true := by decide
  show (if powOk 10 18 = true then some (D.int (10 ^ (18 : Int).toNat)) else none) = _
  rw [if_pos h]; rfl
theorem mul_l {i j : Int} (h : i.natAbs < 2 ^ 64) : mulOk i j = true := by
  unfold mulOk
  rw [show Nat.blt i.natAbs (2 ^ 64) = true from Nat.ble_eq_true_of_le h]; rfl
theorem mul_r {i j : Int} (h : j.natAbs < 2 ^ 64) : mulOk i j = true := by
  unfold mulOk
  rw [show Nat.blt j.natAbs (2 ^ 64) = true from Nat.ble_eq_true_of_le h, Bool.or_true]; rfl
theorem mul_small {i j : Int} (hi : i.natAbs < 2 ^ 200000) (hj : j.natAbs < 2 ^ 200000) : mulOk i j = true := by
  unfold mulOk
  rw [show Nat.blt (i.natAbs.log2 + j.natAbs.log2) 1000000 = true from ?_, Bool.or_true]
  have lg : ∀ n : Nat, n < 2 ^ 200000 → n.log2 < 200000 := fun n h => by
    by_cases hn : n = 0
    · subst hn; rw [Nat.log2_zero]; omega
    · exact (Nat.log2_lt hn).mpr h
  have h1 := lg _ hi
  have h2 := lg _ hj
  exact Nat.ble_eq_true_of_le (show i.natAbs.log2 + j.natAbs.log2 < 1000000 by omega)
def B30 : Nat := 10 ^ 30
def LIM : Nat := 10 ^ 200
theorem B_LIM : 100000 * B30 < LIM := by
  unfold B30 LIM
  exact Nat.lt_of_lt_of_le (show 100000 * 10 ^ 30 < 10 ^ 36 by decide +kernel) (Nat.pow_le_pow_right (by decide) (by decide))
/-- others are as they were -/
structure Gr (n : Nat) (μ μ' : Mu) : Prop where
  len : μ.length ≤ μ'.length
  at_ : ∀ j o, j ≠ n → μ[j]? = some o → μ'[j]? = some o
theorem Gr.refl {n : Nat} {μ : Mu} : Gr n μ μ := ⟨Nat.le_refl _, fun _ _ _ h => h⟩
theorem Gr.trans {n : Nat} {μ μ' μ'' : Mu} (a : Gr n μ μ') (b : Gr n μ' μ'') : Gr n μ μ'' := ⟨Nat.le_trans a.len b.len, fun j o h e => b.at_ j o h (a.at_ j o h e)⟩
theorem Gr.set {n : Nat} {μ : Mu} {o : MO} : Gr n μ (μ.set n o) := ⟨by simp, fun j o h e => by rw [List.getElem?_set_ne (Ne.symm h)]; exact e⟩
theorem Gr.app {n : Nat} {μ : Mu} {o : MO} : Gr n μ (μ ++ [o]) := ⟨by simp, fun j o h e => by rw [List.getElem?_append_left (List.getElem?_eq_some_iff.mp e).1]; exact e⟩
theorem Gr.setN {n m : Nat} {μ μ' : Mu} {o : MO} (h : Gr n μ μ') (hm : μ.length ≤ m) : Gr n μ (μ'.set m o) := ⟨by rw [List.length_set]; exact h.len, fun j u hj e => by
  have := (List.getElem?_eq_some_iff.mp e).1
  rw [List.getElem?_set_ne (by omega)]
  exact h.at_ j u hj e⟩
theorem app_new {μ : Mu} {o : MO} : (μ ++ [o])[μ.length]? = some o := by simp
theorem app_old {μ : Mu} {o : MO} {n : Nat} {x : MO} (h : μ[n]? = some x) : (μ ++ [o])[n]? = some x := by
  rw [List.getElem?_append_left (List.getElem?_eq_some_iff.mp h).1]; exact h
theorem set_new {μ : Mu} {n : Nat} {x o : MO} (h : μ[n]? = some x) : (μ.set n o)[n]? = some o := List.getElem?_set_self (List.getElem?_eq_some_iff.mp h).1
/-- the well of a drawing -/
def Wl (n : Nat) (μ : Mu) : Prop := ∃ a b c : Int, 0 ≤ a ∧ 0 ≤ b ∧ b < 2147483399 ∧ μ[n]? = some (.lst [.int a, .int b, .int c])
theorem Wl.lt {n : Nat} {μ : Mu} (h : Wl n μ) : n < μ.length := by
  obtain ⟨a, b, c, _, _, _, e⟩ := h
  exact (List.getElem?_eq_some_iff.mp e).1
theorem Wl.app {n : Nat} {μ : Mu} {o : MO} (h : Wl n μ) : Wl n (μ ++ [o]) := by
  obtain ⟨a, b, c, h1, h2, h3, e⟩ := h
  exact ⟨a, b, c, h1, h2, h3, app_old e⟩
theorem Wl.set {n m : Nat} {μ : Mu} {o : MO} (h : Wl n μ) (hm : m ≠ n) : Wl n (μ.set m o) := by
  obtain ⟨a, b, c, h1, h2, h3, e⟩ := h
  exact ⟨a, b, c, h1, h2, h3, by rw [List.getElem?_set_ne hm]; exact e⟩
theorem add_ii {μ : Mu} {i j : Int} : fAdd μ (.int i) (.int j) = some (.int (i + j)) := rfl
theorem sub_ii {μ : Mu} {i j : Int} : fSubI μ (.int i) (.int j) = some (.int (i - j)) := rfl
theorem mul_ii {μ : Mu} {i j : Int} : fMulI μ (.int i) (.int j) = if mulOk i j = true then some (.int (i * j)) else none := rfl
theorem div_ii {μ : Mu} {i j : Int} : fDivI μ (.int i) (.int j) = if fdOk j = true then some (.int (i.fdiv j)) else none := rfl
theorem mod_ii {μ : Mu} {i j : Int} : fModI μ (.int i) (.int j) = if j ≠ 0 then some (.int (i.fmod j)) else none := rfl
theorem lt_ii {μ : Mu} {i j : Int} : fLt μ (.int i) (.int j) = some (.bl (decide (i < j))) := rfl
theorem le_ii {μ : Mu} {i j : Int} : fLe μ (.int i) (.int j) = some (.bl (decide (i ≤ j))) := rfl
theorem gt_ii {μ : Mu} {i j : Int} : fGt μ (.int i) (.int j) = some (.bl (decide (j < i))) := rfl
theorem ge_ii {μ : Mu} {i j : Int} : fGe μ (.int i) (.int j) = some (.bl (decide (j ≤ i))) := rfl
theorem add_tt {μ : Mu} {i j : List D} : fAdd μ (.tup i) (.tup j) = if i.length + j.length ≤ 1000000 then some (.tup (i ++ j)) else none := by
  show (match (if i.length + j.length ≤ 1000000 then some (D.tup (i ++ j)) else none) with | some z => some z | none => none) = _
  by_cases h : i.length + j.length ≤ 1000000 <;> simp only [h, if_true, if_false]
theorem add_ll {μ : Mu} {i j : List D} : fAdd μ (.lst i) (.lst j) = if i.length + j.length ≤ 1000000 then some (.lst (i ++ j)) else none := rfl
theorem add_ss {μ : Mu} {i j : Str} : fAdd μ (.str i) (.str j) = if i.length + j.length ≤ 1000000 then some (.str (i ++ j)) else none := by
  show (match (if i.length + j.length ≤ 1000000 then some (D.str (i ++ j)) else none) with | some z => some z | none => none) = _
  by_cases h : i.length + j.length ≤ 1000000 <;> simp only [h, if_true, if_false]
theorem divmod_ii {μ : Mu} {i j : Int} : fDivmod μ [.int i, .int j] = if 0 < j ∧ fdOk j = true then some (.tup [.int (i / j), .int (i % j)]) else none := rfl
theorem neg_i {μ : Mu} {i : Int} : fNeg μ (.int i) = some (.int (-i)) := rfl
theorem int_i {μ : Mu} {i : Int} : fInt μ [.int i] = some (.int i) := rfl
theorem abs_i {μ : Mu} {i : Int} : fAbs μ [.int i] = some (.int (if i < 0 then -i else i)) := rfl
theorem max_ii {μ : Mu} {i j : Int} : fMax μ [.int i, .int j] = some (.int (if i < j then j else i)) := rfl
theorem min_ii {μ : Mu} {i j : Int} : fMin μ [.int i, .int j] = some (.int (if j < i then j else i)) := rfl
theorem len_tup {μ : Mu} {xs : List D} : fLen μ [.tup xs] = some (.int xs.length) := rfl
theorem len_lst {μ : Mu} {xs : List D} : fLen μ [.lst xs] = some (.int xs.length) := rfl
theorem len_scr {μ : Mu} {xs : List D} : fLen μ [.scr xs] = some (.int xs.length) := rfl
theorem slc_lst {μ : Mu} {xs : List D} {lo hi : Option Int} : fSl μ (.lst xs) lo hi = some (.lst (cutL xs lo hi)) := rfl
theorem slc_scr {μ : Mu} {xs : List D} {lo hi : Option Int} : fSl μ (.scr xs) lo hi = some (.lst (cutL xs lo hi)) := rfl
theorem slc_tup {μ : Mu} {xs : List D} {lo hi : Option Int} : fSl μ (.tup xs) lo hi = some (.tup (cutL xs lo hi)) := rfl
theorem tuple_lst {μ : Mu} {xs : List D} : fTuple μ [.lst xs] = some (.tup xs) := rfl
theorem tuple_tup {μ : Mu} {xs : List D} : fTuple μ [.tup xs] = some (.tup xs) := rfl
theorem tuple_scr {μ : Mu} {xs : List D} : fTuple μ [.scr xs] = some (.tup xs) := rfl
theorem list_tup {μ : Mu} {xs : List D} : fList μ [.tup xs] = some (.lst xs) := rfl
theorem list_lst {μ : Mu} {xs : List D} : fList μ [.lst xs] = some (.lst xs) := rfl
theorem bool_b {μ : Mu} {b : Bool} : fBool μ [.bl b] = some (.bl b) := rfl
theorem isa_int_int {μ : Mu} {i : Int} : fIsa μ [.int i, .ty "int"] = some (.bl true) := rfl
theorem isa_int_bool {μ : Mu} {i : Int} : fIsa μ [.int i, .ty "bool"] = some (.bl false) := rfl
theorem isa_int_tup {μ : Mu} {i : Int} : fIsa μ [.int i, .ty "tuple"] = some (.bl false) := rfl
theorem isa_int_str {μ : Mu} {i : Int} : fIsa μ [.int i, .ty "str"] = some (.bl false) := rfl
theorem isa_int_lst {μ : Mu} {i : Int} : fIsa μ [.int i, .ty "list"] = some (.bl false) := rfl
theorem isa_bl_int {μ : Mu} {i : Bool} : fIsa μ [.bl i, .ty "int"] = some (.bl true) := rfl
theorem isa_bl_bool {μ : Mu} {i : Bool} : fIsa μ [.bl i, .ty "bool"] = some (.bl true) := rfl
theorem isa_tup_tup {μ : Mu} {i : List D} : fIsa μ [.tup i, .ty "tuple"] = some (.bl true) := rfl
theorem isa_tup_int {μ : Mu} {i : List D} : fIsa μ [.tup i, .ty "int"] = some (.bl false) := rfl
theorem isa_tup_lst {μ : Mu} {i : List D} : fIsa μ [.tup i, .ty "list"] = some (.bl false) := rfl
theorem isa_tup_str {μ : Mu} {i : List D} : fIsa μ [.tup i, .ty "str"] = some (.bl false) := rfl
theorem isa_str_str {μ : Mu} {i : Str} : fIsa μ [.str i, .ty "str"] = some (.bl true) := rfl
theorem isa_str_int {μ : Mu} {i : Str} : fIsa μ [.str i, .ty "int"] = some (.bl false) := rfl
theorem isa_str_tup {μ : Mu} {i : Str} : fIsa μ [.str i, .ty "tuple"] = some (.bl false) := rfl
theorem isa_lst_lst {μ : Mu} {i : List D} : fIsa μ [.lst i, .ty "list"] = some (.bl true) := rfl
theorem isa_lst_tup {μ : Mu} {i : List D} : fIsa μ [.lst i, .ty "tuple"] = some (.bl false) := rfl
theorem isa_lst_int {μ : Mu} {i : List D} : fIsa μ [.lst i, .ty "int"] = some (.bl false) := rfl
theorem isa_non_int {μ : Mu} : fIsa μ [.non, .ty "int"] = some (.bl false) := rfl
theorem isa_non_tup {μ : Mu} : fIsa μ [.non, .ty "tuple"] = some (.bl false) := rfl
theorem seqIE_lst [ExW] {μ : Mu} {xs : List D} {P : List D → Mu → Prop} : Ok (seqIE (.lst xs) μ) P = P xs μ := rfl
theorem seqIE_tup [ExW] {μ : Mu} {xs : List D} {P : List D → Mu → Prop} : Ok (seqIE (.tup xs) μ) P = P xs μ := rfl
theorem seqIE_scr [ExW] {μ : Mu} {xs : List D} {P : List D → Mu → Prop} : Ok (seqIE (.scr xs) μ) P = P xs μ := rfl
theorem seqI_str [ExW] {μ : Mu} {z : Str} {P : List D → Mu → Prop} : Ok (seqI (.str z) μ) P = P (z.cps.toList.map fun c => .str ⟨#[c]⟩) μ := rfl
theorem seqI_lst [ExW] {μ : Mu} {xs : List D} {P : List D → Mu → Prop} : Ok (seqI (.lst xs) μ) P = P xs μ := rfl
theorem seqI_tup [ExW] {μ : Mu} {xs : List D} {P : List D → Mu → Prop} : Ok (seqI (.tup xs) μ) P = P xs μ := rfl
theorem seqI_scr [ExW] {μ : Mu} {xs : List D} {P : List D → Mu → Prop} : Ok (seqI (.scr xs) μ) P = P xs μ := rfl
theorem cut_len {xs : List D} {lo hi : Option Int} : (cutL xs lo hi).length ≤ xs.length := by
  unfold cutL
  rw [List.length_take, List.length_drop]
  omega
theorem cut_mem {xs : List D} {lo hi : Option Int} {d : D} (h : d ∈ cutL xs lo hi) : d ∈ xs := List.mem_of_mem_drop (List.mem_of_mem_take h)
theorem int_mem {ns : List Int} {d : D} (h : d ∈ ns.map D.int) : ∃ i, d = .int i := by
  obtain ⟨i, _, e⟩ := List.mem_map.mp h
  exact ⟨i, e.symm⟩
theorem int_at {ns : List Int} {t : Int} (h0 : 0 ≤ t) (h : t < ns.length) : ∃ z : Int, L2.atI (ns.map D.int) t = some (.int z) := by
  obtain ⟨x, e, m⟩ := atI_map (xs := ns.map D.int) h0 (by rw [List.length_map]; exact h)
  obtain ⟨i, rfl⟩ := int_mem m
  exact ⟨i, e⟩
theorem mod_p (x : Int) : 0 ≤ x.fmod 2147483399 ∧ x.fmod 2147483399 < 2147483399 := ⟨Int.fmod_nonneg_of_pos _ (by decide), Int.fmod_lt_of_pos _ (by decide)⟩
theorem sum_3 {μ : Mu} {a b c : Int} : fSum μ [.lst [.int a, .int b, .int c]] = some (.int (a + (b + (c + 0)))) := rfl
theorem all_3 {μ : Mu} {a b c : Bool} : fAll μ [.lst [.bl a, .bl b, .bl c]] = some (.bl (a && (b && (c && true)))) := by cases a <;> cases b <;> cases c <;> rfl
theorem rng_3 : rngD 0 (3 : Int).toNat = [.int 0, .int 1, .int 2] := rfl
theorem rng_2 : rngD 0 (2 : Int).toNat = [.int 0, .int 1] := rfl
theorem mul_mid {i j : Int} (hi : i.natAbs < 10 ^ 200) (hj : j.natAbs < 10 ^ 200) : mulOk i j = true := by
  have h : (10 : Nat) ^ 200 < 2 ^ 200000 := Nat.lt_of_lt_of_le (Nat.lt_of_lt_of_le (show (10 : Nat) ^ 200 < 16 ^ 200 from Nat.pow_lt_pow_left (by decide) (by decide)) (by rw [show (16 : Nat) = 2 ^ 4 from rfl, ← Nat.pow_mul]; exact Nat.le_refl _) : (10 : Nat) ^ 200 < 2 ^ 800) (Nat.pow_le_pow_right (by decide) (by decide))
  exact mul_small (Nat.lt_trans hi h) (Nat.lt_trans hj h)
theorem mul_lim {i j : Int} (hi : i.natAbs < LIM) (hj : j.natAbs < LIM) : mulOk i j = true := mul_mid hi hj
theorem eqLs_refl {f : D → D → Bool} : ∀ {ds : List D}, (∀ d ∈ ds, f d d = true) → eqLs f ds ds = true
  | [], _ => rfl
  | d :: ds, h => by
    show (f d d && eqLs f ds ds) = true
    rw [h d List.mem_cons_self, eqLs_refl fun d hd => h d (List.mem_cons_of_mem _ hd)]
    rfl
theorem eqD_refl : ∀ (n : Nat) (d : D), plainD n d = true → eqD n d d = true := by
  intro n
  induction n with
  | zero =>
    intro d h
    cases d with
    | non => rfl
    | bl b => cases b <;> rfl
    | int i => show (i == i) = true; simp
    | str x => show (x == x) = true; simp
    | _ => cases h
  | succ n ih =>
    intro d h
    cases d with
    | non => rfl
    | bl b => cases b <;> rfl
    | int i => show (i == i) = true; simp
    | str x => show (x == x) = true; simp
    | tup ds =>
      have h : ds.all (plainD n) = true := h
      exact eqLs_refl fun d hd => ih d (List.all_eq_true.mp h d hd)
    | lst ds =>
      have h : ds.all (plainD n) = true := h
      exact eqLs_refl fun d hd => ih d (List.all_eq_true.mp h d hd)
    | _ => cases h
theorem o_ne_self {μ : Mu} {d : D} {P : D → Prop} (h : plainD 20 d = true) (q : P (.bl false)) : OkO (fNe μ d d) P := by
  have u : unloc μ d = d := by
    cases d with
    | loc n => cases h
    | _ => rfl
  unfold fNe
  rw [u, if_pos ⟨h, h⟩, eqD_refl 20 d h]
  exact q
theorem bls_true : ∀ {ys : List D}, (∀ d ∈ ys, d = D.bl true) → ∃ bs, blsOf ys = some bs ∧ bs.all id = true
  | [], _ => ⟨[], rfl, rfl⟩
  | y :: ys, h => by
    obtain ⟨bs, e1, e2⟩ := bls_true fun d hd => h d (List.mem_cons_of_mem _ hd)
    rw [h y List.mem_cons_self]
    exact ⟨true :: bs, by show (blsOf ys).map (true :: ·) = _; rw [e1]; rfl, by rw [List.all_cons, e2]; rfl⟩
theorem all_true {μ : Mu} {ys : List D} {P : D → Prop} (h : ∀ d ∈ ys, d = D.bl true) (q : P (.bl true)) : OkO (fAll μ [.lst ys]) P := by
  obtain ⟨bs, e1, e2⟩ := bls_true h
  have e : fAll μ [.lst ys] = some (.bl true) := by
    show (match seqL μ (.lst ys) with
      | some xs => (blsOf xs).map fun bs => D.bl (bs.all id)
      | none => none) = some (.bl true)
    show (blsOf ys).map (fun bs => D.bl (bs.all id)) = some (.bl true)
    rw [e1]
    show some (D.bl (bs.all id)) = _
    rw [e2]
  rw [e]
  exact q
theorem rng_nat {lo : Int} {n : Nat} {d : D} (h : d ∈ rngD lo n) : ∃ i : Int, d = .int i ∧ lo ≤ i ∧ i < lo + n := by
  obtain ⟨i, hi, rfl⟩ := List.mem_map.mp h
  have := List.mem_range.mp hi
  exact ⟨_, rfl, by omega, by omega⟩
theorem o_add_ii {μ : Mu} {i j : Int} {P : D → Prop} : OkO (fAdd μ (.int i) (.int j)) P = P (.int (i + j)) := by rw [add_ii, oko_some]
theorem o_sub_ii {μ : Mu} {i j : Int} {P : D → Prop} : OkO (fSubI μ (.int i) (.int j)) P = P (.int (i - j)) := by rw [sub_ii, oko_some]
theorem o_mul_ii {μ : Mu} {i j : Int} {P : D → Prop} : OkO (fMulI μ (.int i) (.int j)) P = ((mulOk i j = true) ∧ P ((.int (i * j)))) := by rw [mul_ii, oko_ite]
theorem o_div_ii {μ : Mu} {i j : Int} {P : D → Prop} : OkO (fDivI μ (.int i) (.int j)) P = ((fdOk j = true) ∧ P ((.int (i.fdiv j)))) := by rw [div_ii, oko_ite]
theorem o_mod_ii {μ : Mu} {i j : Int} {P : D → Prop} : OkO (fModI μ (.int i) (.int j)) P = ((j ≠ 0) ∧ P ((.int (i.fmod j)))) := by rw [mod_ii, oko_ite]
theorem o_lt_ii {μ : Mu} {i j : Int} {P : D → Prop} : OkO (fLt μ (.int i) (.int j)) P = P (.bl (decide (i < j))) := by rw [lt_ii, oko_some]
theorem o_le_ii {μ : Mu} {i j : Int} {P : D → Prop} : OkO (fLe μ (.int i) (.int j)) P = P (.bl (decide (i ≤ j))) := by rw [le_ii, oko_some]
theorem o_gt_ii {μ : Mu} {i j : Int} {P : D → Prop} : OkO (fGt μ (.int i) (.int j)) P = P (.bl (decide (j < i))) := by rw [gt_ii, oko_some]
theorem o_ge_ii {μ : Mu} {i j : Int} {P : D → Prop} : OkO (fGe μ (.int i) (.int j)) P = P (.bl (decide (j ≤ i))) := by rw [ge_ii, oko_some]
theorem o_add_tt {μ : Mu} {i j : List D} {P : D → Prop} : OkO (fAdd μ (.tup i) (.tup j)) P = ((i.length + j.length ≤ 1000000) ∧ P ((.tup (i ++ j)))) := by rw [add_tt, oko_ite]
theorem o_add_ll {μ : Mu} {i j : List D} {P : D → Prop} : OkO (fAdd μ (.lst i) (.lst j)) P = ((i.length + j.length ≤ 1000000) ∧ P ((.lst (i ++ j)))) := by rw [add_ll, oko_ite]
theorem o_add_ss {μ : Mu} {i j : Str} {P : D → Prop} : OkO (fAdd μ (.str i) (.str j)) P = ((i.length + j.length ≤ 1000000) ∧ P ((.str (i ++ j)))) := by rw [add_ss, oko_ite]
theorem o_divmod_ii {μ : Mu} {i j : Int} {P : D → Prop} : OkO (fDivmod μ [.int i, .int j]) P = ((0 < j ∧ fdOk j = true) ∧ P ((.tup [.int (i / j), .int (i % j)]))) := by rw [divmod_ii, oko_ite]
theorem o_neg_i {μ : Mu} {i : Int} {P : D → Prop} : OkO (fNeg μ (.int i)) P = P (.int (-i)) := by rw [neg_i, oko_some]
theorem o_int_i {μ : Mu} {i : Int} {P : D → Prop} : OkO (fInt μ [.int i]) P = P (.int i) := by rw [int_i, oko_some]
theorem o_abs_i {μ : Mu} {i : Int} {P : D → Prop} : OkO (fAbs μ [.int i]) P = P (.int (if i < 0 then -i else i)) := by rw [abs_i, oko_some]
theorem o_max_ii {μ : Mu} {i j : Int} {P : D → Prop} : OkO (fMax μ [.int i, .int j]) P = P (.int (if i < j then j else i)) := by rw [max_ii, oko_some]
theorem o_min_ii {μ : Mu} {i j : Int} {P : D → Prop} : OkO (fMin μ [.int i, .int j]) P = P (.int (if j < i then j else i)) := by rw [min_ii, oko_some]
theorem o_len_tup {μ : Mu} {xs : List D} {P : D → Prop} : OkO (fLen μ [.tup xs]) P = P (.int xs.length) := by rw [len_tup, oko_some]
theorem o_len_lst {μ : Mu} {xs : List D} {P : D → Prop} : OkO (fLen μ [.lst xs]) P = P (.int xs.length) := by rw [len_lst, oko_some]
theorem o_len_scr {μ : Mu} {xs : List D} {P : D → Prop} : OkO (fLen μ [.scr xs]) P = P (.int xs.length) := by rw [len_scr, oko_some]
theorem o_slc_lst {μ : Mu} {xs : List D} {lo hi : Option Int} {P : D → Prop} : OkO (fSl μ (.lst xs) lo hi) P = P (.lst (cutL xs lo hi)) := by rw [slc_lst, oko_some]
theorem o_slc_scr {μ : Mu} {xs : List D} {lo hi : Option Int} {P : D → Prop} : OkO (fSl μ (.scr xs) lo hi) P = P (.lst (cutL xs lo hi)) := by rw [slc_scr, oko_some]
theorem o_slc_tup {μ : Mu} {xs : List D} {lo hi : Option Int} {P : D → Prop} : OkO (fSl μ (.tup xs) lo hi) P = P (.tup (cutL xs lo hi)) := by rw [slc_tup, oko_some]
theorem o_tuple_lst {μ : Mu} {xs : List D} {P : D → Prop} : OkO (fTuple μ [.lst xs]) P = P (.tup xs) := by rw [tuple_lst, oko_some]
theorem o_tuple_tup {μ : Mu} {xs : List D} {P : D → Prop} : OkO (fTuple μ [.tup xs]) P = P (.tup xs) := by rw [tuple_tup, oko_some]
theorem o_tuple_scr {μ : Mu} {xs : List D} {P : D → Prop} : OkO (fTuple μ [.scr xs]) P = P (.tup xs) := by rw [tuple_scr, oko_some]
theorem o_list_tup {μ : Mu} {xs : List D} {P : D → Prop} : OkO (fList μ [.tup xs]) P = P (.lst xs) := by rw [list_tup, oko_some]
theorem o_list_lst {μ : Mu} {xs : List D} {P : D → Prop} : OkO (fList μ [.lst xs]) P = P (.lst xs) := by rw [list_lst, oko_some]
theorem o_bool_b {μ : Mu} {b : Bool} {P : D → Prop} : OkO (fBool μ [.bl b]) P = P (.bl b) := by rw [bool_b, oko_some]
theorem o_isa_int_int {μ : Mu} {i : Int} {P : D → Prop} : OkO (fIsa μ [.int i, .ty "int"]) P = P (.bl true) := by rw [isa_int_int, oko_some]
theorem o_isa_int_bool {μ : Mu} {i : Int} {P : D → Prop} : OkO (fIsa μ [.int i, .ty "bool"]) P = P (.bl false) := by rw [isa_int_bool, oko_some]
theorem o_isa_int_tup {μ : Mu} {i : Int} {P : D → Prop} : OkO (fIsa μ [.int i, .ty "tuple"]) P = P (.bl false) := by rw [isa_int_tup, oko_some]
theorem o_isa_int_str {μ : Mu} {i : Int} {P : D → Prop} : OkO (fIsa μ [.int i, .ty "str"]) P = P (.bl false) := by rw [isa_int_str, oko_some]
theorem o_isa_int_lst {μ : Mu} {i : Int} {P : D → Prop} : OkO (fIsa μ [.int i, .ty "list"]) P = P (.bl false) := by rw [isa_int_lst, oko_some]
theorem o_isa_bl_int {μ : Mu} {i : Bool} {P : D → Prop} : OkO (fIsa μ [.bl i, .ty "int"]) P = P (.bl true) := by rw [isa_bl_int, oko_some]
theorem o_isa_bl_bool {μ : Mu} {i : Bool} {P : D → Prop} : OkO (fIsa μ [.bl i, .ty "bool"]) P = P (.bl true) := by rw [isa_bl_bool, oko_some]
theorem o_isa_tup_tup {μ : Mu} {i : List D} {P : D → Prop} : OkO (fIsa μ [.tup i, .ty "tuple"]) P = P (.bl true) := by rw [isa_tup_tup, oko_some]
theorem o_isa_tup_int {μ : Mu} {i : List D} {P : D → Prop} : OkO (fIsa μ [.tup i, .ty "int"]) P = P (.bl false) := by rw [isa_tup_int, oko_some]
theorem o_isa_tup_lst {μ : Mu} {i : List D} {P : D → Prop} : OkO (fIsa μ [.tup i, .ty "list"]) P = P (.bl false) := by rw [isa_tup_lst, oko_some]
theorem o_isa_tup_str {μ : Mu} {i : List D} {P : D → Prop} : OkO (fIsa μ [.tup i, .ty "str"]) P = P (.bl false) := by rw [isa_tup_str, oko_some]
theorem o_isa_str_str {μ : Mu} {i : Str} {P : D → Prop} : OkO (fIsa μ [.str i, .ty "str"]) P = P (.bl true) := by rw [isa_str_str, oko_some]
theorem o_isa_str_int {μ : Mu} {i : Str} {P : D → Prop} : OkO (fIsa μ [.str i, .ty "int"]) P = P (.bl false) := by rw [isa_str_int, oko_some]
theorem o_isa_str_tup {μ : Mu} {i : Str} {P : D → Prop} : OkO (fIsa μ [.str i, .ty "tuple"]) P = P (.bl false) := by rw [isa_str_tup, oko_some]
theorem o_isa_lst_lst {μ : Mu} {i : List D} {P : D → Prop} : OkO (fIsa μ [.lst i, .ty "list"]) P = P (.bl true) := by rw [isa_lst_lst, oko_some]
theorem o_isa_lst_tup {μ : Mu} {i : List D} {P : D → Prop} : OkO (fIsa μ [.lst i, .ty "tuple"]) P = P (.bl false) := by rw [isa_lst_tup, oko_some]
theorem o_isa_lst_int {μ : Mu} {i : List D} {P : D → Prop} : OkO (fIsa μ [.lst i, .ty "int"]) P = P (.bl false) := by rw [isa_lst_int, oko_some]
theorem o_isa_non_int {μ : Mu} {P : D → Prop} : OkO (fIsa μ [.non, .ty "int"]) P = P (.bl false) := by rw [isa_non_int, oko_some]
theorem o_isa_non_tup {μ : Mu} {P : D → Prop} : OkO (fIsa μ [.non, .ty "tuple"]) P = P (.bl false) := by rw [isa_non_tup, oko_some]
theorem o_sum_3 {μ : Mu} {a b c : Int} {P : D → Prop} : OkO (fSum μ [.lst [.int a, .int b, .int c]]) P = P (.int (a + (b + (c + 0)))) := by rw [sum_3, oko_some]
theorem o_all_3 {μ : Mu} {a b c : Bool} {P : D → Prop} : OkO (fAll μ [.lst [.bl a, .bl b, .bl c]]) P = P (.bl (a && (b && (c && true)))) := by rw [all_3, oko_some]
theorem o_atI_0 {a : D} {r : List D} {P : D → Prop} : OkO (L2.atI (a :: r) 0) P = P a := by rw [atI_0, oko_some]
theorem o_atI_1 {a b : D} {r : List D} {P : D → Prop} : OkO (L2.atI (a :: b :: r) 1) P = P b := by rw [atI_1, oko_some]
theorem o_atI_2 {a b c : D} {r : List D} {P : D → Prop} : OkO (L2.atI (a :: b :: c :: r) 2) P = P c := by rw [atI_2, oko_some]
theorem o_atI_3 {a b c d : D} {r : List D} {P : D → Prop} : OkO (L2.atI (a :: b :: c :: d :: r) 3) P = P d := by rw [atI_3, oko_some]
theorem o_atI_4 {a b c d e : D} {r : List D} {P : D → Prop} : OkO (L2.atI (a :: b :: c :: d :: e :: r) 4) P = P e := by rw [atI_4, oko_some]
theorem o_atI_5 {a b c d e f : D} {r : List D} {P : D → Prop} : OkO (L2.atI (a :: b :: c :: d :: e :: f :: r) 5) P = P f := by rw [atI_5, oko_some]
theorem o_ixN_30 {P : Nat → Prop} : OkO (ixN 3 0) P = P 0 := rfl
theorem o_ixN_31 {P : Nat → Prop} : OkO (ixN 3 1) P = P 1 := rfl
theorem o_ixN_32 {P : Nat → Prop} : OkO (ixN 3 2) P = P 2 := rfl
theorem o_fix_tup {μ : Mu} {ds : List D} {i : Int} {P : D → Prop} : OkO (fIx μ (.tup ds) (.int i)) P = OkO (L2.atI ds i) P := rfl
theorem o_fix_lst {μ : Mu} {ds : List D} {i : Int} {P : D → Prop} : OkO (fIx μ (.lst ds) (.int i)) P = OkO (L2.atI ds i) P := rfl
theorem o_fix_scr {μ : Mu} {ds : List D} {i : Int} {P : D → Prop} : OkO (fIx μ (.scr ds) (.int i)) P = OkO (L2.atI ds i) P := rfl
theorem o_pow_6 {μ : Mu} {P : D → Prop} : OkO (fPowI μ (.int 10) (.int 6)) P = P (.int 1000000) := by rw [pow_6, oko_some]
theorem o_pow_18 {μ : Mu} {P : D → Prop} : OkO (fPowI μ (.int 10) (.int 18)) P = P (.int 1000000000000000000) := by rw [pow_18, oko_some]
theorem o_fix_loc {μ : Mu} {n : Nat} {ds : List D} {i : Int} (h : μ[n]? = some (.lst ds)) {P : D → Prop} : OkO (fIx μ (.loc n) (.int i)) P = OkO (L2.atI ds i) P := by rw [fix_loc h]
theorem o_place {μ : Mu} {n : Nat} {ds : List D} (h : μ[n]? = some (.lst ds)) {P : Nat × List D → Prop} : OkO (placeL μ (.loc n)) P = P (n, ds) := by rw [place_loc h, oko_some]
theorem o_eq_ii {μ : Mu} {i j : Int} {P : D → Prop} : OkO (fEq μ (.int i) (.int j)) P = P (.bl (decide (i = j))) := rfl
theorem o_ne_ii {μ : Mu} {i j : Int} {P : D → Prop} : OkO (fNe μ (.int i) (.int j)) P = P (.bl (!decide (i = j))) := rfl
theorem o_ne_mv {μ : Mu} {a b c x y z : Int} {P : D → Prop} : OkO (fNe μ (.tup [.int a, .int b, .int c]) (.tup [.int x, .int y, .int z])) P = P (.bl (!(decide (a = x) && (decide (b = y) && (decide (c = z) && true))))) := rfl
theorem o_eq_mv {μ : Mu} {a b c x y z : Int} {P : D → Prop} : OkO (fEq μ (.tup [.int a, .int b, .int c]) (.tup [.int x, .int y, .int z])) P = P (.bl (decide (a = x) && (decide (b = y) && (decide (c = z) && true)))) := rfl
theorem o_mul_rep {μ : Mu} {ds : List D} {k : Int} {P : D → Prop} : OkO (fMul μ (.lst ds) (.int k)) P = (((-(2 ^ 63) ≤ k ∧ k < 2 ^ 63) ∧ ds.length * k.toNat ≤ 1000000) ∧ P (.lst (List.replicate k.toNat ds).flatten)) := by
  show OkO (if (-(2 ^ 63) ≤ k ∧ k < 2 ^ 63) ∧ ds.length * k.toNat ≤ 1000000 then some (D.lst (List.replicate k.toNat ds).flatten) else none) P = _
  rw [oko_ite]
theorem o_mul_iiF {μ : Mu} {i j : Int} {P : D → Prop} : OkO (fMul μ (.int i) (.int j)) P = (mulOk i j = true ∧ P (.int (i * j))) := by
  rw [← oko_ite]
  by_cases h : mulOk i j = true
  · rw [if_pos h]; show OkO (match (if mulOk i j = true then some (D.int (i * j)) else none) with | some z => some z | none => none) P = _; rw [if_pos h]
  · rw [if_neg h]; show OkO (match (if mulOk i j = true then some (D.int (i * j)) else none) with | some z => some z | none => none) P = _; rw [if_neg h]
theorem o_isn_non {μ : Mu} {P : D → Prop} : OkO (fIs true μ .non .non) P = P (.bl false) := id rfl
theorem o_isn_int {μ : Mu} {i : Int} {P : D → Prop} : OkO (fIs true μ (.int i) .non) P = P (.bl true) := id rfl
theorem o_isn_tup {μ : Mu} {i : List D} {P : D → Prop} : OkO (fIs true μ (.tup i) .non) P = P (.bl true) := id rfl
theorem o_isn_lst {μ : Mu} {i : List D} {P : D → Prop} : OkO (fIs true μ (.lst i) .non) P = P (.bl true) := id rfl
theorem o_isn_str {μ : Mu} {i : Str} {P : D → Prop} : OkO (fIs true μ (.str i) .non) P = P (.bl true) := id rfl
theorem o_is_non {μ : Mu} {P : D → Prop} : OkO (fIs false μ .non .non) P = P (.bl true) := id rfl
theorem o_is_int {μ : Mu} {i : Int} {P : D → Prop} : OkO (fIs false μ (.int i) .non) P = P (.bl false) := id rfl
theorem o_is_tup {μ : Mu} {i : List D} {P : D → Prop} : OkO (fIs false μ (.tup i) .non) P = P (.bl false) := id rfl
theorem o_is_lst {μ : Mu} {i : List D} {P : D → Prop} : OkO (fIs false μ (.lst i) .non) P = P (.bl false) := id rfl
theorem o_is_str {μ : Mu} {i : Str} {P : D → Prop} : OkO (fIs false μ (.str i) .non) P = P (.bl false) := id rfl
/-- of at most n hex figures -/
def Dg (n : Nat) (x : Int) : Prop := x.natAbs < 16 ^ n
theorem Dg.mono {a b : Nat} {x : Int} (h : Dg a x) (hl : a ≤ b) : Dg b x := Nat.lt_of_lt_of_le h (Nat.pow_le_pow_right (by decide) hl)
theorem Dg.mul {a b : Nat} {x y : Int} (h : Dg a x) (h2 : Dg b y) : Dg (a + b) (x * y) := by
  unfold Dg at h h2 ⊢
  rw [Int.natAbs_mul, Nat.pow_add]
  exact Nat.mul_lt_mul_of_lt_of_lt h h2
theorem Dg.add {a b : Nat} {x y : Int} (h : Dg a x) (h2 : Dg b y) : Dg (max a b + 1) (x + y) := by
  have h := h.mono (Nat.le_max_left a b)
  have h2 := h2.mono (Nat.le_max_right a b)
  unfold Dg at h h2 ⊢
  rw [Nat.pow_succ]
  have := Int.natAbs_add_le x y
  omega
theorem Dg.neg {a : Nat} {x : Int} (h : Dg a x) : Dg a (-x) := by
  unfold Dg at h ⊢
  rw [Int.natAbs_neg]
  exact h
theorem Dg.sub {a b : Nat} {x y : Int} (h : Dg a x) (h2 : Dg b y) : Dg (max a b + 1) (x - y) := by
  rw [Int.sub_eq_add_neg]
  exact h.add h2.neg
theorem Dg.lit {x : Int} {a : Nat} (h : x.natAbs < 16) (ha : 1 ≤ a) : Dg a x := Nat.lt_of_lt_of_le (show x.natAbs < 16 ^ 1 from h) (Nat.pow_le_pow_right (show 16 > 0 by decide) ha)
theorem Dg.ok {a b : Nat} {x y : Int} (h : Dg a x) (h2 : Dg b y) (ha : a ≤ 50000) (hb : b ≤ 50000) : mulOk x y = true := by
  have e : (16 : Nat) ^ 50000 = 2 ^ 200000 := by rw [show (16 : Nat) = 2 ^ 4 from rfl, ← Nat.pow_mul]
  have h := h.mono ha
  have h2 := h2.mono hb
  unfold Dg at h h2
  rw [e] at h h2
  exact mul_small h h2
theorem fdOk_dg {s : Int} {a : Nat} (h : Dg a s) (ha : a ≤ 2000) (h0 : s ≠ 0) : fdOk s = true := by
  unfold fdOk
  rw [Bool.and_eq_true]
  refine ⟨by simpa using h0, Nat.ble_eq_true_of_le ?_⟩
  have hn : s.natAbs ≠ 0 := by omega
  have h2 := h.mono ha
  unfold Dg at h2
  rw [show (16 : Nat) = 2 ^ 4 from rfl, ← Nat.pow_mul] at h2
  have := (Nat.log2_lt hn).mpr h2
  omega
theorem fdOk_small {s : Int} (h : s.natAbs < 16 ^ 20) (h0 : s ≠ 0) : fdOk s = true := fdOk_dg (a := 20) h (by decide) h0
theorem Dg.fdiv {a : Nat} {x m : Int} (h : Dg a x) (hm : 0 < m) : Dg a (x.fdiv m) := by
  have e : (x.fdiv m).natAbs ≤ x.natAbs := by
    rw [Int.fdiv_eq_ediv_of_nonneg _ (by omega)]
    by_cases hx : 0 ≤ x
    · have h1 := Int.ediv_nonneg hx (Int.le_of_lt hm)
      have h2 := Int.ediv_le_self m hx
      omega
    · have h1 : x ≤ x / m := Int.le_ediv_of_mul_le hm (by
        have : x * m ≤ x * 1 := Int.mul_le_mul_of_nonpos_left (by omega) (by omega)
        omega)
      have h2 : x / m < 0 := Int.ediv_neg_of_neg_of_pos (by omega) hm
      omega
  exact Nat.lt_of_le_of_lt e h
theorem tri2 (n : Int) : 2 * (n * (n - 1)).fdiv 2 = n * (n - 1) := by
  rw [Int.fdiv_eq_ediv_of_nonneg _ (by decide)]
  have h : ∃ z, n * (n - 1) = 2 * z := by
    have : n % 2 = 0 ∨ n % 2 = 1 := by omega
    rcases this with h | h
    · exact ⟨n / 2 * (n - 1), by rw [← Int.mul_assoc, show 2 * (n / 2) = n by omega]⟩
    · exact ⟨n * (n / 2), by rw [Int.mul_left_comm, show 2 * (n / 2) = n - 1 by omega]⟩
  obtain ⟨z, hz⟩ := h
  rw [hz]
  omega
theorem cut_2of3 {a b c : D} : cutL [a, b, c] none (some 2) = [a, b] := rfl
theorem o_ne_2 {μ : Mu} {a b x y : Int} {P : D → Prop} : OkO (fNe μ (.tup [.int a, .int b]) (.tup [.int x, .int y])) P = P (.bl (!(decide (a = x) && (decide (b = y) && true)))) := id rfl
theorem o_eq_2 {μ : Mu} {a b x y : Int} {P : D → Prop} : OkO (fEq μ (.tup [.int a, .int b]) (.tup [.int x, .int y])) P = P (.bl (decide (a = x) && (decide (b = y) && true))) := id rfl
theorem o_ne_bb {μ : Mu} {a b : Bool} {P : D → Prop} : OkO (fNe μ (.bl a) (.bl b)) P = P (.bl (!(a == b))) := id rfl
theorem o_eq_bb {μ : Mu} {a b : Bool} {P : D → Prop} : OkO (fEq μ (.bl a) (.bl b)) P = P (.bl (a == b)) := id rfl
theorem o_tru_b {μ : Mu} {b : Bool} {P : Bool → Prop} : OkO (truD μ (.bl b)) P = P b := id rfl
theorem o_tru_i {μ : Mu} {i : Int} {P : Bool → Prop} : OkO (truD μ (.int i)) P = P (i != 0) := id rfl
theorem o_tru_t {μ : Mu} {xs : List D} {P : Bool → Prop} : OkO (truD μ (.tup xs)) P = P (!xs.isEmpty) := id rfl
theorem o_tru_l {μ : Mu} {xs : List D} {P : Bool → Prop} : OkO (truD μ (.lst xs)) P = P (!xs.isEmpty) := id rfl
theorem o_tru_n {μ : Mu} {P : Bool → Prop} : OkO (truD μ .non) P = P false := id rfl
theorem natabsN {n : Nat} : Int.natAbs (no_index (@OfNat.ofNat Int n _)) = @OfNat.ofNat Nat n _ := rfl
def mulOkX : Int → Int → Bool := mulOk
theorem mulOkL {n : Nat} {j : Int} : mulOk (no_index (@OfNat.ofNat Int n _)) j = (decide (@OfNat.ofNat Nat n _ < 18446744073709551616) || mulOkX (@OfNat.ofNat Int n _) j) := by
  by_cases h : @OfNat.ofNat Nat n _ < 18446744073709551616
  · rw [mul_l (i := @OfNat.ofNat Int n _) (show n < 2 ^ 64 from h), decide_eq_true h]; rfl
  · rw [decide_eq_false h]; rfl
theorem mulOkR {n : Nat} {j : Int} : mulOk j (no_index (@OfNat.ofNat Int n _)) = (decide (@OfNat.ofNat Nat n _ < 18446744073709551616) || mulOkX j (@OfNat.ofNat Int n _)) := by
  by_cases h : @OfNat.ofNat Nat n _ < 18446744073709551616
  · rw [mul_r (j := @OfNat.ofNat Int n _) (show n < 2 ^ 64 from h), decide_eq_true h]; rfl
  · rw [decide_eq_false h]; rfl
theorem castN {n : Nat} : ((no_index (@OfNat.ofNat Nat n _) : Nat) : Int) = @OfNat.ofNat Int n _ := rfl
theorem pick_0 {a : D} : pick [0] [a] = [a] := rfl
theorem pick_01 {a b : D} : pick [0, 1] [a, b] = [a, b] := rfl
theorem pick_10 {a b : D} : pick [1, 0] [a, b] = [b, a] := rfl
theorem pick_012 {a b c : D} : pick [0, 1, 2] [a, b, c] = [a, b, c] := rfl
theorem pick_021 {a b c : D} : pick [0, 2, 1] [a, b, c] = [a, c, b] := rfl
theorem pick_102 {a b c : D} : pick [1, 0, 2] [a, b, c] = [b, a, c] := rfl
theorem pick_120 {a b c : D} : pick [1, 2, 0] [a, b, c] = [b, c, a] := rfl
theorem pick_201 {a b c : D} : pick [2, 0, 1] [a, b, c] = [c, a, b] := rfl
theorem pick_210 {a b c : D} : pick [2, 1, 0] [a, b, c] = [c, b, a] := rfl
end Ar

set_option Elab.async false
set_option linter.all false
set_option maxRecDepth 100000
set_option maxHeartbeats 2000000
/-! Ar13: dicts of the module with text keys -/
namespace Ar
open PySem PySem.Spec PyProof.Rows L2

structure DctC (K : PySem.W.Frag) (w : World) (mg : Str → Option Value) (x : Str) (kvs : List (Str × D)) : Prop where
  gl : mg x = some (.ref (He.ga K x))
  ex : ∃ es n, KDict K w (He.ga K x) es n
  has : ∀ z d, kvs.lookup z = some d → ∃ u v, PySem.W.nsIn K (He.ga K x) z = some (some u) ∧ RelV v u ∧ ∀ ρ F, Dn K ρ F v d
  no : ∀ z, kvs.lookup z = none → PySem.W.nsIn K (He.ga K x) z = some none
def dKIx (kvs : List (Str × D)) (b : DE) : DE := fun Γ μ => (b Γ μ).bind fun y μ1 => match y with
  | .str z => R.of μ1 (kvs.lookup z)
  | _ => .stk
def dKGet (kvs : List (Str × D)) (b f : DE) : DE := fun Γ μ => (b Γ μ).bind fun y μ1 => (f Γ μ1).bind fun z μ2 => match y with
  | .str k => .ok ((kvs.lookup k).getD z) μ2
  | _ => .stk
section
variable {X : Cx} {E : XK} {o b e f : Expr} {td ty tx : TE} {db df : DE} {pos apos cpos p : Pos}
theorem q_ixK {x : Str} {kvs : List (Str × D)} (g : DctC X.K X.w X.mg x kvs) (hb : QE X E b db) (hg : Gl X x := by rfl) (hs : PlainIx b := by exact fun _ _ => rfl) (hd : (x == ("__debug__" : Str)) = false := by decide) : QE X E (.Subscript (.Name x p) b pos) (dKIx kvs db) := by
  obtain ⟨tb, b1, b2⟩ := hb.ex
  refine ⟨_, pe_ix (ta := tC (.ref (He.ga X.K x))) ix_kdict (pe_glob hg g.gl rfl hd) b1 hs, ?_⟩
  intro ρ F H Γ μ σ k s Q h
  refine b2 ρ F H Γ μ σ k s _ ((WpR.bind h).mono (fun y μ1 q => ?_) fun _ _ q => q)
  intro ρ1 F1 H1 v n1 k1 r1
  cases r1 with
  | str z =>
    obtain ⟨d, e, q⟩ := WpR.of q
    obtain ⟨es, n, kd⟩ := g.ex
    obtain ⟨u, v, hn, ru, hv⟩ := g.has z d e
    exact ⟨_, z, v, rfl, rfl, ⟨es, n, u, kd.at_, kd.lit, hn, ru⟩, q ρ1 F1 H1 v n1 k1 (hv _ _)⟩
  | _ => exact False.elim q
end
/-! ### the head with tables -/
def obsY (fa : List He.Fa) (fn : List He.DefD) (ts : List He.Tab) (ex : PySem.W.Frag → Bool) (K : PySem.W.Frag) : He.AlT := (obsX fa fn ex K, ts.map fun t => He.dicW K (t.1 K))
def SaysY (fa : List He.Fa) (fn : List He.DefD) (ts : List He.Tab) (ex : PySem.W.Frag → Bool) (w : World) (K : PySem.W.Frag) : Prop := obsY fa fn ts ex K = He.valT fn ts w
theorem SaysY.x {fa : List He.Fa} {fn : List He.DefD} {ts : List He.Tab} {ex : PySem.W.Frag → Bool} {w : World} {K : PySem.W.Frag} (c : SaysY fa fn ts ex w K) : SaysX fa fn ex K := congrArg (fun z : He.AlT => z.1) c
theorem SaysY.tab {fa : List He.Fa} {fn : List He.DefD} {ts : List He.Tab} {ex : PySem.W.Frag → Bool} {w : World} {K : PySem.W.Frag} (c : SaysY fa fn ts ex w K) (i : Nat) {t : He.Tab} (h : ts[i]? = some t := by rfl) : ∃ es n, KDict K w (t.1 K) es n := by
  have e : ts.map (fun t => He.dicW K (t.1 K)) = ts.map fun t => some (He.keysIn w.params t.2) := congrArg (fun z : He.AlT => z.2) c
  have e2 : (ts.map fun t => He.dicW K (t.1 K))[i]? = (ts.map fun t => some (He.keysIn w.params t.2))[i]? := by rw [e]
  rw [List.getElem?_map, List.getElem?_map, h] at e2
  exact He.dicW_ok (Option.some.inj e2)
/-- a table's value: flat, or a tuple of flat ones -/
inductive Tv where
  | one (v : He.Dv)
  | tup (vs : List He.Dv)
def Tv.d : Tv → Option D
  | .one v => dvD v
  | .tup vs => (dvDs vs).map .tup
def tupAt (K : PySem.W.Frag) (a : Addr) (vs : List He.Dv) : Bool := match K.lookup a with
  | some ⟨.type c, _, .seq its _, _⟩ => decide (c = "tuple") && (decide (its.size ≤ sizeLine) && He.relAll (vs.map (He.Dv.v K)) its.toList)
  | _ => false
theorem tupAt_ok {K : PySem.W.Frag} {a : Addr} {vs : List He.Dv} (h : tupAt K a vs = true) (H : Hp) : SqT K H a (vs.map (He.Dv.v K)) := by
  unfold tupAt at h
  split at h
  · rename_i c od its n sl q
    obtain ⟨h1, h2⟩ := He.ba h
    obtain ⟨h3, h4⟩ := He.ba h2
    exact .inr ⟨_, its, n, q, congrArg Value.type (of_decide_eq_true h1), rfl, of_decide_eq_true h3, He.relAll_ok h4⟩
  · cases h
def tvB (K : PySem.W.Frag) (u : Value) : Tv → Bool
  | .one v => He.relB (v.v K) u
  | .tup vs => match u with
    | .ref a => tupAt K a vs
    | _ => false
def tabB (K : PySem.W.Frag) (x : Str) (kvs : List (Str × Tv)) : Bool := (kvs.all fun q => match PySem.W.nsIn K (He.ga K x) q.1 with
  | some (some u) => tvB K u q.2
  | _ => false) && match K.lookup (He.ga K x) with
  | some ⟨_, _, .dict es _, _⟩ => es.toList.all fun e => match e.key with
    | .str z _ => (kvs.map (·.1)).contains z
    | _ => false
  | _ => false
def tvD : List (Str × Tv) → Option (List (Str × D))
  | [] => some []
  | (k, v) :: r => match v.d, tvD r with
    | some d, some ds => some ((k, d) :: ds)
    | _, _ => none
theorem tvD_has : ∀ {kvs : List (Str × Tv)} {ds : List (Str × D)} {z : Str} {d : D}, tvD kvs = some ds → ds.lookup z = some d → ∃ v, (z, v) ∈ kvs ∧ v.d = some d
  | [], _, z, d, h, e => by cases h; cases e
  | (k, v) :: r, ds, z, d, h, e => by
    unfold tvD at h
    split at h
    · rename_i d1 ds1 e1 e2
      cases h
      rw [List.lookup_cons] at e
      split at e
      · rename_i hz
        cases e
        have : z = k := by simpa using hz
        subst this
        exact ⟨v, List.mem_cons_self, e1⟩
      · obtain ⟨v2, m, e3⟩ := tvD_has e2 e
        exact ⟨v2, List.mem_cons_of_mem _ m, e3⟩
    · cases h
theorem tvD_no : ∀ {kvs : List (Str × Tv)} {ds : List (Str × D)} {z : Str}, tvD kvs = some ds → ds.lookup z = none → z ∉ kvs.map (·.1)
  | [], _, z, h, e => by simp
  | (k, v) :: r, ds, z, h, e => by
    unfold tvD at h
    split at h
    · rename_i d1 ds1 e1 e2
      cases h
      rw [List.lookup_cons] at e
      split at e
      · cases e
      · rename_i hz
        have h1 := tvD_no e2 e
        simp only [List.map_cons, List.mem_cons, not_or]
        exact ⟨by simpa using hz, h1⟩
    · cases h
theorem glo_dct {K : PySem.W.Frag} {w : World} {h : Heap} {mg : Str → Option Value} {x : Str} {kvs : List (Str × Tv)} {ds : List (Str × D)} (X : K.In h) (G : h.Ns mainGlobals mg) (c1 : (He.Fa.glo x).ok K = true) (c2 : ∃ es n, KDict K w (He.ga K x) es n) (c3 : tabB K x kvs = true) (e : tvD kvs = some ds) : DctC K w mg x ds := by
  obtain ⟨h1, h2⟩ := He.ba c3
  refine ⟨He.glo_ok X G c1, c2, fun z d hz => ?_, fun z hz => ?_⟩
  · obtain ⟨v, hm, hv⟩ := tvD_has e hz
    have h3 := List.all_eq_true.mp h1 (z, v) hm
    split at h3
    · rename_i u hn
      cases v with
      | one v => exact ⟨u, v.v K, hn, He.relB_ok h3, fun ρ F => dvD_ok hv ρ F⟩
      | tup vs =>
        cases u with
        | ref a =>
          have hv : (dvDs vs).map D.tup = some d := hv
          cases hd : dvDs vs with
          | none => rw [hd] at hv; cases hv
          | some xs =>
            rw [hd] at hv
            cases hv
            exact ⟨_, .ref a, hn, rfl, fun ρ F => .tup (tupAt_ok h3 F) (dvDs_ok ρ F hd)⟩
        | _ => cases h3
    · cases h3
  · have hn := tvD_no e hz
    unfold PySem.W.nsIn
    split at h2
    · rename_i c od es n sl q
      rw [q]
      have h3 := List.all_eq_true.mp h2
      have f1 : es.toList.find? (·.key.isStr z) = none := by
        rw [List.find?_eq_none]
        intro e he
        have h4 := h3 e he
        split at h4
        · rename_i y t ek
          rw [ek]
          intro hc
          have : y = z := by
            have hc : (y == z) = true := hc
            simpa using hc
          subst this
          exact hn (by simpa using h4)
        · cases h4
      have f2 : es.toList.any (·.refKey) = false := by
        rw [List.any_eq_false]
        intro e he
        have h4 := h3 e he
        split at h4
        · rename_i y t ek
          unfold DictEntry.refKey
          rw [ek]
          simp
        · cases h4
      simp only [f1, f2]
      rfl
    · cases h2
end Ar

set_option Elab.async false
set_option linter.all false
set_option maxRecDepth 100000
set_option maxHeartbeats 2000000
/-! Ar14: texts: text * int, text[::-1]; dict(pairs), d[k] of a dict that never changes -/
namespace Ar
open PySem PySem.Spec PyProof.Rows L2

section
variable {X : Cx}
def fMulS := fun (_ : Mu) (x y : D) => match x, y with
  | .str z, .int n => if n.natAbs < 1000000 ∧ z.length * n.toNat ≤ 1000000 then some (D.str (Txt.mul z n)) else none
  | _, _ => none
def revS (z : Str) : Str := ⟨z.cps.toList.reverse.toArray⟩
def dRevS (e : DE) : DE := fun Γ μ => (e Γ μ).bind fun x μ1 => match x with
  | .str z => if z.length ≤ 1000000 then .ok (.str (revS z)) μ1 else .stk
  | _ => .stk
end
end Ar

set_option Elab.async false
set_option linter.all false
set_option maxRecDepth 100000
set_option maxHeartbeats 2000000
/-! Ar15: dict(pairs), d[k] of a dict that never changes -/
namespace Ar
open PySem PySem.Spec PyProof.Rows L2

def keyD : D → Option Key
  | .int i => some (.inl i)
  | .str x => some (.inr x)
  | _ => none
def getD' (kvs : List (Key × D)) (k : Key) : Option D := (kvs.find? fun kv => decide (kv.1 = k)).map (·.2)
theorem DnK.get {K : PySem.W.Frag} {ρ : List Addr} {F : Hp} {k : Key} {d : D} : ∀ {vs : List (Key × V)} {ds : List (Key × D)}, DnK K ρ F vs ds → getD' ds k = some d → ∃ v, valV vs k = some v ∧ Dn K ρ F v d
  | _, _, .nil, h => by cases h
  | _, _, .cons (f := f) r t, h => by
    unfold getD' at h
    unfold valV
    rw [List.find?_cons] at h ⊢
    by_cases e : f = k
    · rw [decide_eq_true e] at h ⊢
      cases h
      exact ⟨_, rfl, r⟩
    · rw [decide_eq_false e] at h ⊢
      exact DnK.get t h
def dDGet (o i : DE) : DE := fun Γ μ => (o Γ μ).bind fun x μ1 => (i Γ μ1).bind fun y μ2 => match x with
  | .dK kvs => match keyD y with
    | some k => R.of μ2 (getD' kvs k)
    | none => .stk
  | _ => .stk
section
variable {X : Cx} {E : XK} {o i : Expr} {do_ di : DE} {pos : Pos}
end
end Ar

set_option Elab.async false
set_option linter.all false
set_option maxRecDepth 100000
set_option maxHeartbeats 2000000
/-! Ar16: Ok rules of Ar13 to Ar15 -/
namespace Ar
open PySem PySem.Spec PyProof.Rows L2
def OkT (d : D) (P : Str → Prop) : Prop := match d with
  | .str z => P z
  | _ => False
section
variable {Γ : Gam} {μ : Mu} {Q : D → Mu → Prop}
theorem okt {z : Str} {P : Str → Prop} : OkT (.str z) P = P z := id rfl
theorem ok_kIx [ExW] {kvs : List (Str × D)} {b : DE} : Ok (dKIx kvs b Γ μ) Q = Ok (b Γ μ) fun y μ1 => OkT y fun z => OkO (kvs.lookup z) fun d => Q d μ1 := by
  unfold dKIx; rw [ok_bind]; congr 1; funext y μ1
  cases y with
  | str z => exact ok_of
  | _ => rfl
theorem ok_kGet [ExW] {kvs : List (Str × D)} {b f : DE} : Ok (dKGet kvs b f Γ μ) Q = Ok (b Γ μ) fun y μ1 => Ok (f Γ μ1) fun z μ2 => OkT y fun k => Q ((kvs.lookup k).getD z) μ2 := by
  unfold dKGet; rw [ok_bind]; congr 1; funext y μ1; rw [ok_bind]; congr 1; funext z μ2
  cases y <;> rfl
theorem ok_revS [ExW] {e : DE} : Ok (dRevS e Γ μ) Q = Ok (e Γ μ) fun x μ1 => OkT x fun z => z.length ≤ 1000000 ∧ Q (.str (revS z)) μ1 := by
  unfold dRevS; rw [ok_bind]; congr 1; funext x μ1
  cases x with
  | str z => exact ok_ite
  | _ => rfl
def OkD (d : D) (P : List (Key × D) → Prop) : Prop := match d with
  | .dK kvs => P kvs
  | _ => False
theorem okd {kvs : List (Key × D)} {P : List (Key × D) → Prop} : OkD (.dK kvs) P = P kvs := id rfl
theorem ok_dGet [ExW] {o i : DE} : Ok (dDGet o i Γ μ) Q = Ok (o Γ μ) fun x μ1 => Ok (i Γ μ1) fun y μ2 => OkD x fun kvs => OkO (keyD y) fun k => OkO (getD' kvs k) fun d => Q d μ2 := by
  unfold dDGet; rw [ok_bind]; congr 1; funext x μ1; rw [ok_bind]; congr 1; funext y μ2
  cases x with
  | dK kvs =>
    show Ok (match keyD y with | some k => R.of μ2 (getD' kvs k) | none => .stk) Q = OkO (keyD y) fun k => OkO (getD' kvs k) fun d => Q d μ2
    cases keyD y with
    | none => rfl
    | some k => exact ok_of
  | _ => rfl
theorem o_mulS {z : Str} {n : Int} {P : D → Prop} : OkO (fMulS μ (.str z) (.int n)) P = ((n.natAbs < 1000000 ∧ z.length * n.toNat ≤ 1000000) ∧ P (.str (Txt.mul z n))) := by
  show OkO (if n.natAbs < 1000000 ∧ z.length * n.toNat ≤ 1000000 then some (D.str (Txt.mul z n)) else none) P = _
  rw [oko_ite]
end
end Ar

set_option Elab.async false
set_option linter.all false
set_option maxRecDepth 100000
set_option maxHeartbeats 2000000
/-! Ar17: repr of data of any depth -/
namespace Ar
open PySem PySem.Spec PyProof.Rows L2

def rRepr (K : PySem.W.Frag) : List V → Hp → VK → Prop := fun xs H Q => ∃ v d, xs = [v] ∧ Dp K H v d ∧ d.showable = true ∧ d.hasDict = false ∧ d.depth ≤ 60 ∧ d.shown.length ≤ sizeLine ∧ Q (.str d.shown) H
theorem call_reprP {X : Cx} (hg : X.A.guards = some []) (hu : X.A.units + 64 < cLine) : CallR X (.builtin "repr") (rRepr X.K) := by
  intro pins s σ H xs us Q I r h
  obtain ⟨v, d, rfl, hd, hs, hn, hz, hl, q⟩ := h
  obtain ⟨u, rfl, rv⟩ := vals1 r
  cases hd with
  | non => cases rv; exact PySem.P.repr_of_none ⟨.str _, H, I.tok _, ⟨_, rfl⟩, q⟩
  | bl b => cases rv; exact PySem.P.repr_of_bool ⟨.str _, H, I.tok _, ⟨_, rfl⟩, q⟩
  | int i =>
    obtain ⟨t, rfl⟩ := rv
    exact PySem.P.repr_of_int (by simpa [PyData.showable] using hs) ⟨.str _, H, I.tok _, ⟨_, rfl⟩, q⟩
  | str x =>
    obtain ⟨t, rfl⟩ := rv
    exact PySem.P.repr_of_str ⟨.str _, H, I.tok _, ⟨_, rfl⟩, q⟩ hl
  | @lst a _ ds h1 h2 =>
    obtain ⟨as, r1⟩ := Dp.reads I _ _ u (.lst h1 h2) rv
    cases rv
    exact repr_of_reads' r1 hs (fun z => by rw [hn] at z; cases z) hg (by omega) (fun _ _ e => e) (fun h' u tk k => ⟨.str _, H, I.kept k, ⟨_, rfl⟩, q⟩) hl
  | @tup a _ ds h1 h2 =>
    obtain ⟨as, r1⟩ := Dp.reads I _ _ u (.tup h1 h2) rv
    cases rv
    exact repr_of_reads' r1 hs (fun z => by rw [hn] at z; cases z) hg (by omega) (fun _ _ e => e) (fun h' u tk k => ⟨.str _, H, I.kept k, ⟨_, rfl⟩, q⟩) hl
/-- the signs of a text of data are not too many, its ints not too great -/
def showD (d : D) : Bool := plainD 20 d && (toP d).showable && decide ((toP d).shown.length ≤ sizeLine)
def shw (d : D) : Str := (toP d).shown
def fRepr : Mu → List D → Option D := fun μ ds => match ds with
  | [x] => if showD (unloc μ x) = true then some (.str (shw (unloc μ x))) else none
  | _ => none
theorem plain_noDict : ∀ (n : Nat) (d : D), plainD n d = true → (toP d).hasDict = false
  | n, .non, _ => by simp [toP, PyData.hasDict]
  | n, .bl b, _ => by simp [toP, PyData.hasDict]
  | n, .int i, _ => by simp [toP, PyData.hasDict]
  | n, .str i, _ => by simp [toP, PyData.hasDict]
  | 0, .tup ds, h => by simp [plainD] at h
  | 0, .lst ds, h => by simp [plainD] at h
  | n + 1, .tup ds, h => by
    have h1 : ds.all (plainD n) = true := h
    rw [toP, PyData.hasDict]
    clear h
    induction ds with
    | nil => simp [toPs, PyData.hasDictAll]
    | cons d ds ih =>
      rw [List.all_cons, Bool.and_eq_true] at h1
      rw [toPs, PyData.hasDictAll, plain_noDict n d h1.1, ih h1.2]
      rfl
  | n + 1, .lst ds, h => by
    have h1 : ds.all (plainD n) = true := h
    rw [toP, PyData.hasDict]
    clear h
    induction ds with
    | nil => simp [toPs, PyData.hasDictAll]
    | cons d ds ih =>
      rw [List.all_cons, Bool.and_eq_true] at h1
      rw [toPs, PyData.hasDictAll, plain_noDict n d h1.1, ih h1.2]
      rfl
  | n, .scr _, h => by cases n <;> simp [plainD] at h
  | n, .ins _ _, h => by cases n <;> simp [plainD] at h
  | n, .slt _ _, h => by cases n <;> simp [plainD] at h
  | n, .dK _, h => by cases n <;> simp [plainD] at h
  | n, .loc _, h => by cases n <;> simp [plainD] at h
  | n, .glo _, h => by cases n <;> simp [plainD] at h
  | n, .ty _, h => by cases n <;> simp [plainD] at h
  | n, .exn _ _ _ _, h => by cases n <;> simp [plainD] at h
  | n, .adr _, h => by cases n <;> simp [plainD] at h
  | n, .clo _ _ _ _ _, h => by cases n <;> simp [plainD] at h
theorem cd_repr {X : Cx} (hg : X.A.guards = some []) (hu : X.A.units + 64 < cLine) : CallD X (.builtin "repr") fRepr := by
  refine ⟨_, call_reprP hg hu, fun ρ F H μ vs ds z k rv ez Q q => ?_⟩
  unfold fRepr at ez
  split at ez
  · rename_i x
    split at ez
    · rename_i hs
      cases ez
      unfold showD at hs
      rw [Bool.and_eq_true, Bool.and_eq_true, decide_eq_true_eq] at hs
      obtain ⟨⟨h1, h2⟩, h3⟩ := hs
      cases rv with
      | cons r1 r2 =>
        cases r2
        exact ⟨_, _, rfl, dp_un k h1 r1, h2, plain_noDict _ _ h1, Nat.le_trans (plain_toP _ _ h1).2 (by decide), h3, q ρ F H _ Nx.refl k (.str _)⟩
    · cases ez
  · cases ez
/-- sizes: every leaf at most B signs -/
theorem show_le (B : Nat) (hB : 8 ≤ B) (d : D) (h : (toP d).leavesShort B = true) (hw : (B + 2) * (toP d).weight + B ≤ sizeLine) : (toP d).shown.length ≤ sizeLine := Nat.le_trans (PyData.shown_le B hB _ h) hw
end Ar

set_option Elab.async false
set_option linter.all false
set_option maxRecDepth 100000
set_option maxHeartbeats 2000000
/-! Ar18: instances that do not change: plain ones (made by __init__ that keeps its parameters), one with slots; attributes; isinstance -/
namespace Ar
open PySem PySem.Spec PyProof.Rows L2

section
variable {K : PySem.W.Frag} {ρ ρ' : List Addr} {F F' H H' : Hp} {μ μ' : Mu}
/-- an object of both heaps is laid or changed, that nothing tells of -/
theorem HpOk.both (k : HpOk K ρ μ F H) {p : Addr} {o : HO} (hp : p ∉ ρ) (hf : F p = none) : HpOk K ρ μ (upd F p o) (upd H p o) := by
  have sub : Sub F (upd F p o) := fun a u e => by
    rw [upd_ne fun z => by subst z; rw [hf] at e; cases e]
    exact e
  refine ⟨fun a u e => ?_, k.len, k.nd, fun n a u e1 e2 => ?_⟩
  · by_cases h : a = p
    · subst h
      rw [upd_same] at e ⊢
      exact e
    · rw [upd_ne h] at e ⊢
      exact k.ex a u e
  · have ne : a ≠ p := fun z => by subst z; exact hp (List.mem_of_getElem? e1)
    exact (k.mu n a u e1 e2).mono (fun _ _ h => h) sub (upd_ne ne) fun z => by rw [upd_ne ne]; exact z
end

/-! ### making -/
theorem Pm.of {P : Program} {w : World} {K : PySem.W.Frag} {mg : Str → Option Value} {base : Heap} {Z : CXT} {k : Nat} {f : Addr} {fd : FuncData} {ps : List Str} {sp : Sp} (F : FnOk P w K mg base Z k f fd ps sp) : Pm P w K mg base Z k f fd ps sp := ⟨F.len, fun A o s H ar us xs D E hr => F.run A o s H ar us xs D E hr.r⟩
theorem guards_make {A : Around} {C : Addr} {us : List Value} {kw : List (Str × Value)} (h : A.guards = some []) : (A.under (.builtin "type.__call__" ⟨.ref C :: us, kw⟩)).guards = some [] := by
  first
  | (simp [Around.under, Code.guards, Code.isGuard, pushGuards, h]; done)
  | (simp [Around.under, Code.guards, Code.isGuard, guardIds, pushGuards, h]; done)
theorem RoomG.make {k : Nat} {A : Around} (h : RoomG (k + 1) A) (C : Addr) (us : List Value) (kw : List (Str × Value)) : RoomG k (A.under (.builtin "type.__call__" ⟨.ref C :: us, kw⟩)) := ⟨h.r.make C us kw, guards_make h.g⟩
section
variable {X : Cx} {Z : CXT} {k : Nat} {f C : Addr} {fd : FuncData} {ps : List Str} {sp : Sp} {E : XK} {x : Str} {p pos : Pos} {e : Expr} {es : List Expr} {ta : TA}
end
/-- plain instances: __init__ keeps its parameters under these names -/
def spKeep (K : PySem.W.Frag) (C : Str) (fs : List Str) : Sp := fun vs H Q _ => ∃ x dx args, vs = V.ref x :: args ∧ args.length = fs.length ∧ H x = some (.ins (He.ga K C) dx []) ∧ Q .non (upd H x (.ins (He.ga K C) dx (fs.zip args)))
def dMake (C : Str) (fs : List Str) (a : DA) : DE := fun Γ μ => (a Γ μ).bind fun ds μ1 => if ds.length = fs.length then .ok (.ins C (fs.zip ds)) μ1 else .stk
/-! ### attributes -/
def fFld (C f : Str) : D → Option D
  | .ins C' fs => if C' = C then fs.lookup f else none
  | _ => none
def dFld (C f : Str) (e : DE) : DE := fun Γ μ => (e Γ μ).bind fun d μ1 => R.of μ1 (fFld C f d)
/-! ### one slot -/
def fSlt (C : Str) (i : Nat) : D → Option D
  | .slt C' ds => if C' = C then ds[i]? else none
  | _ => none
def dSlt (C : Str) (i : Nat) (e : DE) : DE := fun Γ μ => (e Γ μ).bind fun d μ1 => R.of μ1 (fSlt C i d)
/-! ### isinstance(x, C), C a class with slots -/
structure IsiK (K : PySem.W.Frag) (C : Str) : Prop where
  s : SlX.SCls K (He.ga K C)
  i : SlX.SIsi K (He.ga K C)
  one : PySem.W.kitOne K (.ref (He.ga K C)) (.ref (He.ga K C)) = some true
def fIsaC (C : Str) : Mu → List D → Option D := fun _ ds => match ds with
  | [.slt C' _, .glo C2] => if C' = C ∧ C2 = C then some (.bl true) else none
  | _ => none
theorem cd_isaC {X : Cx} {C : Str} (k : IsiK X.K C) : CallD X (.builtin "isinstance") (fIsaC C) := by
  refine ⟨_, SlX.call_isiSl (.ref (He.ga X.K C)), fun ρ F H μ vs ds z kk rv ez Q q => ?_⟩
  unfold fIsaC at ez
  split at ez
  · rename_i C' ds C2
    split at ez
    · rename_i hC
      obtain ⟨rfl, rfl⟩ := hC
      cases ez
      cases rv with
      | cons r1 r2 =>
        cases r2 with
        | cons r2 r3 =>
          cases r3
          cases r2
          cases r1 with
          | @slt a dx _ vs _ h1 h2 h3 =>
            exact ⟨a, _, dx, vs.map some, _, true, rfl, rfl, fun w hw => hw, .inr ⟨kk.ex _ _ h1, kk.ex _ _ h2⟩, k.s, k.i, k.one, q ρ F H _ Nx.refl kk (.bl true)⟩
    · cases ez
  · cases ez
/-! ### an __init__ that keeps its parameters -/
/-! ### a class with one slot, whose __init__ may refuse -/
def dMakeS (C : Str) (m : Fn) (a : DA) : DE := fun Γ μ => (a Γ μ).bind fun ds μ1 => match ds with
  | [d] => (m [d] μ1).nox.bind fun r μ2 => match r with
    | .non => .ok (.slt C [d]) μ2
    | _ => .stk
  | _ => .stk
end Ar

set_option Elab.async false
set_option linter.all false
set_option maxRecDepth 100000
set_option maxHeartbeats 2000000
/-! Ar19: classes at the head; chains -/
namespace Ar
open PySem PySem.Spec PyProof.Rows L2

def clsBody (s : Stmt) : List Stmt := match s with
  | .ClassDef _ _ _ b _ _ _ _ _ _ _ => b
  | _ => []
def clsAt (s : Stmt) (i : Nat) : Stmt := (clsBody s).getD i (.Pass ⟨0, 0, 0, 0⟩)
end Ar

set_option Elab.async false
set_option linter.all false
set_option maxRecDepth 100000
set_option maxHeartbeats 2000000
/-! Ar20: a if t else b as a test; Ok rules of instances -/
namespace Ar
open PySem PySem.Spec PyProof.Rows L2

def dIfT (t x y : DT) : DT := fun Γ μ => (t Γ μ).bind fun c μ1 => match c with
  | true => x Γ μ1
  | false => y Γ μ1
section
variable {X : Cx} {E : XK} {c a b : Expr} {t da db : DT} {pos : Pos}
end
/-! ### Ok rules -/
section
variable {Γ : Gam} {μ : Mu} {Q : D → Mu → Prop}
theorem ok_ifT [ExW] {t x y : DT} {QB : Bool → Mu → Prop} : Ok (dIfT t x y Γ μ) QB = Ok (t Γ μ) fun c μ1 => if c = true then Ok (x Γ μ1) QB else Ok (y Γ μ1) QB := by
  unfold dIfT; rw [ok_bind]; congr 1; funext c μ1; cases c <;> rfl
theorem ok_fld [ExW] {C f : Str} {e : DE} : Ok (dFld C f e Γ μ) Q = Ok (e Γ μ) fun d μ1 => OkO (fFld C f d) fun z => Q z μ1 := by
  unfold dFld; rw [ok_bind]; congr 1; funext d μ1; rw [ok_of]
theorem ok_slt [ExW] {C : Str} {i : Nat} {e : DE} : Ok (dSlt C i e Γ μ) Q = Ok (e Γ μ) fun d μ1 => OkO (fSlt C i d) fun z => Q z μ1 := by
  unfold dSlt; rw [ok_bind]; congr 1; funext d μ1; rw [ok_of]
theorem o_slt0 {C : Str} {d : D} {P : D → Prop} : OkO (fSlt C 0 (.slt C [d])) P = P d := by
  show OkO (if C = C then some d else none) P = _
  rw [if_pos rfl]; rfl
theorem ok_make [ExW] {C : Str} {fs : List Str} {a : DA} : Ok (dMake C fs a Γ μ) Q = Ok (a Γ μ) fun ds μ1 => ds.length = fs.length ∧ Q (.ins C (fs.zip ds)) μ1 := by
  unfold dMake
  rw [ok_bind]
  congr 1
  funext ds μ1
  by_cases h : ds.length = fs.length
  · rw [if_pos h]; exact propext ⟨fun z => ⟨h, z⟩, fun z => z.2⟩
  · rw [if_neg h]; exact propext ⟨fun z => False.elim z, fun z => h z.1⟩
theorem ok_makeS [ExW] {C : Str} {m : Fn} {e : DE} : Ok (dMakeS C m (daCons e daNil) Γ μ) Q = Ok (e Γ μ) fun d μ1 => @Ok xp0 D (m [d] μ1) fun r μ2 => r = .non ∧ Q (.slt C [d]) μ2 := by
  unfold dMakeS
  rw [ok_bind, ok_cons]
  congr 1
  funext d μ1
  rw [ok_nil]
  show Ok (((m [d] μ1).nox).bind _) Q = _
  rw [ok_bind, ok_nox]
  congr 1
  funext r μ2
  cases r <;> first | exact propext ⟨fun z => ⟨rfl, z⟩, fun z => z.2⟩ | exact propext ⟨fun z => False.elim z, fun z => nomatch z.1⟩
theorem o_isaC {μ : Mu} {C : Str} {ds : List D} {P : D → Prop} : OkO (fIsaC C μ [.slt C ds, .glo C]) P = P (.bl true) := by
  simp only [fIsaC, and_self, if_true]; rfl
theorem o_isn_ins {μ : Mu} {C : Str} {ds} {P : D → Prop} : OkO (fIs true μ (.ins C ds) .non) P = P (.bl true) := id rfl
theorem o_is_ins {μ : Mu} {C : Str} {ds} {P : D → Prop} : OkO (fIs false μ (.ins C ds) .non) P = P (.bl false) := id rfl
end
end Ar

set_option Elab.async false
set_option linter.all false
set_option maxRecDepth 100000
set_option maxHeartbeats 2000000
/-! Ar21: zip of a tuple and a list -/
namespace Ar
open PySem PySem.Spec PyProof.Rows L2

/-! ### in data -/
def diZipM (a : DA) : DA := fun Γ μ => (a Γ μ).bind fun xs μ1 => match xs with
  | [.tup ds, y] => (seqIL y μ1).bind fun es μ3 => .ok (zipD ds es) μ3
  | _ => .stk
/-- zip of two lists, of two tuples, of a tuple and a list -/
def mixed : List D → Bool
  | [.tup _, .tup _] => false
  | [.tup _, _] => true
  | _ => false
def diZipX (a : DA) : DA := fun Γ μ => match a Γ μ with
  | .ok xs _ => if mixed xs = true then diZipM a Γ μ else diZip a Γ μ
  | _ => diZip a Γ μ
section
variable {Γ : Gam} {μ : Mu} {QL : List D → Mu → Prop}
end
end Ar

set_option Elab.async false
set_option linter.all false
set_option maxRecDepth 100000
set_option maxHeartbeats 2000000
/-! Ar22: Ok rules of zip, of fields -/
namespace Ar
open PySem PySem.Spec PyProof.Rows L2

def zipR (x y : D) (μ : Mu) : R (List D) := match x, y with
  | .tup ds, .tup es => .ok (zipD ds es) μ
  | .tup ds, y => (seqIL y μ).bind fun es μ3 => .ok (zipD ds es) μ3
  | x, y => (seqIL x μ).bind fun ds μ2 => (seqIL y μ2).bind fun es μ3 => .ok (zipD ds es) μ3
section
variable {Γ : Gam} {μ : Mu} {QL : List D → Mu → Prop}
theorem ok_izip [ExW] {e1 e2 : DE} : Ok (diZipX (daCons e1 (daCons e2 daNil)) Γ μ) QL = Ok (e1 Γ μ) fun x μ1 => Ok (e2 Γ μ1) fun y μ2 => Ok (zipR x y μ2) QL := by
  unfold diZipX
  cases h1 : e1 Γ μ with
  | stk => simp only [daCons, h1, R.bind]; unfold diZip; simp only [daCons, h1, R.bind]; rfl
  | exc _ _ => simp only [daCons, h1, R.bind]; unfold diZip; simp only [daCons, h1, R.bind]; rfl
  | ok x μ1 =>
    cases h2 : e2 Γ μ1 with
    | stk => simp only [daCons, h1, h2, R.bind]; unfold diZip; simp only [daCons, h1, h2, R.bind]; show _ = Ok (e2 Γ μ1) _; rw [h2]; rfl
    | exc _ _ => simp only [daCons, h1, h2, R.bind]; unfold diZip; simp only [daCons, h1, h2, R.bind]; show _ = Ok (e2 Γ μ1) _; rw [h2]; rfl
    | ok y μ2 =>
      have e : (daCons e1 (daCons e2 daNil)) Γ μ = .ok [x, y] μ2 := by simp only [daCons, daNil, h1, h2, R.bind]
      rw [e]
      show Ok (if mixed [x, y] = true then diZipM (daCons e1 (daCons e2 daNil)) Γ μ else diZip (daCons e1 (daCons e2 daNil)) Γ μ) QL = (Ok (e2 Γ μ1) fun y μ2 => Ok (zipR x y μ2) QL)
      rw [h2]
      show _ = Ok (zipR x y μ2) QL
      unfold diZipM diZip
      rw [e]
      cases x <;> cases y <;> rfl
theorem zipR_ll [ExW] {xs ys : List D} : Ok (zipR (.lst xs) (.lst ys) μ) QL = QL (zipD xs ys) μ := rfl
theorem zipR_tl [ExW] {xs ys : List D} : Ok (zipR (.tup xs) (.lst ys) μ) QL = QL (zipD xs ys) μ := rfl
theorem zipR_tt [ExW] {xs ys : List D} : Ok (zipR (.tup xs) (.tup ys) μ) QL = QL (zipD xs ys) μ := rfl
end
section
variable {a b c : D} {P : D → Prop}
theorem o_parts : OkO (fFld "Row" "parts" (.ins "Row" [("parts", a), ("shares", b)])) P = P a := rfl
theorem o_shares : OkO (fFld "Row" "shares" (.ins "Row" [("parts", a), ("shares", b)])) P = P b := rfl
theorem o_east : OkO (fFld "Shape" "east" (.ins "Shape" [("east", a), ("north", b), ("rests", c)])) P = P a := rfl
theorem o_north : OkO (fFld "Shape" "north" (.ins "Shape" [("east", a), ("north", b), ("rests", c)])) P = P b := rfl
theorem o_rests : OkO (fFld "Shape" "rests" (.ins "Shape" [("east", a), ("north", b), ("rests", c)])) P = P c := rfl
end
theorem zip3 {a b c : D} : List.zip ([("east" : Str), ("north" : Str), ("rests" : Str)]) [a, b, c] = [(("east" : Str), a), ("north", b), ("rests", c)] := rfl
theorem zip2 {a b : D} : List.zip ([("parts" : Str), ("shares" : Str)]) [a, b] = [(("parts" : Str), a), ("shares", b)] := rfl
theorem ok_extend [ExW] {Γ : Gam} {μ : Mu} {Q : D → Mu → Prop} {o e : DE} : Ok (dExtend o e Γ μ) Q = Ok (o Γ μ) fun x μ1 => OkO (placeL μ1 x) fun _ => Ok (e Γ μ1) fun d μ2 => OkO (placeL μ2 x) fun p => OkO (seqL μ2 d) fun es => p.2.length + es.length ≤ 1000000 ∧ Q .non (μ2.set p.1 (.lst (p.2 ++ es))) := by
  unfold dExtend; rw [ok_bind]; congr 1; funext x μ1
  cases placeL μ1 x with
  | none => rfl
  | some p =>
    simp only [ok_bind, oko_some]
    congr 1; funext d μ2
    cases placeL μ2 x with
    | none => rfl
    | some p =>
      cases seqL μ2 d with
      | none => rfl
      | some es =>
        simp only [oko_some]
        by_cases h : p.2.length + es.length ≤ 1000000
        · rw [if_pos h]; exact propext ⟨fun z => ⟨h, z⟩, fun z => z.2⟩
        · rw [if_neg h]; exact propext ⟨fun z => False.elim z, fun z => h z.1⟩
theorem seqL_lst {μ : Mu} {ds : List D} {P : List D → Prop} : OkO (seqL μ (.lst ds)) P = P ds := rfl
end Ar

set_option Elab.async false
set_option linter.all false
set_option maxRecDepth 100000
set_option maxHeartbeats 2000000
/-! Ar24: starred items; xs[::-1] of lists; chains of two comparisons -/
namespace Ar
open PySem PySem.Spec PyProof.Rows L2

def daStar (e : DE) (r : DA) : DA := fun Γ μ => (e Γ μ).bind fun x μ1 => match seqA μ1 x with
  | some xs => (r Γ μ1).bind fun ys μ2 => .ok (xs ++ ys) μ2
  | none => .stk
section
variable {X : Cx} {E : XK} {e : Expr} {es : List Expr} {de : DE} {da : DA} {p : Pos}
end
theorem PE.or {X : Cx} {e : Expr} {t1 t2 : TE} (h1 : PE X e t1) (h2 : PE X e t2) : PE X e (fun σ H Q => t1 σ H Q ∨ t2 σ H Q) := ⟨fun pins s σ H Q I h => h.elim (h1.run pins s σ H Q I) (h2.run pins s σ H Q I)⟩
/-- xs[::-1]: of a text, of a list that does not change -/
def dRevL (e : DE) : DE := fun Γ μ => (e Γ μ).bind fun x μ1 => match x with
  | .lst ds => .ok (.lst ds.reverse) μ1
  | _ => .stk
section
variable {Γ : Gam} {μ : Mu} {Q : D → Mu → Prop} {QL : List D → Mu → Prop}
theorem ok_star [ExW] {e : DE} {r : DA} : Ok (daStar e r Γ μ) QL = Ok (e Γ μ) fun x μ1 => OkO (seqA μ1 x) fun xs => Ok (r Γ μ1) fun ys μ2 => QL (xs ++ ys) μ2 := by
  unfold daStar
  rw [ok_bind]
  congr 1
  funext x μ1
  cases seqA μ1 x with
  | none => rfl
  | some xs => simp only [ok_bind, oko_some, ok_ok]
theorem seqA_tup {ds : List D} {P : List D → Prop} : OkO (seqA μ (.tup ds)) P = P ds := rfl
theorem seqA_lst {ds : List D} {P : List D → Prop} : OkO (seqA μ (.lst ds)) P = P ds := rfl
theorem ok_revL [ExW] {e : DE} : Ok (dRevL e Γ μ) Q = Ok (e Γ μ) fun x μ1 => Ok (match x with
    | .lst ds => R.ok (D.lst ds.reverse) μ1
    | _ => .stk) Q := by
  unfold dRevL; rw [ok_bind]
end
end Ar

set_option Elab.async false
set_option linter.all false
set_option maxRecDepth 100000
set_option maxHeartbeats 2000000
/-! Ar25: str of a tuple or a list -/
namespace Ar
open PySem PySem.Spec PyProof.Rows L2
end Ar

set_option Elab.async false
set_option linter.all false
set_option maxRecDepth 100000
set_option maxHeartbeats 2000000
/-! Ar26: a list unpacked into names -/
namespace Ar
open PySem PySem.Spec PyProof.Rows L2
section
variable {X : Cx} {E : XK} {e : Expr} {pos : Pos}
def dgUnl (n : Nat) (gs : DGs) : DG := fun d Γ μ => match d with
  | .lst ds => if ds.length = n then gs ds Γ μ else .stk
  | _ => .stk
end
theorem ok_gUnl [ExW] {n : Nat} {gs : DGs} {ds : List D} {Γ : Gam} {μ : Mu} {N : Gam → Mu → Prop} : Ok (dgUnl n gs (.lst ds) Γ μ) N = LenIs ds n (Ok (gs ds Γ μ) N) := by unfold dgUnl LenIs; simp only [ok_ite]
end Ar

set_option Elab.async false
set_option linter.all false
set_option maxRecDepth 100000
set_option maxHeartbeats 2000000
/-! Ar27: a try whose body raises nothing -/
namespace Ar
open PySem PySem.Spec PyProof.Rows L2
section
variable {X : Cx} {E : XK} {pos : Pos}
def noxS (r : RS) : RS := match r with
  | .exc _ _ => .stk
  | r => r
def dTry (ds : DS) : DS := fun Γ μ => noxS (ds Γ μ)
end
theorem oks_try [ExW] {ds : DS} {Γ : Gam} {μ : Mu} {N B C : Gam → Mu → Prop} {T : D → Mu → Prop} : OkS (dTry ds Γ μ) N B C T = @OkS xp0 (ds Γ μ) N B C T := by
  unfold dTry
  generalize ds Γ μ = r
  cases r <;> rfl
/-- xs[::-1] as a list that changes later -/
def dRevLM (e : DE) : DE := fun Γ μ => (e Γ μ).bind fun x μ1 => match x with
  | .lst ds => .ok (.loc μ1.length) (μ1 ++ [.lst ds.reverse])
  | _ => .stk
theorem ok_revLM [ExW] {Γ : Gam} {μ : Mu} {Q : D → Mu → Prop} {e : DE} : Ok (dRevLM e Γ μ) Q = Ok (e Γ μ) fun x μ1 => Ok (match x with
    | .lst ds => R.ok (D.loc μ1.length) (μ1 ++ [.lst ds.reverse])
    | _ => .stk) Q := by
  unfold dRevLM; rw [ok_bind]
/-! ### the greatest and the least of a tuple of ints -/
def fInt1 (g : Int → List Int → Int) : Mu → List D → Option D := fun _ ds => match ds with
  | [.tup (.int a :: xs)] => (intsOf xs).map fun ns => .int (g a ns)
  | _ => none
def fMaxT : Mu → List D → Option D := fInt1 fun n ns => ns.foldl max n
def fMinT : Mu → List D → Option D := fInt1 fun n ns => ns.foldl min n
def fMax1 : Mu → List D → Option D := orC fMaxT fMax
def fMin1 : Mu → List D → Option D := orC fMinT fMin
theorem o_max1_3 {μ : Mu} {a b c : Int} {P : D → Prop} : OkO (fMax1 μ [.tup [.int a, .int b, .int c]]) P = P (.int (max (max a b) c)) := rfl
theorem o_min1_3 {μ : Mu} {a b c : Int} {P : D → Prop} : OkO (fMin1 μ [.tup [.int a, .int b, .int c]]) P = P (.int (min (min a b) c)) := rfl
end Ar

set_option Elab.async false
set_option linter.all false
set_option maxRecDepth 100000
set_option maxHeartbeats 2000000
/-! Ar28: chains of two comparisons -/
namespace Ar
open PySem PySem.Spec PyProof.Rows L2
def linkD (c : DE) (g : Mu → D → D → Option D) (y : D) (Γ : Gam) (z : D) (μ : Mu) : R D := match z with
  | .bl true => (c Γ μ).bind fun w μ4 => R.of μ4 (g μ4 y w)
  | .bl false => .ok (.bl false) μ
  | _ => .stk
def dCmp2 (f g : Mu → D → D → Option D) (a b c : DE) : DE := fun Γ μ => (a Γ μ).bind fun x μ1 => (b Γ μ1).bind fun y μ2 => (R.of μ2 (f μ2 x y)).bind (linkD c g y Γ)
section
variable {X : Cx} {E : XK} {K : PySem.W.Frag} {a b c : Expr} {da db dc : DE} {pos : Pos} {f g : Mu → D → D → Option D}
theorem sim_cmp2 {r r' : R2} {ta tb tc : TE} (hr : OpS K r f) (hr' : OpS K r' g) (ha : SimE K E ta da) (hb : SimE K E tb db) (hc : SimE K E tc dc) : SimE K E (tChain r r' ta tb tc) (dCmp2 f g da db dc) := by
  intro ρ F H Γ μ σ k s Q h
  refine ha ρ F H Γ μ σ k s _ (h.bind.mono (fun x μ1 h1 => ?_) fun _ _ q => q)
  intro ρ1 F1 H1 v n1 k1 r1
  refine hb ρ1 F1 H1 Γ μ1 σ k1 (s.nx n1) _ (h1.bind.mono (fun y μ2 h2 => ?_) fun _ _ q => XP.nx n1 q)
  intro ρ2 F2 H2 w n2 k2 r2
  obtain ⟨z, ez, q⟩ := (WpR.bind h2).of
  refine hr ρ2 F2 H2 μ2 v w x y z k2 (r1.nx n2) r2 ez _ ?_
  intro ρ3 F3 H3 u n3 k3 r3
  cases z with
  | bl b =>
    cases r3
    cases b with
    | true =>
      refine ⟨true, rfl, ?_⟩
      rw [if_pos rfl]
      have q : WpR ((dc Γ μ2).bind fun w μ4 => R.of μ4 (g μ4 y w)) _ _ := q
      refine hc ρ3 F3 H3 Γ μ2 σ k3 (((s.nx n1).nx n2).nx n3) _ ((WpR.bind q).mono (fun w' μ4 q4 => ?_) fun _ _ q => XP.nx (n1.trans (n2.trans n3)) q)
      intro ρ4 F4 H4 w4 n4 k4 r4
      obtain ⟨z', ez', q'⟩ := q4.of
      exact hr' ρ4 F4 H4 μ4 w w4 y w' z' k4 (r2.nx (n3.trans n4)) r4 ez' Q (QV.nx (n1.trans (n2.trans (n3.trans n4))) q')
    | false =>
      refine ⟨false, rfl, ?_⟩
      rw [if_neg (by decide)]
      have q : QV K ρ F H Q (.bl false) μ2 := q
      exact q ρ3 F3 H3 _ (n1.trans (n2.trans n3)) k3 (.bl false)
  | _ => exact False.elim q
theorem qt_chain {op op' : CmpOp} (ho : OpD X (compareOp op) f) (ho' : OpD X (compareOp op') g) (ha : QE X E a da) (hb : QE X E b db) (hc : QE X E c dc) (hm : lastMarks [op, op'] [b, c] = false := by with_unfolding_all rfl) : QT X E (.Compare a [op, op'] [b, c] pos) (dTest (dCmp2 f g da db dc)) := by
  obtain ⟨r, h1, h2⟩ := ho.ex
  obtain ⟨r', h1', h2'⟩ := ho'.ex
  obtain ⟨ta, a1, a2⟩ := ha.ex
  obtain ⟨tb, b1, b2⟩ := hb.ex
  obtain ⟨tc, c1, c2⟩ := hc.ex
  exact ⟨_, pt_chain h1 h1' a1 b1 c1 hm, sim_test (sim_cmp2 h2 h2' a2 b2 c2)⟩
end
theorem ok_cmp2 [ExW] {f g : Mu → D → D → Option D} {a b c : DE} {Γ : Gam} {μ : Mu} {Q : D → Mu → Prop} : Ok (dCmp2 f g a b c Γ μ) Q = Ok (a Γ μ) fun x μ1 => Ok (b Γ μ1) fun y μ2 => OkO (f μ2 x y) fun z => OkB z fun b => if b = true then Ok (c Γ μ2) fun w μ4 => OkO (g μ4 y w) fun z => Q z μ4 else Q (.bl false) μ2 := by
  unfold dCmp2
  simp only [ok_bind, ok_of]
  congr 1; funext x μ1; congr 1; funext y μ2; congr 1; funext z
  cases z with
  | bl b =>
    cases b with
    | true =>
      show Ok ((c Γ μ2).bind fun w μ4 => R.of μ4 (g μ4 y w)) Q = _
      simp only [ok_bind, ok_of]
      rfl
    | false => rfl
  | _ => rfl
end Ar

set_option Elab.async false
set_option linter.all false
set_option maxRecDepth 100000
set_option maxHeartbeats 2000000
/-! Ar29: a comprehension over a list that changes at other times -/
namespace Ar
open PySem PySem.Spec PyProof.Rows L2
open Classical in
noncomputable def stands {α : Type} (n : Nat) (ds : List D) (μ : Mu) (r : R α) : R α := if μ[n]? = some (.lst ds) then r else .stk
section
variable {X : Cx} {E : XK} {K : PySem.W.Frag}
end
section
variable {Γ : Gam} {μ : Mu}
end
end Ar

set_option Elab.async false
set_option linter.all false
set_option maxRecDepth 100000
set_option maxHeartbeats 2000000
/-! Ar30: own methods of a class with one slot: len -/
namespace Ar
open PySem PySem.Spec PyProof.Rows L2
theorem RoomG.in1 {k : Nat} {A : Around} (h : RoomG (k + 1) A) : RoomG k A.in1 := ⟨h.r.in1, h.g⟩
section
variable {X : Cx} {Z : CXT} {pins : List (Addr × Obj)} {σ : L2.St} {H : Hp} {s : Shared} {n : Nat} {f : Addr} {fd : FuncData} {ps : List Str} {sp : Sp} {E : XK}
end
section
variable {prog : Program} {w : World} {A : Around} {E : Value → Shared → Prop} {s : Shared} {K : PySem.W.Frag} {x C D f : Addr} {ox od : Obj} {odd : Option Obj}
end
/-- the own method nm of the class C does what m says -/
structure MethG (P : Program) (w : World) (K : PySem.W.Frag) (mg : Str → Option Value) (base : Heap) (C nm : Str) (k : Nat) (m : Fn) : Prop where
  ex : ∃ f fd ps, PySem.W.findIn K (.ref (He.ga K C)) nm = some (some (.ref f)) ∧ PySem.W.isFn K (.ref f) = true ∧ PySem.W.keepIn K (.ref f) = true ∧ Binds K fd ps [] ∧ Pm P w K mg base (L2.CX P w) k f fd ps (spM K m)
theorem MethG.mono {P : Program} {w : World} {K : PySem.W.Frag} {mg : Str → Option Value} {base : Heap} {C nm : Str} {j k : Nat} {m : Fn} (G : MethG P w K mg base C nm j m) (h : j ≤ k) : MethG P w K mg base C nm k m := by
  obtain ⟨f, fd, ps, h1, h2, h3, h4, h5⟩ := G.ex
  exact ⟨f, fd, ps, h1, h2, h3, h4, h5.mono h⟩
end Ar

set_option Elab.async false
set_option linter.all false
set_option maxRecDepth 100000
set_option maxHeartbeats 2000000
/-! Ar31: len of a value with an own __len__; tuple(range(n)), list(range(n)) -/
namespace Ar
open PySem PySem.Spec PyProof.Rows L2
/-- len(x), x a value of the class C, whose own __len__ does m -/
def dLenO (C : Str) (m : Fn) (e : DE) : DE := fun Γ μ => (e Γ μ).bind fun d μ1 => match d with
  | .slt C' ds => if C' = C then (m [.slt C' ds] μ1).bind fun r μ2 => (match r with
      | .int i => if 0 ≤ i ∧ i < 2 ^ 62 then .ok (.int i) μ2 else .stk
      | _ => .stk) else .stk
  | _ => .stk
def dTupRg (e : DE) : DE := fun Γ μ => (e Γ μ).bind fun d μ1 => match d with
  | .int n => if n ≤ 1000000 ∧ 0 ≤ n then .ok (.tup (rngD 0 n.toNat)) μ1 else .stk
  | _ => .stk
def dLstRg (e : DE) : DE := fun Γ μ => (e Γ μ).bind fun d μ1 => match d with
  | .int n => if n ≤ 1000000 ∧ 0 ≤ n then .ok (.lst (rngD 0 n.toNat)) μ1 else .stk
  | _ => .stk
section
variable {Γ : Gam} {μ : Mu} {Q : D → Mu → Prop}
theorem ok_lenO [ExW] {C : Str} {m : Fn} {e : DE} : Ok (dLenO C m e Γ μ) Q = Ok (e Γ μ) fun d μ1 => ∃ ds, d = .slt C ds ∧ Ok (m [.slt C ds] μ1) fun r μ2 => ∃ i : Int, r = .int i ∧ 0 ≤ i ∧ i < 2 ^ 62 ∧ Q (.int i) μ2 := by
  unfold dLenO
  rw [ok_bind]
  congr 1; funext d μ1
  refine propext ⟨fun h => ?_, fun h => ?_⟩
  · split at h
    · rename_i C' ds
      split at h
      · rename_i hC
        subst hC
        refine ⟨ds, rfl, ?_⟩
        rw [ok_bind] at h
        refine h.mono fun r μ2 h => ?_
        split at h
        · split at h
          · rename_i hi
            exact ⟨_, rfl, hi.1, hi.2, h⟩
          · exact h.elim
        · exact h.elim
      · exact h.elim
    · exact h.elim
  · obtain ⟨ds, rfl, h⟩ := h
    show Ok (if C = C then _ else _) Q
    rw [if_pos rfl, ok_bind]
    refine h.mono fun r μ2 h => ?_
    obtain ⟨i, rfl, h0, h1, h⟩ := h
    show Ok (if 0 ≤ i ∧ i < 2 ^ 62 then _ else _) Q
    rw [if_pos ⟨h0, h1⟩]
    exact h
theorem ok_tupRg [ExW] {e : DE} : Ok (dTupRg e Γ μ) Q = Ok (e Γ μ) fun d μ1 => ∃ n : Int, d = .int n ∧ n ≤ 1000000 ∧ 0 ≤ n ∧ Q (.tup (rngD 0 n.toNat)) μ1 := by
  unfold dTupRg
  rw [ok_bind]
  congr 1; funext d μ1
  refine propext ⟨fun h => ?_, fun h => ?_⟩
  · split at h
    · split at h
      · rename_i hn; exact ⟨_, rfl, hn.1, hn.2, h⟩
      · exact h.elim
    · exact h.elim
  · obtain ⟨n, rfl, h0, h1, h⟩ := h
    show Ok (if n ≤ 1000000 ∧ 0 ≤ n then _ else _) Q
    rw [if_pos ⟨h0, h1⟩]
    exact h
theorem ok_lstRg [ExW] {e : DE} : Ok (dLstRg e Γ μ) Q = Ok (e Γ μ) fun d μ1 => ∃ n : Int, d = .int n ∧ n ≤ 1000000 ∧ 0 ≤ n ∧ Q (.lst (rngD 0 n.toNat)) μ1 := by
  unfold dLstRg
  rw [ok_bind]
  congr 1; funext d μ1
  refine propext ⟨fun h => ?_, fun h => ?_⟩
  · split at h
    · split at h
      · rename_i hn; exact ⟨_, rfl, hn.1, hn.2, h⟩
      · exact h.elim
    · exact h.elim
  · obtain ⟨n, rfl, h0, h1, h⟩ := h
    show Ok (if n ≤ 1000000 ∧ 0 ≤ n then _ else _) Q
    rw [if_pos ⟨h0, h1⟩]
    exact h
end
end Ar

set_option Elab.async false
set_option linter.all false
set_option maxRecDepth 100000
set_option maxHeartbeats 4000000
/-! Ar32: a tuple times an int -/
namespace Ar
open PySem PySem.Spec PyProof.Rows L2
end Ar

set_option Elab.async false
set_option linter.all false
set_option maxRecDepth 100000
set_option maxHeartbeats 2000000
/-! Ar33: a def as a value, held by a local name and called -/
namespace Ar
open PySem PySem.Spec PyProof.Rows L2

section
variable {X : Cx} {E : XK}
end
end Ar

set_option Elab.async false
set_option linter.all false
set_option maxRecDepth 100000
set_option maxHeartbeats 2000000
/-! Ar34: own properties, str(x) and repr(x) of a class with slots -/
namespace Ar
open PySem PySem.Spec PyProof.Rows L2
section
variable {X : Cx} {pins : List (Addr × Obj)} {σ : L2.St} {H : Hp} {s : Shared} {C nm : Str} {m : Fn} {k : Nat} {E : XK} {a dx : Addr} {vs : List (Option V)}
end
/-- e.nm, a property of the class C -/
def dPropO (C : Str) (m : Fn) (e : DE) : DE := fun Γ μ => (e Γ μ).bind fun d μ1 => match d with
  | .slt C' ds => if C' = C then (m [.slt C' ds] μ1).nox else .stk
  | _ => .stk
/-! ### str(x) -/
/-- a text that an own method tells -/
def txtR (r : R D) : R D := r.bind fun z μ => match z with
  | .str i => .ok (.str i) μ
  | _ => .stk
/-- str(x), repr(x) by an own method of the class C -/
def dTxtO (C : Str) (m : Fn) (e : DE) : DE := fun Γ μ => (e Γ μ).bind fun d μ1 => match d with
  | .slt C' ds => if C' = C then txtR (m [.slt C' ds] μ1) else .stk
  | _ => .stk
section
variable {X : Cx} {E : XK} {C : Str} {m : Fn} {k : Nat} {e : Expr} {de : DE} {p pos : Pos}
end
/-! ### repr(x) -/
section
variable {prog : Program} {w : World} {A : Around} {E : Value → Shared → Prop} {s : Shared} {K : PySem.W.Frag} {x C f : Addr} {ox : Obj} {odd : Option Obj}
end
/-! ### what they do -/
theorem ok_propO [ExW] {C : Str} {m : Fn} {e : DE} {Γ : Gam} {μ : Mu} {Q : D → Mu → Prop} : Ok (dPropO C m e Γ μ) Q = Ok (e Γ μ) fun d μ1 => ∃ ds, d = .slt C ds ∧ @Ok xp0 D (m [.slt C ds] μ1) Q := by
  unfold dPropO
  rw [ok_bind]
  congr 1; funext d μ1
  refine propext ⟨fun h => ?_, fun ⟨ds, e, h⟩ => ?_⟩
  · split at h
    · split at h
      · rename_i hC
        subst hC
        exact ⟨_, rfl, by rw [ok_nox] at h; exact h⟩
      · exact h.elim
    · exact h.elim
  · subst e
    simp only [if_true]
    rw [ok_nox]
    exact h
theorem ok_txtR [ExW] {r : R D} {Q : D → Mu → Prop} : Ok (txtR r) Q = Ok r fun z μ => ∃ i, z = .str i ∧ Q (.str i) μ := by
  unfold txtR
  rw [ok_bind]
  congr 1; funext z μ
  cases z <;> simp [Ok]
theorem ok_txtO [ExW] {C : Str} {m : Fn} {e : DE} {Γ : Gam} {μ : Mu} {Q : D → Mu → Prop} : Ok (dTxtO C m e Γ μ) Q = Ok (e Γ μ) fun d μ1 => ∃ ds, d = .slt C ds ∧ Ok (m [.slt C ds] μ1) fun z μ => ∃ i, z = .str i ∧ Q (.str i) μ := by
  unfold dTxtO
  rw [ok_bind]
  congr 1; funext d μ1
  refine propext ⟨fun h => ?_, fun ⟨ds, e, h⟩ => ?_⟩
  · split at h
    · split at h
      · rename_i hC
        subst hC
        rw [ok_txtR] at h
        exact ⟨_, rfl, h⟩
      · exact h.elim
    · exact h.elim
  · subst e
    simp only [if_true]
    rw [ok_txtR]
    exact h
end Ar

set_option Elab.async false
set_option linter.all false
set_option maxRecDepth 100000
set_option maxHeartbeats 2000000
/-! Ar35: the head with defs that stand in properties and class methods; class methods called -/
namespace Ar
open PySem PySem.Spec PyProof.Rows L2
/-- where the def of the property (class method) p.2.1 of the class p.1 stands -/
def wAd (K : PySem.W.Frag) (p : Str × Str × String) : Addr := match PySem.W.recIn K (He.ma K (He.ga K p.1) p.2.1) p.2.2 with
  | some (.ref g :: _) => g
  | _ => 0
def atW (K : PySem.W.Frag) (a : Addr) : He.FnW := match K.lookup a with
  | some ⟨_, _, .func d, _⟩ => some (d.name, d.qualname, d.params, d.body, d.scope, d.globals, d.closure, d.builtins)
  | _ => none
structure WrD where
  w : Str × Str × String
  nm : Str
  ql : Str
  pa : Arguments
  bo : List Stmt
  sc : Scope
def WrD.val (d : WrD) : He.FnW := some (d.nm, d.ql, d.pa, .stmts d.bo, d.sc, mainGlobals, [], builtinsNs)
def wrHd (K : PySem.W.Frag) (p : Str × Str × String) : Bool := match PySem.W.recIn K (He.ma K (He.ga K p.1) p.2.1) p.2.2 with
  | some (.ref _ :: _) => true
  | _ => false
def wrFn (K : PySem.W.Frag) (a : Addr) (ql : Str) : Bool := match K.lookup a with
  | some ⟨_, _, .func d, _⟩ => PySem.W.codeIn K d.code ql && (He.dflB K d.defaults [] && He.kwdB K d.kwdefaults [])
  | _ => false
def wrAt (K : PySem.W.Frag) (p : Str × Str × String) : Bool := He.eqO (PySem.W.findIn K (.ref (He.ga K p.1)) p.2.1) (some (some (.ref (He.ma K (He.ga K p.1) p.2.1))))
def cmAt (K : PySem.W.Frag) (p : Str × Str × String) : Bool := match PySem.W.findCls K (.ref (He.ga K p.1)) (.type "type") p.2.1 with
  | some (.get (.builtin b) (.ref a) .none (.ref c)) => decide (b = "classmethod.__get__") && (decide (a = He.ma K (He.ga K p.1) p.2.1) && decide (c = He.ga K p.1))
  | _ => false
/-- how it is read: a property through an instance, a class method through its class -/
def wrRd (K : PySem.W.Frag) (p : Str × Str × String) : Bool := if p.2.2 = "property" then
    He.eqO (PySem.W.specialIn K (.ref (He.ma K (He.ga K p.1) p.2.1)) "__get__") (some (some (.builtin "property.__get__"))) && decide (PySem.W.takesIn K (.ref (He.ma K (He.ga K p.1) p.2.1)) = some true)
  else PySem.W.readsIn K (He.ga K p.1) (.type "type") && (He.eqO (PySem.W.specialIn K (.ref (He.ga K p.1)) "__getattribute__") (some (some (.builtin "type.__getattribute__"))) &&
    (cmAt K p && PySem.W.fnIn K (wAd K p)))
def WrD.ok (K : PySem.W.Frag) (d : WrD) : Bool := wrAt K d.w && (wrHd K d.w && (wrRd K d.w && (PySem.W.keepIn K (.ref (wAd K d.w)) && wrFn K (wAd K d.w) d.ql)))
/-! ### the head -/
abbrev AlZ : Type := He.AlT × (Bool × List He.FnW)
def obsZ (fa : List He.Fa) (fn : List He.DefD) (ts : List He.Tab) (wr : List WrD) (ex : PySem.W.Frag → Bool) (K : PySem.W.Frag) : AlZ := (obsY fa fn ts ex K, (wr.all fun d => d.ok K, wr.map fun d => atW K (wAd K d.w)))
def valZ (fn : List He.DefD) (ts : List He.Tab) (wr : List WrD) (w : World) : AlZ := (He.valT fn ts w, (true, wr.map WrD.val))
def SaysZ (fa : List He.Fa) (fn : List He.DefD) (ts : List He.Tab) (wr : List WrD) (ex : PySem.W.Frag → Bool) (w : World) (K : PySem.W.Frag) : Prop := obsZ fa fn ts wr ex K = valZ fn ts wr w
section
variable {fa : List He.Fa} {fn : List He.DefD} {ts : List He.Tab} {wr : List WrD} {ex : PySem.W.Frag → Bool} {w : World} {K : PySem.W.Frag}
theorem SaysZ.y (c : SaysZ fa fn ts wr ex w K) : SaysY fa fn ts ex w K := congrArg (fun z : AlZ => z.1) c
end
/-! ### class methods -/
/-- C.nm(..) -/
def dClsM (C : Str) (m : Fn) (a : DA) : DE := fun Γ μ => (a Γ μ).bind fun ds μ1 => m (.glo C :: ds) μ1
theorem ok_clsM [ExW] {C : Str} {m : Fn} {a : DA} {Γ : Gam} {μ : Mu} {Q : D → Mu → Prop} : Ok (dClsM C m a Γ μ) Q = Ok (a Γ μ) fun ds μ1 => Ok (m (.glo C :: ds) μ1) Q := by
  unfold dClsM
  rw [ok_bind]
end Ar

set_option Elab.async false
set_option linter.all false
set_option maxRecDepth 100000
set_option maxHeartbeats 4000000
/-! Ar36: try: body / except (C1, C2, C3) as n: suite, with own classes -/
namespace Ar
open PySem PySem.Spec PyProof.Rows L2
section
variable {X : Cx} {x1 x2 x3 n : Str} {C1 C2 C3 : Addr} {i : Nat} {body suite : List Stmt} {b₀ : Stmt} {p1 p2 p3 pt pos pos' : Pos} {kt} {tb : WX → TS} {ts : Addr → Value → Option Addr → TS}
end
end Ar

set_option Elab.async false
set_option linter.all false
set_option maxRecDepth 100000
set_option maxHeartbeats 4000000
/-! Ar37: raise C(e) of an own class whose __init__ keeps one field -/
namespace Ar
open PySem PySem.Spec PyProof.Rows L2
/-- what C.__init__ promises: the field f is kept -/
def spIni (K : PySem.W.Frag) (f : Str) : Sp := fun vs H Q _ => ∃ (a C : Addr) (y : V), vs = [.ref a, y] ∧ OexC K C ∧ PySem.W.findIn K (.ref C) f = some none ∧ H a = some (exo a C none) ∧
  ∀ dx, H dx = none → dx ≠ a → Q .non (upd (upd H dx (exd dx [(f, y)])) a (exo a C (some dx)))
/-- the class x of errors, with the field f -/
structure ExG (P : Program) (w : World) (K : PySem.W.Frag) (mg : Str → Option Value) (base : Heap) (x f : Str) : Prop where
  m : mg x = some (.ref (He.ga K x))
  c : OexC K (He.ga K x)
  no : PySem.W.findIn K (.ref (He.ga K x)) f = some none
  i : ∃ (fI : Addr) (fd : FuncData) (ps : List Str), PySem.W.findIn K (.ref (He.ga K x)) "__init__" = some (some (.ref fI)) ∧ PySem.W.typeIn K (.ref fI) = some (.type "function") ∧ L2.Binds K fd ps [] ∧ FnOk P w K mg base (L2.CX P w) 1 fI fd ps (spIni K f)
/-- such an __init__ -/
theorem ini_ok {P : Program} {w : World} {K : PySem.W.Frag} {mg : Str → Option Value} {base : Heap} {f qual n1 n2 : Str} {params : Arguments} {scope : Scope} {p1 p2 p3 p4 : Pos} {fI : Addr} {fd : FuncData}
    (F : FunD K "__init__" qual params [.Assign [.Attribute (.Name n1 p1) f p2] (.Name n2 p3) p4] scope [] [] fI fd) (S : FnScope [n1, n2] [n1, n2] scope) (v1 : Vis scope n1) (v2 : Vis scope n2)
    (d1 : (n1 == ("__debug__" : Str)) = false := by decide) (c1 : (n1 == ("__classdict__" : Str)) = false := by decide) (d2 : (n2 == ("__debug__" : Str)) = false := by decide) (c2 : (n2 == ("__classdict__" : Str)) = false := by decide) :
    FnOk P w K mg base (L2.CX P w) 1 fI fd [n1, n2] (spIni K f) := by
  obtain ⟨oc, od, dV, kV, doc, pm, an, cdv, ct, osl, rfl, lk, hcd, _, _⟩ := F.ex
  refine fn_of lk hcd S (fun vs H Q E h => ?_) fun A outer s H vs Q E hr h => ?_
  · obtain ⟨a, C, y, rfl, _⟩ := h
    rfl
  · obtain ⟨a, C, y, rfl, T, no, ea, q⟩ := h
    refine ⟨_, pss_one (ps_ost (pe_var (i := 0) rfl v1 d1 c1) (pe_var (i := 1) rfl v2 d2 c2)), ?_⟩
    exact ⟨y, rfl, .ref a, rfl, a, C, rfl, T, no, .inl ⟨ea, q⟩⟩
def dRaise (x f : Str) (a : DA) : DS := fun Γ μ => (a Γ μ).thenS fun ds μ1 => match ds with
  | [d] => .exc (x, some (f, d)) μ1
  | _ => .stk
theorem upd_del {H : Hp} {a dx : Addr} {o o1 o2 o3 : HO} (na : H a = none) (hd : dx ≠ a) : upd (del (upd (upd (upd H a o) dx o1) a o2) a) dx o3 = upd H dx o3 := by
  funext b
  by_cases h : b = dx
  · rw [h, upd_same, upd_same]
  · rw [upd_ne h, upd_ne h]
    by_cases h2 : b = a
    · rw [h2, del_same, na]
    · rw [del_ne h2, upd_ne h2, upd_ne h, upd_ne h2]
theorem q_raise {X : Cx} {E : XK} {x f : Str} {e : Expr} {p pos pos' : Pos} {da : DA} (G : ExG X.prog X.w X.K X.mg X.base x f) (hc : X.calm = true) (hr : RoomG 2 X.A) (tk : Takes X (fun cls d _ H => E cls d H)) (ha : QA X E [e] da) (hg : Gl X x := by rfl)
    (hdb : (x == ("__debug__" : Str)) = false := by decide) (hs : starEach [e] X.env = (false, eval e X.env) :: starEach [] X.env := by rfl) : QSt X E (.Raise (some (.Call (.Name x p) [e] [] pos)) none pos') (dRaise x f da) := by
  obtain ⟨fI, fd, ps, iC, tI, hb, F⟩ := G.i
  obtain ⟨ta, p2, s2⟩ := ha.ex
  refine ⟨_, ps_raise hc tk (pmk_oex (dvs := []) (ds := []) G.c iC tI F hr.r hb .nil (passes_call tk fun _ _ _ _ h => False.elim h) hg G.m p2 hdb hs), ?_⟩
  intro ρ F0 H Γ μ σ k sl D h
  refine s2 ρ F0 H Γ μ σ k sl _ ((WpS.thenS h).mono (fun ds μ1 h1 ρ1 F1 H1 vs n1 k1 r1 => ?_) fun _ _ q => q)
  rcases r1 with _ | ⟨r, _ | ⟨_, _⟩⟩
  · exact False.elim h1
  · rename_i v _
    refine ⟨by simp, fun a na => ?_⟩
    refine ⟨a, _, _, rfl, G.c, G.no, upd_same, fun dx nd ne => ⟨rfl, dx, [(f, v)], upd_same, ?_, ?_, ?_⟩⟩
    · rw [upd_ne ne, upd_same]
    · rw [upd_ne ne] at nd
      exact nd
    · have nd' : H1 dx = none := by rw [upd_ne ne] at nd; exact nd
      rw [upd_del na ne]
      have k2 := k1.newF (o := .xd [(f, v)]) nd'
      have n2 := Nx.newF_ (o := .xd [(f, v)]) k1 nd'
      exact h1 ρ1 _ _ (n1.trans n2) k2 dx _ upd_same (r.nx n2)
  · exact False.elim h1
end Ar

set_option Elab.async false
set_option linter.all false
set_option maxRecDepth 100000
set_option maxHeartbeats 4000000
/-! Ar38: a lambda is made; its table of codes is a place of ours -/
namespace Ar
open PySem PySem.Spec PyProof.Rows L2
section
variable {K : PySem.W.Frag} {ρ : List Addr} {F H : Hp} {μ : Mu} {P c' : Addr} {q : Str} {t : Nat}
theorem upd_upd {a b : Addr} {x y : HO} (h : a ≠ b) : upd (upd H a x) b y = upd (upd H b y) a x := by
  funext z
  by_cases h1 : z = a
  · subst h1; rw [upd_ne h, upd_same, upd_same]
  · by_cases h2 : z = b
    · subst h2; rw [upd_same, upd_ne h1, upd_same]
    · rw [upd_ne h2, upd_ne h1, upd_ne h1, upd_ne h2]
/-- the table at P, with one code more or none -/
def Tab1 (H H1 : Hp) (P c' : Addr) (q : Str) (ps : Array Value) : Prop := (H1 = H ∧ ∃ pos, codeAmong pos ps.toList = some (.ref c')) ∨
  (H c' = none ∧ ∃ ps' : Array Value, H1 = upd (upd H P (.tbl ps')) c' (LamX.CodeO c' q) ∧ TriplesOk ps'.toList ∧ ∀ pos cv, codeAmong pos ps'.toList = some cv → codeAmong pos ps.toList = some cv ∨ cv = .ref c')
theorem tab_at (k : HpOk K ρ μ F H) (e : μ[t]? = some (.tab P q)) : ρ[t]? = some P ∧ F P = none ∧ ∃ ps : Array Value, H P = some (.tbl ps) ∧ TriplesOk ps.toList ∧ ∀ (pos : Pos) (cv : Value), codeAmong pos ps.toList = some cv → ∃ c, cv = .ref c ∧ F c = some (LamX.CodeO c q) := by
  have hl : t < ρ.length := by
    rw [← k.len]
    exact (List.getElem?_eq_some_iff.mp e).1
  have e1 : ρ[t]? = some ρ[t] := List.getElem?_eq_getElem hl
  obtain ⟨z0, z1, z2⟩ := k.mu t _ _ e1 e
  exact ⟨by rw [e1, z0], by rw [← z0]; exact z1, by rw [← z0]; exact z2⟩
theorem tab_grow (k : HpOk K ρ μ F H) (e : μ[t]? = some (.tab P q)) {ps : Array Value} (hp : H P = some (.tbl ps)) {H1 : Hp} (h : Tab1 H H1 P c' q ps) : ∃ F1, HpOk K ρ μ F1 H1 ∧ Nx ρ F H ρ F1 H1 ∧ F1 c' = some (LamX.CodeO c' q) := by
  obtain ⟨e1, e2, ps2, e3, e4, e5⟩ := tab_at k e
  rw [hp] at e3
  cases e3
  rcases h with ⟨rfl, pos, hc⟩ | ⟨hn, ps', rfl, ht, hs⟩
  · obtain ⟨c, z, w⟩ := e5 pos _ hc
    cases z
    exact ⟨F, k, Nx.refl, w⟩
  · have ne : P ≠ c' := ne_of_none hp hn
    have k1 := k.newF (o := LamX.CodeO c' q) hn
    have n1 := Nx.newF_ (o := LamX.CodeO c' q) k hn
    have fP : upd F c' (LamX.CodeO c' q) P = none := by rw [upd_ne ne]; exact e2
    have k2 := k1.write (n := t) (a := P) (o := .tbl ps') (m := .tab P q) e1 fP ⟨rfl, fP, ps', upd_same, ht, fun pos cv hc => by
      rcases hs pos cv hc with z | z
      · obtain ⟨c, w1, w2⟩ := e5 pos cv z
        exact ⟨c, w1, n1.ex _ _ w2⟩
      · exact ⟨c', z, upd_same⟩⟩
    have n2 := Nx.write_ (H := upd H c' (LamX.CodeO c' q)) (F := upd F c' (LamX.CodeO c' q)) (o := .tbl ps') e1 fP (by rw [upd_ne ne, hp]; exact fun z => by cases z)
    have es : μ.set t (.tab P q) = μ := by
      obtain ⟨hl, hv⟩ := List.getElem?_eq_some_iff.mp e
      rw [← hv]
      exact List.set_getElem_self hl
    rw [es] at k2
    rw [upd_upd (Ne.symm ne)] at k2 n2
    exact ⟨_, k2, n1.trans n2, upd_same⟩
end
end Ar

set_option Elab.async false
set_option linter.all false
set_option maxRecDepth 100000
set_option maxHeartbeats 4000000
/-! Ar39: the lambda's making, with its table told exactly -/
namespace Ar
open PySem PySem.Spec PyProof.Rows L2
abbrev lamQ (X : Cx) : Str := X.env.qual ++ "<lambda>"
/-- the object of a lambda -/
abbrev lamO (X : Cx) (ar : Arguments) (b : Expr) (sc : Scope) (pm : Value) (k : Addr) (ctv : Value) : Obj := PySem.W.kla_obj "<lambda>" (lamQ X) ar b sc (cloFrom X.env.cells sc.names []) pm k ctv
section
variable {X : Cx} {pins : List (Addr × Obj)} {σ : L2.St} {H : Hp} {s : Shared}
theorem lam_mk {cd P : Addr} {tb : Array Value} {ar : Arguments} {b : Expr} {sc : Scope} {at_ : Pos} {E D : Value → Shared → Prop} (I : Inv X pins σ H s) (B : LamX.TabB X.base X.mg cd P) (ec : X.env.code = .ref cd) (e : H P = some (.tbl tb)) (ok : TriplesOk tb.toList)
    (old : ∀ (p : Pos) (v : Value), codeAmong p tb.toList = some v → ∃ k, v = .ref k ∧ H k = some (LamX.CodeO k (lamQ X))) (nd : defaultsOf ar X.env = ([], [])) (fr : ∀ y ∈ sc.names, y.2 = .free → ∃ k, X.env.cells.lookup y.1 = some k)
    (go : ∀ (f k : Addr) (pm ctv : Value) (G : Hp) (z : Shared), Inv X pins σ G z → Tab1 H G P k (lamQ X) tb → z.heap.get? f = some (lamO X ar b sc pm k ctv) → G f = none → f ∉ frs X.stack → D (.ref f) z) :
    wpAny (model X.prog X.w) X.A (eval (.Lambda ar b sc at_) X.env) D E s := by
  have far : ∀ f, s.heap.objs.size ≤ f → f ∉ frs X.stack := by
    intro f hf z
    rcases List.mem_cons.mp (I.stkSub _ z) with w | w
    · rw [w] at hf
      exact absurd (Nat.lt_of_lt_of_le I.lt hf) (Nat.lt_irrefl _)
    · exact I.nofs hf w
  have eP : s.heap.get? P = some { cls := .none, data := .fields tb } := I.hok P _ e
  have blt : s.heap.BuiltinsAt X.mg P := B.bm.keeps I.bk
  refine PySem.W.kla_eval nd ?_
  by_cases hit : ∃ v, codeAmong at_ tb.toList = some v
  · obtain ⟨v, hv⟩ := hit
    obtain ⟨k, rfl, hk⟩ := old at_ v hv
    refine PySem.W.kla_makeFunctionHit (c := cd) (P := P) (ps := tb) (mg := X.mg) (closure_ok fr) I.ok.glob (I.mod.glob.keeps I.bk) ec (B.code.keeps I.bk) eP ok hv blt fun ctv g tk hg hs => ?_
    have J : Inv X pins σ H { s with heap := g.push (lamO X ar b sc ((X.mg "__name__").getD .none) k ctv), toks := tk } := I.kept fun a o z => Heap.get?_push_of_some _ (hg a o z)
    exact go g.objs.size k _ ctv H _ J (.inl ⟨rfl, at_, hv⟩) (Heap.get?_push_size _ rfl) (I.hok.fresh hs) (far _ hs)
  · have hn : codeAmong at_ tb.toList = none := by
      cases w : codeAmong at_ tb.toList with
      | none => rfl
      | some v => exact absurd ⟨v, w⟩ hit
    refine PySem.W.kla_makeFunction (c := cd) (P := P) (ps := tb) (mg := X.mg) (closure_ok fr) I.ok.glob (I.mod.glob.keeps I.bk) ec (B.code.keeps I.bk) eP ok hn B.gP blt ?_
    intro k ctv g tk hx h1 h2 hr ht
    obtain ⟨k0, oc, fs, tok, z, w1, w2, w3⟩ := hr
    obtain rfl := Value.ref.inj z
    have hs : s.heap.objs.size ≤ g.objs.size := Nat.le_trans h1 (Nat.le_of_lt h2)
    have nk : H k = none := I.hok.fresh h1
    have neP : g.objs.size ≠ P := fun z => by
      rw [z] at hs
      exact absurd (Nat.lt_of_lt_of_le (Heap.lt_size eP) hs) (Nat.lt_irrefl _)
    have J := LamX.inv_table (q := lamQ X) (c := k) (more := #[rawInt at_.line, rawInt at_.col, .ref k]) (t' := tk) (h' := g.push (lamO X ar b sc ((X.mg "__name__").getD .none) k ctv)) I e (fun a o ha hb => Heap.get?_push_of_some _ (hx a o ha hb))
      (Heap.get?_push_of_some _ ht) h1 ⟨oc, fs, tok, Heap.get?_push_of_some _ w1, w2, w3⟩
    have el : (tb ++ #[rawInt at_.line, rawInt at_.col, .ref k]).toList = tb.toList ++ [rawInt at_.line, rawInt at_.col, .ref k] := by simp
    refine go g.objs.size k _ ctv _ _ J (.inr ⟨nk, _, rfl, by rw [el]; exact PySem.TriplesOk_snoc _ _ _ _ ok, fun p v hv => ?_⟩) (Heap.get?_push_size _ rfl) ?_ (far _ hs)
    · rw [el] at hv
      exact LamX.among_app _ ok hv
    · rw [upd_ne (Nat.ne_of_gt h2), upd_ne neP]
      exact I.hok.fresh hs
end
end Ar

set_option Elab.async false
set_option linter.all false
set_option maxRecDepth 100000
set_option maxHeartbeats 4000000
/-! Ar40: the lambda called within the def that got it -/
namespace Ar
open PySem PySem.Spec PyProof.Rows L2
/-- the reading in terms of data -/
def tD (K : PySem.W.Frag) (de : DE) (E : XK) : TE := fun σ H Q => ∃ ρ F μ Γ, HpOk K ρ μ F H ∧ Slots K ρ F Γ σ ∧ WpR (de Γ μ) (QV K ρ F H Q) (XP K E ρ F H)
theorem pe_imp {X : Cx} {e : Expr} {t t' : TE} (h : PE X e t) (q : ∀ σ H Q, t' σ H Q → t σ H Q) : PE X e t' := ⟨fun pins s σ H Q I z => h.run pins s σ H Q I (q _ _ _ z)⟩
theorem QE.d {X : Cx} {E : XK} {e : Expr} {de : DE} (h : QE X E e de) : PE X e (tD X.K de E) := by
  obtain ⟨te, h1, h2⟩ := h.ex
  exact pe_imp h1 fun σ H Q ⟨ρ, F, μ, Γ, k, sl, w⟩ => h2 ρ F H Γ μ σ k sl Q w
section
variable {K : PySem.W.Frag} {ρ : List Addr} {F : Hp}
theorem DnO.slots {σ : L2.St} {Γ : Gam} (h : DnO K ρ F σ Γ) : Slots K ρ F Γ σ := by
  induction Γ generalizing σ with
  | nil => cases h; exact ⟨rfl, fun i d e => by simp at e⟩
  | cons o Γ ih =>
    cases h with
    | skip t =>
      obtain ⟨l, g⟩ := ih t
      refine ⟨by simp [l], fun i d e => ?_⟩
      cases i with
      | zero => simp at e
      | succ i => simpa using g i d (by simpa using e)
    | cons r t =>
      obtain ⟨l, g⟩ := ih t
      refine ⟨by simp [l], fun i d e => ?_⟩
      cases i with
      | zero =>
        rename_i v0 d0 σ0
        have e2 : d0 = d := by simpa using e
        subst e2
        exact ⟨v0, by simp, r⟩
      | succ i => simpa using g i d (by simpa using e)
theorem Slots.dno {σ : L2.St} {Γ : Gam} (h : Slots K ρ F Γ σ) : DnO K ρ F σ Γ := by
  induction Γ generalizing σ with
  | nil =>
    have := h.len
    cases σ with
    | nil => exact .nil
    | cons _ _ => simp at this
  | cons o Γ ih =>
    have hl := h.len
    cases σ with
    | nil => simp at hl
    | cons v σ =>
      have t : Slots K ρ F Γ σ := ⟨by simpa using hl, fun i d e => by simpa using h.at_ (i + 1) d (by simpa using e)⟩
      cases o with
      | none => exact .skip (ih t)
      | some d =>
        obtain ⟨w, e, r⟩ := h.at_ 0 d (by simp)
        have e2 : v = some w := by simpa using e
        subst e2
        exact .cons r (ih t)
end
/-- the context of the def that got the lambda -/
abbrev cxG (X : Cx) (N : List Str) (q : Str) (sc : Scope) (g : Addr) (cd : Value) (s : Shared) (H : Hp) : Cx := cxOf (L2.CX X.prog X.w) X.prog X.w X.K X.mg X.base N q sc g cd X.A X.stack s H fun _ _ _ => False
/-- a() there, with the slots told at which an error may come -/
def tAct (K : PySem.W.Frag) (i : Nat) (f k : Addr) (q : Str) (σ : L2.St) (de : DE) (W : WX) : TE := fun τ G D => τ[i]? = some (some (.ref f)) ∧ G k = some (LamX.CodeO k q) ∧ tD K de (fun cls d G' => W cls d τ G') σ G D
section
variable {X : Cx} {pins : List (Addr × Obj)} {σ : L2.St} {H : Hp} {s : Shared}
theorem pe_act {N : List Str} {qg a : Str} {sg scope : Scope} {g f k : Addr} {cdg pm ctv : Value} {ar : Arguments} {body : Expr} {j i : Nat} {pn : List (Addr × Obj)} {xe : Value → Shared → Prop} {W : WX} {de : DE} {p1 p2 : Pos}
    (I : Inv X pins σ H s) (L : LamX.LamS X.env.scope scope) (hf : s.heap.get? f = some (lamO X ar body scope pm k ctv)) (hfn : H f = none) (hfr : f ∉ frs X.stack)
    (hbind : bindArgs (PySem.W.kla_fn "<lambda>" (lamQ X) ar body scope (cloFrom X.env.cells scope.names []) pm (.ref k) ctv) ⟨[], []⟩ = pure [])
    (tk : Takes ((cxG X N qg sg g cdg s H).tr pn xe) W) (hr : RoomG (j + 1) (X.A.deeper (envOfC qg sg s.heap.objs.size g cdg)))
    (hbody : ∀ (A : Around) (outer : List Env) (s : Shared) (H : Hp) (E : XK), RoomG j (A.deeper (LamX.lamEnv X scope s.heap.objs.size f k)) → QE (LamX.lamCx X A outer s H E scope f k) E body de)
    (hN : N[i]? = some a) (hv : Vis sg a) (d1 : (a == ("__debug__" : Str)) = false := by decide) (d2 : (a == ("__classdict__" : Str)) = false := by decide) :
    PE ((cxG X N qg sg g cdg s H).tr pn xe) (.Call (.Name a p1) [] [] p2) (tAct X.K i f k (lamQ X) σ de W) := by
  refine ⟨fun pinsZ sZ τ G D IZ ⟨hs, hc, ht⟩ => ?_⟩
  refine wpAny_Call_Name_kw (thn ((L2.pe_var (pos := p1) (i := i) hN hv d1 d2).run pinsZ sZ τ G (fun v H1 => v = .ref f ∧ H1 = G) IZ ⟨.ref f, hs, rfl, rfl⟩) fun u s1 ⟨v, G1, I1, r1, ev, eG⟩ => ?_)
  subst ev
  subst eG
  obtain rfl : u = Value.ref f := r1
  have un : Un (frs X.stack) [] H G1 s.heap s1.heap := I1.base
  have of1 : s1.heap.get? f = some (lamO X ar body scope pm k ctv) := un.keep f _ hf hfn hfr (fun z => nomatch z)
  obtain ⟨⟨oc, vs, t, c1, c2, c3⟩, _, _⟩ := I1.hok k _ hc
  refine PySem.W.callWith_F0 ⟨_, _, _, _, of1⟩ (wpAny_call (codeAny_mono (R := CR (L2.CX X.prog X.w) (envOfC qg sg s.heap.objs.size g cdg :: X.stack) X.prog X.w G1 s1 D (fun cls d G' => W cls d τ G')) ?_ fun z s' hq => ?_))
  · refine PySem.W.kla_callFunE hr.r.depth of1 rfl L.co L.gen rfl ⟨k, oc, vs, t, rfl, c1, c2, c3⟩ ?_
    show wpAny _ _ (bindArgs (PySem.W.kla_fn "<lambda>" (lamQ X) ar body scope (cloFrom X.env.cells scope.names []) pm (.ref k) ctv) ⟨[], []⟩) _ _ _
    rw [hbind]
    refine wpAny_pure (wpAny_newFunctionEnv (fun y hy => (L.own y hy).2) (fun y hy => absurd hy (by simp)) (fun h₁ hns hsb => ⟨I1.nolimit.fresh _ hsb, ?_⟩) L.kind)
    show codeAny _ _ (.expr body (LamX.lamEnv X scope s1.heap.objs.size f k)) _ _
    have kp : ∀ b o, s1.heap.get? b = some o → h₁.get? b = some o := fun b o e => hsb.extBut b o (Nat.ne_of_lt (Heap.lt_size e)) (Heap.get?_push_of_some _ e)
    have J := LamX.lam_start2 (E := fun cls d G' => W cls d τ G') (scope := scope) (f := f) (c' := k) (tk := s1.toks + ([] : List (Str × Value)).length) I L I1.env0 hr.r.hd un hns kp
    refine PySem.W.kla_codeExpr (wpAny_mono ((hbody _ _ s1 G1 (fun cls d G' => W cls d τ G') (hr.down _)).d.run [] _ _ G1 D J ht) (fun v s' hq => ?_) fun e s' hq => hq)
    obtain ⟨w', H', J', rv, q⟩ := hq
    exact ⟨w', H', J'.os, J'.bare, J'.base, J'.hok, rv, q⟩
  · have hx := passAt tk τ
    cases z with
    | error e => exact hx pinsZ G1 s1 e s' I1 hq
    | ok fl =>
      cases fl with
      | ret u => exact I1.after hq
      | next => exact False.elim hq
      | brk => exact False.elim hq
      | cont => exact False.elim hq
end
end Ar

set_option Elab.async false
set_option linter.all false
set_option maxRecDepth 100000
set_option maxHeartbeats 4000000
/-! Ar41: defs called in an except suite, with the caught error as an argument -/
namespace Ar
open PySem PySem.Spec PyProof.Rows L2
/-- the error at a, of the class x, its dict at dd, is held by the context -/
structure HotX (X : Cx) (x : Str) (a dd : Addr) : Prop where
  ex : ∃ oe : Obj, (a, oe) ∈ X.pn ∧ Zc (.ref (He.ga X.K x)) (some dd) oe ∧ ∃ vs, oe.data = .fields vs
theorem HotX.at {X : Cx} {x : Str} {a dd : Addr} (h : HotX X x a dd) {pins : List (Addr × Obj)} {σ : L2.St} {H : Hp} {s : Shared} (I : Inv X pins σ H s) {od : Obj} (hd : s.heap.get? dd = some od) : ∃ oe, PySem.W.InstAt s.heap a oe (He.ga X.K x) (some od) := by
  obtain ⟨oe, hp, hz, vs, hv⟩ := h.ex
  have ha := (I.pin (a, oe) (List.mem_append_left _ hp)).1
  exact ⟨oe, ha, hz.1, by unfold PySem.W.notCls; rw [hv] <;> rfl, by rw [hz.2]; exact hd⟩
end Ar

set_option Elab.async false
set_option linter.all false
set_option maxRecDepth 100000
set_option maxHeartbeats 4000000
/-! Ar42: count and index in lists of truths -/
namespace Ar
open PySem PySem.Spec PyProof.Rows L2
section
variable {X : Cx} {E : XK} {o e : Expr} {do_ de : DE} {apos cpos : Pos}
end
end Ar

set_option Elab.async false
set_option linter.all false
set_option maxRecDepth 100000
set_option maxHeartbeats 4000000
/-! Ar43: isinstance of a caught error that has a dict; its fields -/
namespace Ar
open PySem PySem.Spec PyProof.Rows L2
section
variable {pr : Program} {ww : World} {AA : Around} {EE : Value → Shared → Prop} {z : Shared} {K : PySem.W.Frag} {e T : Addr} {oe : Obj} {od : Option Obj}
theorem err_found (C : ExcC K T) : PySem.W.findObj K T od "__class__" = some (.bind (.builtin "getset_descriptor.__get__") (.builtin "object.__class__")) := by
  obtain ⟨cd, hc, _⟩ := PySem.W.any_some C.hd
  unfold PySem.W.findObj
  rw [hc, Option.bind_some, C.ha, Option.bind_some]
  simp [C.hn, C.ht]
theorem err_class {D : Option Value → Shared → Prop} (C : ExcC K T) (X : K.In z.heap) (I : PySem.W.InstAt z.heap e oe T od) (q : D (some (.ref T)) { z with toks := z.toks + 1 }) : wpAny (model pr ww) AA (getAttr? (.ref e) "__class__") D EE z := by
  obtain ⟨hh, gg, rr, tt, oo⟩ := z
  have A0 := I.type (M := model pr ww)
  have A1 := PySem.W.looks_findIn (M := model pr ww) X C.hg
  have A2 := PySem.W.looks_findIn (M := model pr ww) X C.hk
  have A3 := PySem.W.looks_find (M := model pr ww) X I (err_found C)
  have un : PySem.W.Looks (model pr ww) hh (isInstance (.ref e) (.type "BaseException")) true := A0.andThen (PySem.W.looks_subIn X C.hs)
  have no2 : (Value.builtin "BaseException.__getattribute__" == Value.builtin "object.__getattribute__") = false := by decide +kernel
  have no1 : (onTheHeap (Value.ref T) && Value.builtin "BaseException.__getattribute__" == Value.builtin "object.__getattribute__") = false := by
    rw [no2]
    rfl
  have no0 : (false && onTheHeap (Value.builtin "BaseException.__getattribute__")) = false := rfl
  unfold getAttr? getAttrBy? getAttrBy
  refine wpAny_bind (wpAny_mkText (wpAny_bind (wpAny_attempt (wpAny_holding (wpAny_bind (A0.at (wpAny_bind (A1.at ?_))))))))
  show wpAny _ _ (if (onTheHeap (Value.ref T) && Value.builtin "BaseException.__getattribute__" == Value.builtin "object.__getattribute__") = true then _ else _) _ _ _
  rw [no1, if_neg Bool.false_ne_true]
  unfold getAttrByItsOwn hookBefore
  refine wpAny_bind ?_
  rw [if_pos (show onTheHeap (Value.ref T) = true from rfl)]
  refine A2.at (wpAny_bind (wpAny_attempt (wpAny_holding ?_)))
  unfold callGetattribute
  rw [no0, if_neg Bool.false_ne_true]
  unfold boundAndCalled
  rw [PySem.F.excAttr_ValueError.ga.bind (.ref e)]
  refine wpAny_bind (wpAny_pure ?_)
  show wpAny _ _ (call (.builtin "BaseException.__getattribute__") [.ref e, .str "__class__" tt]) _ _ _
  refine wpAny_call (codeAny_call_builtin PySem.F.excAttr_ValueError.ga.plain PySem.F.entry_bexc_ga ?_)
  refine @PySem.W.check_slot (model pr ww) _ _ ⟨hh, gg, rr, tt + 1, oo⟩ "BaseException.__getattribute__" "BaseException" "__getattribute__" (.ref e) [.str "__class__" tt] [] _ (by decide +kernel) (by decide +kernel) un (PySem.F.args_bexc_ga (.ref e) (.str "__class__" tt)) ?_
  unfold Builtin.«object.__getattribute__»
  refine wpAny_bind (wpAny_of_eq (a := ((Value.ref e : Value), [Value.str "__class__" tt])) (by first | rfl | (simp only [slotArgs]; rfl)) ?_)
  refine wpAny_bind (wpAny_pure (wpAny_bind (A0.at (wpAny_bind (A3.at ?_)))))
  show wpAny _ _ (holding [Value.builtin "object.__class__"] (call (.builtin "getset_descriptor.__get__") [.builtin "object.__class__", .ref e, .ref T]) >>= ret) _ _ _
  refine wpAny_bind (wpAny_holding (wpAny_call (PySem.W.class_get (s := ⟨hh, gg, rr, tt + 1, oo⟩) (ox := oe) (od := od) X I C.hm ?_)))
  refine wpAny_pure ?_
  show wpAny _ _ (handedOut (.ref T)) _ _ _
  rw [PySem.W.handedOut_of (v := .ref T) rfl]
  first
    | exact wpAny_pure (wpAny_pure q)
    | exact wpAny_pure q
    | exact wpAny_pure (wpAny_bind (wpAny_pure (wpAny_pure q)))
theorem err_kit (C : ExcC K T) : PySem.W.KitX K (.ref e) (.ref T) (fun h => PySem.W.InstAt h e oe T od) where
  ty := fun _ _ _ I => I.type
  it := fun M h => (PySem.W.handS_kitx_exc (x := e) (ox := oe) C.hg C.hk C.hs C.hd C.ha C.hn C.ht C.hm).it M h |> fun f X _ => by
    obtain ⟨cd, hc, _⟩ := PySem.W.any_some C.hd
    unfold PySem.W.clsIn at hc
    split at hc
    · rename_i ho
      intro A' Q' E' s' k q
      unfold isType loadHead
      exact wpAny_bind (wpAny_loadPart (k _ _ (X _ _ ho)) (wpAny_pure q))
    · cases hc
  ne := (PySem.W.handS_kitx_exc (x := e) (ox := oe) C.hg C.hk C.hs C.hd C.ha C.hn C.ht C.hm).ne
  ca := fun X I k => err_class C X I k
end
/-- the classes that the laws ask for -/
def exBase (x : Str) : Str := if x = "UnknownName" ∨ x = "InUse" then "WrongName" else if x = "NoWalk" ∨ x = "NothingToUndo" ∨ x = "Broken" then "NotPossible" else "WrongValue"
def exOwn (x : Str) : String := if x = "UnknownName" ∨ x = "InUse" then "LookupError" else if x = "NoWalk" ∨ x = "NothingToUndo" ∨ x = "Broken" then "ArithmeticError" else "ValueError"
/-- what is asked of the class x of errors: cs own classes, ts the language's -/
structure IsX (K : PySem.W.Frag) (x : Str) (cs : List Str) (ts : List String) : Prop where
  c : ExcC K (He.ga K x)
  own : ∀ y ∈ cs, PySem.W.kitOne K (.ref (He.ga K x)) (.ref (He.ga K y)) = some (decide (y = x ∨ y = exBase x))
  typ : ∀ t ∈ ts, PySem.W.kitOne K (.ref (He.ga K x)) (.type t) = some (decide (t = exOwn x))
def fIsE (x : Str) (cs : List Str) (ts : List String) (a dd : Addr) : Mu → List D → Option D := fun _ ds => match ds with
  | [.exn a' dd' _ _, .glo y] => if a' = a ∧ dd' = dd ∧ y ∈ cs then some (.bl (decide (y = x ∨ y = exBase x))) else none
  | [.exn a' dd' _ _, .ty t] => if a' = a ∧ dd' = dd ∧ t ∈ ts then some (.bl (decide (t = exOwn x))) else none
  | _ => none
theorem cd_isE {X : Cx} {x : Str} {cs : List Str} {ts : List String} {a dd : Addr} (k : IsX X.K x cs ts) (hx : HotX X x a dd) : CallD X (.builtin "isinstance") (fIsE x cs ts a dd) := by
  have one : ∀ (cv : Value) (b : Bool), PySem.W.kitOne X.K (.ref (He.ga X.K x)) cv = some b → ∀ (pins : List (Addr × Obj)) (s : Shared) (σ : L2.St) (H : Hp) (Q : VK) (fs : List (Str × V)), L2.Inv X pins σ H s → H dd = some (.xd fs) → Q (.bl b) H →
      wpAny (model X.prog X.w) X.A (call (.builtin "isinstance") [.ref a, cv]) (EP X pins σ Q) X.xe s := by
    intro cv b e pins s σ H Q fs I hd q
    have hO : ObjOk X.prog X.w H s.heap dd (.xd fs) := I.hok dd _ hd
    obtain ⟨mA, hns, _⟩ := hO
    obtain ⟨od, ho, _⟩ := lookIn_ns hns
    obtain ⟨oe, J⟩ := hx.at I ho
    exact PySem.W.kia_one (err_kit k.c) I.kIn J e (fun z => nomatch z) fun tk => ⟨.bl b, H, I.kept (t' := tk) fun _ _ z => z, rfl, q⟩
  refine ⟨fun xs H Q => ∃ (y : V) (cv : Value) (b : Bool) (fs : List (Str × V)), xs = [.ref a, y] ∧ (∀ u, L2.RelV y u → u = cv) ∧ PySem.W.kitOne X.K (.ref (He.ga X.K x)) cv = some b ∧ H dd = some (.xd fs) ∧ Q (.bl b) H, ?_, ?_⟩
  · intro pins s σ H xs us Q I r ⟨y, cv, b, fs, e1, hcv, e, hd, q⟩
    subst e1
    rcases r with _ | ⟨r1, r2⟩
    rcases r2 with _ | ⟨r2, r3⟩
    cases r3
    cases r1
    have ec := hcv _ r2
    subst ec
    exact one _ b e pins s σ H Q fs I hd q
  · intro ρ F H μ vs ds z k' rv ez Q q
    unfold fIsE at ez
    split at ez
    · rename_i a' dd' f d y
      split at ez
      · rename_i hh
        obtain ⟨rfl, rfl, hy⟩ := hh
        cases ez
        rcases rv with _ | ⟨r1, r2⟩
        rcases r2 with _ | ⟨r2, r3⟩
        cases r3
        cases r2
        cases r1 with
        | exn h1 h2 => exact ⟨_, _, _, _, rfl, fun u hu => hu, k.own y hy, k'.ex _ _ h1, q ρ F H _ Nx.refl k' (.bl _)⟩
      · cases ez
    · rename_i a' dd' f d t
      split at ez
      · rename_i hh
        obtain ⟨rfl, rfl, ht⟩ := hh
        cases ez
        rcases rv with _ | ⟨r1, r2⟩
        rcases r2 with _ | ⟨r2, r3⟩
        cases r3
        cases r2
        cases r1 with
        | exn h1 h2 => exact ⟨_, _, _, _, rfl, fun u hu => hu, k.typ t ht, k'.ex _ _ h1, q ρ F H _ Nx.refl k' (.bl _)⟩
      · cases ez
    · cases ez
/-! ### e.f -/
def dXf (f : Str) (a dd : Addr) (e : DE) : DE := fun Γ μ => (e Γ μ).bind fun x μ1 => match x with
  | .exn a' dd' f' d => if a' = a ∧ dd' = dd ∧ f' = f then .ok d μ1 else .stk
  | _ => .stk
theorem q_xf {X : Cx} {E : XK} {x f : Str} {a dd : Addr} {e : Expr} {de : DE} {pos : Pos} (k : ExcC X.K (He.ga X.K x)) (no : PySem.W.findIn X.K (.ref (He.ga X.K x)) f = some none) (hx : HotX X x a dd) (he : QE X E e de) (hb : attributeBase e f X.env (eval e X.env) = eval e X.env := by rfl) :
    QE X E (.Attribute e f pos) (dXf f a dd de) := by
  obtain ⟨te, e1, e2⟩ := he.ex
  refine ⟨fun σ H Q => te σ H fun y H1 => y = .ref a ∧ ∃ v, H1 dd = some (.xd [(f, v)]) ∧ Q v H1, ⟨fun pins s σ H Q I h => ?_⟩, ?_⟩
  · refine attr_of hb (thn (e1.run pins s σ H _ I h) fun u s1 ⟨y, H1, I1, r1, ey, v, ed, q⟩ => ?_)
    subst ey
    obtain rfl : u = Value.ref a := r1
    have hO : ObjOk X.prog X.w H1 s1.heap dd (.xd [(f, v)]) := I1.hok dd _ ed
    obtain ⟨mA, hns, hr⟩ := hO
    obtain ⟨od, ho, hl⟩ := lookIn_ns hns
    obtain ⟨oe, J⟩ := hx.at I1 ho
    obtain ⟨u, hu, ru⟩ := RelO.some_of (v := v) (o := mA f) (by have := hr f; simpa [List.lookup] using this)
    exact HandSPX.exc_get I1.kIn J k.hg k.hk k.hs (PySem.W.findObj_own k.hd no rfl (by rw [hl, hu])) (handed_of ru) ⟨v, H1, I1.tok _, ru, q⟩
  · intro ρ F H Γ μ σ kk s Q h
    refine e2 ρ F H Γ μ σ kk s _ ((WpR.bind h).mono (fun y μ1 q => ?_) fun _ _ q => q)
    intro ρ1 F1 H1 v n1 k1 r1
    split at q
    · split at q
      · rename_i hh
        obtain ⟨rfl, rfl, rfl⟩ := hh
        cases r1 with
        | exn h1 h2 => exact ⟨rfl, _, k1.ex _ _ h1, q ρ1 F1 H1 _ n1 k1 h2⟩
      · exact False.elim q
    · exact False.elim q
end Ar

set_option Elab.async false
set_option linter.all false
set_option maxRecDepth 100000
set_option maxHeartbeats 4000000
/-! Ar44: try: n = a() / except (..) as e: suite, in a def that got a lambda; that def called -/
namespace Ar
open PySem PySem.Spec PyProof.Rows L2
/-- nothing may fly out -/
abbrev noE : XK := fun _ _ _ => False
abbrev cxZ (P : Program) (w : World) (K : PySem.W.Frag) (mg : Str → Option Value) (base : Heap) (N : List Str) (q : Str) (sc : Scope) (g : Addr) (cd : Value) (A : Around) (o : List Env) (s : Shared) (H : Hp) : Cx := cxOf (L2.CX P w) P w K mg base N q sc g cd A o s H noE
section
variable {P : Program} {w : World} {K : PySem.W.Frag} {mg : Str → Option Value} {base : Heap} {N : List Str} {qg : Str} {sg : Scope} {g : Addr} {cd : Value} {A : Around} {o : List Env} {s0 : Shared} {H0 : Hp}
end
end Ar

set_option Elab.async false
set_option linter.all false
set_option maxRecDepth 100000
set_option maxHeartbeats 4000000
/-! Ar45: x(lambda: e), x a def that calls what it gets, once, in a try -/
namespace Ar
open PySem PySem.Spec PyProof.Rows L2
end Ar

set_option Elab.async false
set_option linter.all false
set_option maxRecDepth 100000
set_option maxHeartbeats 4000000
/-! Ar46: the law's end where defs make lambdas: tables of codes -/
namespace Ar
open PySem PySem.Spec PyProof.Rows L2
abbrev mtO : Obj := { cls := .none, data := .fields #[] }
theorem law_callT {P : Program} {w : World} {K : PySem.W.Frag} {mg mb : Str → Option Value} {Z : CXT} {k : Nat} {fa a : Addr} {cs : List (Addr × Addr)} {fd : FuncData} {x : Str} {sp : Sp} {s₁ : Shared} {vs : List Value} {ns : List Int}
    (KX : K.In s₁.heap) (n1 : s₁.heap.Ns mainGlobals mg) (n2 : s₁.heap.Ns builtinsNs mb) (n3 : ∀ y : Str, y ≠ "__name__" → mb y = bootBuiltins y) (n4 : s₁.heap.NoLimit) (n5 : s₁.gens = #[])
    (e1 : ∀ p ∈ cs, s₁.heap.get? p.2 = some mtO) (e2 : ∀ p ∈ cs, K.lookup p.2 = none) (e3 : ∀ p ∈ cs, PySem.W.CodeHd s₁.heap p.1 p.2)
    (e4 : ∃ (bm : Addr) (ob : Obj), mg "__builtins__" = some (.ref bm) ∧ bm ≠ builtinsNs ∧ s₁.heap.get? bm = some ob ∧ ob.cls = .type "module" ∧ ob.dict = some builtinsNs ∧ ob.data = .plain)
    (ha : s₁.heap.get? a = some { cls := .type "list", data := .seq vs.toArray }) (hi : IntsAre vs ns) (hl : ns.length ≤ sizeLine) (hr : RoomG k callerA)
    (F : ∀ base : Heap, K.In base → base.Ns mainGlobals mg → (∀ p ∈ cs, LamX.TabB base mg p.1 p.2) → Pm P w K mg base Z k fa fd [x] sp) (bi : ∀ (s : Shared) (u : Value), BindsTo s fd ⟨[u], []⟩ [(x, u)])
    (hs : ∀ H : Hp, (∀ p ∈ cs, H p.2 = some (.tbl #[])) → SqL K H a (ns.map V.int) → sp [.ref a] H (fun v _ => v = .bl true) fun _ _ _ => False) (hZ : ∀ H e s', Z [] H s₁ (fun _ _ _ => False) e s' → False) :
    codeAny (model P w) callerA (.call (.ref fa) ⟨[.ref a], []⟩) (fun r s' => r = .ok (.ret (.bool true)) ∧ OldK s₁.heap s'.heap ∧ s'.os = s₁.os ∧ AllBare s'.gens) s₁ := by
  classical
  have rv := vals_ints hi
  have lv := hi.length
  let T : List Addr := cs.map (·.2)
  have inT : ∀ {b : Addr}, b ∈ T → ∃ p ∈ cs, p.2 = b := fun {b} h => by
    obtain ⟨p, h1, h2⟩ := List.mem_map.mp h
    exact ⟨p, h1, h2⟩
  have toT : ∀ {p : Addr × Addr}, p ∈ cs → p.2 ∈ T := fun {p} h => List.mem_map.mpr ⟨p, h, rfl⟩
  have tabAt : ∀ {b : Addr}, b ∈ T → s₁.heap.get? b = some mtO := fun {b} h => by
    obtain ⟨p, h1, h2⟩ := inT h
    rw [← h2]
    exact e1 p h1
  have noKT : ∀ {b : Addr}, b ∈ T → K.lookup b = none := fun {b} h => by
    obtain ⟨p, h1, h2⟩ := inT h
    rw [← h2]
    exact e2 p h1
  have aT : a ∉ T := fun h => by
    have := (tabAt h).symm.trans ha
    injection this with z
    have z2 := congrArg Obj.data z
    cases z2
  have core : ∀ H : Hp, (∀ b ∈ T, H b = some (.tbl #[])) → (∀ b, H b = none ∨ b ∈ T ∨ ∃ o xs, H b = some (.frz o (.lst xs))) → SqL K H a (ns.map V.int) → HOk P w H s₁.heap → (∀ b, H b ≠ none → (b = a ∧ K.lookup a = none) ∨ b ∈ T) →
      codeAny (model P w) callerA (.call (.ref fa) ⟨[.ref a], []⟩) (fun r s' => r = .ok (.ret (.bool true)) ∧ OldK s₁.heap s'.heap ∧ s'.os = s₁.os ∧ AllBare s'.gens) s₁ := by
    intro H hT hO hS ok hA
    have n0 : ∀ {b : Addr} {o : Obj}, s₁.heap.get? b = some o → (b = a → K.lookup a = none → False) → o ≠ mtO → H b = none := fun {b} {o} e h1 h2 => by
      refine Classical.byContradiction fun q => ?_
      rcases hA b q with z | z
      · exact h1 z.1 z.2
      · exact h2 (Option.some.inj (e.symm.trans (tabAt z)))
    have data : ∀ {b : Addr} {o : Obj}, s₁.heap.get? b = some o → (∀ xs m, o.data ≠ .seq xs m) → o.data ≠ .fields #[] → H b = none := fun {b} {o} e h1 h2 => n0 e (fun z _ => by
      subst z
      rw [ha] at e
      cases e
      exact h1 _ _ rfl) fun z => h2 (by rw [z])
    have dict : ∀ {b : Addr} {o : Obj} {es : Array DictEntry} {ep : Nat}, s₁.heap.get? b = some o → o.data = .dict es ep → H b = none := fun e d => data e (fun _ _ => by rw [d]; simp) (by rw [d]; simp)
    have nsK : ∀ {b : Addr} {m : Str → Option Value}, s₁.heap.Ns b m → (hidT s₁.heap H).Ns b m := by
      rintro b m ⟨o, es, ep, e, d, r⟩
      exact ⟨o, es, ep, hidT_get e (dict e d), d, r⟩
    have hKb : K.In (hidT s₁.heap H) := fun b o e => hidT_get (KX b o e) (by
      refine Classical.byContradiction fun q => ?_
      rcases hA b q with z | z
      · rw [z.1, z.2] at e
        cases e
      · rw [noKT z] at e
        cases e)
    have hM : L2.Mod K mg (hidT s₁.heap H) := by
      obtain ⟨mc, z1, z2⟩ := n4
      exact ⟨hKb, nsK n1, ⟨mb, nsK n2, n3⟩, ⟨mc, nsK z1, z2⟩⟩
    have TB : ∀ p ∈ cs, LamX.TabB (hidT s₁.heap H) mg p.1 p.2 := by
      intro p hp
      constructor
      · obtain ⟨o, us, file, tf, flags, tg, inF, text, tt, c1, c2, c3, c4, c5⟩ := e3 p hp
        refine ⟨o, us, file, tf, flags, tg, inF, text, tt, hidT_get c1 (data c1 (fun xs m => by rw [c3]; simp) fun z => ?_), c2, c3, c4, c5⟩
        rw [c3] at z
        injection z with z
        rw [z] at c4
        simp at c4
      · obtain ⟨bm, ob, b1, b2, b3, b4, b5, b6⟩ := e4
        have plain : H bm = none := data b3 (fun xs m => by rw [b6]; simp) (by rw [b6]; simp)
        refine ⟨bm, ob, b1, b2, fun q => ?_, fun q => ?_, hidT_get b3 plain, b4, b5, b6⟩
        · obtain ⟨o, es, ep, g1, g2, _⟩ := n1
          rw [q, g1] at b3
          cases b3
          rw [g2] at b6
          cases b6
        · rw [q, e1 p hp] at b3
          cases b3
          cases b6
      · intro q
        obtain ⟨o, es, ep, g1, g2, _⟩ := n1
        rw [q, e1 p hp] at g1
        cases g1
        cases g2
    have e0 : Env0 P w K mg (hidT s₁.heap H) callerA [] s₁ H := ⟨rfl, hM, fun _ _ e => of_hidT e, by rw [hidT_size]; exact Nat.le_refl _, trivial, fun b z => (List.not_mem_nil z).elim, ok, AllBare.of_eq n5⟩
    refine codeAny_mono ((F _ hKb (nsK n1) TB).go callerA [] s₁ H ⟨[.ref a], []⟩ [.ref a] [.ref a] _ _ hr e0 (bi s₁ _) (.cons rfl .nil) (hs H (fun p hp => hT _ (toT hp)) hS)) fun r s' h => ?_
    rcases r with e | fl
    · exact (hZ H e s' h).elim
    · cases fl with
      | brk => exact h.elim
      | cont => exact h.elim
      | next => exact h.elim
      | ret u => ?_
      obtain ⟨v, H', os, bare, un, ok', r', q⟩ := h
      cases (show v = V.bl true from q)
      obtain rfl : u = Value.bool true := r'
      have stays : ∀ b o, b ∉ T → s₁.heap.get? b = some o → s'.heap.get? b = some o := fun b o nb e => by
        rcases hO b with q | q | ⟨ob, xs, q⟩
        · exact un.keep b o e q (fun z => (List.not_mem_nil z).elim) (by simp)
        · exact (nb q).elim
        · have g1 := (ok b _ q).1
          rw [e] at g1
          cases g1
          exact (ok' b _ (un.frzs b _ _ q)).1
      have grows : ∀ p ∈ cs, ∃ more : Array Value, s'.heap.get? p.2 = some { cls := .none, data := .fields more } := fun p hp => by
        obtain ⟨more, z⟩ := un.tbls p.2 #[] (hT _ (toT hp))
        exact ⟨_, ok' p.2 _ z⟩
      refine ⟨rfl, ⟨fun b o e => ?_, fun b o e => ?_⟩, os, bare⟩
      · by_cases hb : b ∈ T
        · obtain ⟨p, hp, rfl⟩ := inT hb
          obtain ⟨more, hm⟩ := grows p hp
          rw [e1 p hp] at e
          cases e
          exact .inr (.inl ⟨((e3 p hp).tab (e1 p hp)).isCodeTable, rfl, #[], more, rfl, by rw [Array.empty_append]; exact hm⟩)
        · exact .inl (stays b o hb e)
      · by_cases hb : b ∈ T
        · obtain ⟨p, hp, rfl⟩ := inT hb
          obtain ⟨more, hm⟩ := grows p hp
          exact ⟨_, hm⟩
        · exact ⟨o, stays b o hb e⟩
  let B : Hp := fun b => if b ∈ T then some (.tbl #[]) else none
  have bT : ∀ b ∈ T, B b = some (.tbl #[]) := fun b h => if_pos h
  have bN : ∀ b, b ∉ T → B b = none := fun b h => if_neg h
  have isB : ∀ b u, B b = some u → b ∈ T ∧ u = .tbl #[] := fun b u h => by
    by_cases q : b ∈ T
    · rw [bT b q] at h
      exact ⟨q, (Option.some.inj h).symm⟩
    · rw [bN b q] at h
      cases h
  cases hk : K.lookup a with
  | some o =>
    have e := KX a o hk
    rw [ha] at e
    cases e
    refine core B bT (fun b => ?_) (.inr ⟨_, vs.toArray, _, hk, rfl, rfl, rfl, by rw [List.size_toArray, lv]; exact hl, by simpa using rv⟩) (fun b u z => ?_) fun b z => ?_
    · by_cases q : b ∈ T
      · exact .inr (.inl q)
      · exact .inl (bN b q)
    · obtain ⟨q, rfl⟩ := isB b u z
      exact tabAt q
    · obtain ⟨u, q⟩ := Option.ne_none_iff_exists'.mp z
      exact .inr (isB b u q).1
  | none =>
    have G : ∀ b, upd B a (.frz { cls := .type "list", data := .seq vs.toArray } (.lst (ns.map V.int))) b ≠ none → b = a ∨ b ∈ T := fun b z => by
      by_cases q : b = a
      · exact .inl q
      · rw [upd_ne q] at z
        obtain ⟨u, q2⟩ := Option.ne_none_iff_exists'.mp z
        exact .inr (isB b u q2).1
    refine core (upd B a (.frz { cls := .type "list", data := .seq vs.toArray } (.lst (ns.map V.int)))) (fun b h => ?_) (fun b => ?_) (.inl (.inr ⟨_, upd_same⟩)) (fun b u z => ?_) fun b z => (G b z).imp (fun q => ⟨q, hk⟩) id
    · rw [upd_ne fun q => aT (by rw [← q]; exact h)]
      exact bT b h
    · by_cases q : b = a
      · subst q
        exact .inr (.inr ⟨_, _, upd_same⟩)
      · by_cases q2 : b ∈ T
        · exact .inr (.inl q2)
        · exact .inl (by rw [upd_ne q]; exact bN b q2)
    · by_cases q : b = a
      · subst q
        rw [upd_same] at z
        cases z
        exact ⟨ha, by rw [List.length_map]; exact hl, vs, _, rv, ha⟩
      · rw [upd_ne q] at z
        obtain ⟨q2, rfl⟩ := isB b u z
        exact tabAt q2
end Ar

set_option Elab.async false
set_option linter.all false
set_option maxRecDepth 100000
set_option maxHeartbeats 4000000
/-! Ar47: the law's end with tables, joined; the head's hook that leaves empty tables out -/
namespace Ar
open PySem PySem.Spec PyProof.Rows L2
theorem law_endT {K : PySem.W.Frag} {m : Fn} {n : Nat} {Ts : List (Addr × Str)} (nd : (Ts.map (·.1)).Nodup) (hm : ∀ ns : List Int, ns.length ≤ n → ∃ μ, m [.scr (ns.map .int)] (Ts.map fun p => .tab p.1 p.2) = .ok (.bl true) μ) (H : Hp) (hT : ∀ p ∈ Ts, H p.1 = some (.tbl #[]))
    (a : Addr) (ns : List Int) (hl : ns.length ≤ n) (hS : SqL K H a (ns.map V.int)) : spM K m [.ref a] H (fun v _ => v = .bl true) fun _ _ _ => False := by
  classical
  obtain ⟨μ, e⟩ := hm ns hl
  let F : Hp := fun b => if b ∈ Ts.map (·.1) then none else H b
  have hd : ∀ ns : List Int, DnAll K (Ts.map (·.1)) F (ns.map V.int) (ns.map D.int) := by
    intro ns
    induction ns with
    | nil => exact .nil
    | cons i ns ih => exact .cons (.int i) ih
  have out : ∀ b ∈ Ts.map (·.1), H b = some (.tbl #[]) := fun b h => by
    obtain ⟨p, h1, h2⟩ := List.mem_map.mp h
    rw [← h2]
    exact hT p h1
  have Fs : SqL K F a (ns.map V.int) := by
    have keep : ∀ u, H a = some u → u ≠ .tbl #[] → F a = some u := fun u h1 h2 => by
      by_cases q : a ∈ Ts.map (·.1)
      · exact absurd (Option.some.inj (h1.symm.trans (out a q))) h2
      · exact (if_neg q).trans h1
    rcases hS with (h | ⟨o, h⟩) | h
    · exact .inl (.inl (keep _ h (fun z => by cases z)))
    · exact .inl (.inr ⟨o, keep _ h (fun z => by cases z)⟩)
    · exact .inr h
  refine ⟨Ts.map (·.1), F, Ts.map fun p => .tab p.1 p.2, [.scr (ns.map .int)], ⟨fun b o h => ?_, by simp, nd, fun i b o h1 h2 => ?_⟩, .cons (.scr Fs (hd ns)) .nil, ?_⟩
  · by_cases q : b ∈ Ts.map (·.1)
    · have h : (if b ∈ Ts.map (·.1) then none else H b) = some o := h
      rw [if_pos q] at h
      cases h
    · have h : (if b ∈ Ts.map (·.1) then none else H b) = some o := h
      rwa [if_neg q] at h
  · rw [List.getElem?_map] at h1 h2
    cases hp : Ts[i]? with
    | none => rw [hp] at h1; cases h1
    | some p =>
      rw [hp] at h1 h2
      cases h1
      cases h2
      have hm2 : p ∈ Ts := List.mem_of_getElem? hp
      exact ⟨rfl, if_pos (List.mem_map.mpr ⟨p, hm2, rfl⟩), #[], hT p hm2, True.intro, fun pos cv hc => by
        have z : codeAmong pos [] = some cv := hc
        simp [codeAmong] at z⟩
  · rw [e]
    intro ρ F' H' v _ _ r
    cases r
    rfl
theorem walkT {l : PySem.W.OpenLaw} {n k : Nat} {q : Program} {loose : List Str} {XP : (Str → Option Value) → Heap → Prop} {YP : World → Heap → Prop} {d : DefRec} {x : Str} (hn : l.most = some n) (hn2 : n ≤ sizeLine) (hdf : d.params.defaults = []) (hr : RoomG k callerA)
    (F : ∀ (w : World) (mg : Str → Option Value) (fa : Addr) (h : Heap), YP w h → h.Ns mainGlobals mg → mg d.name = some (.ref fa) →
      ∃ (K : PySem.W.Frag) (fd : FuncData) (m : Fn) (cs : List (Addr × Addr)) (Ts : List (Addr × Str)), K.In h ∧ (∀ p ∈ cs, h.get? p.2 = some mtO) ∧ (∀ p ∈ cs, K.lookup p.2 = none) ∧ (∀ p ∈ cs, PySem.W.CodeHd h p.1 p.2) ∧ Ts.map (·.1) = cs.map (·.2) ∧ (Ts.map (·.1)).Nodup ∧
        (∀ (s : Shared) (u : Value), BindsTo s fd ⟨[u], []⟩ [(x, u)]) ∧ (∀ ns : List Int, ns.length ≤ n → ∃ μ, m [.scr (ns.map .int)] (Ts.map fun p => .tab p.1 p.2) = .ok (.bl true) μ) ∧
        ∀ base : Heap, K.In base → base.Ns mainGlobals mg → (∀ p ∈ cs, LamX.TabB base mg p.1 p.2) → Pm l.prog w K mg base (L2.CX l.prog w) k fa fd [x] (spM K m)) :
    PySem.W.WalkO q loose XP YP l.row.toRowW d [] (fun f vs => PySem.call f vs) := by
  refine Att.attach_callB hn hdf fun w s₀ s₁ mg mb fa o pm cd doc a vs ns G Y ho hd hcd hmg hobj hints hlen hbits hg => ?_
  obtain ⟨K, fd, m, cs, Ts, KX, t1, t2, t3, t4, t5, hb, hm, hF⟩ := F w mg fa _ Y G.T.g hmg
  refine law_callT KX G.T.g G.T.b G.T.builtins G.T.nolimit hg t1 t2 t3 G.T.bmain hobj hints (Nat.le_trans hlen hn2) hr hF hb (fun H hH hS => law_endT t5 hm H (fun p hp => ?_) a ns hlen hS) fun H e s' => cx_end H s₁ e s'
  have h2 : p.1 ∈ cs.map (·.2) := by rw [← t4]; exact List.mem_map.mpr ⟨p, hp, rfl⟩
  obtain ⟨c, h3, h4⟩ := List.mem_map.mp h2
  rw [← h4]
  exact hH c h3
/-! ### the head -/
/-- tf: the defs that make lambdas -/
structure SaysW (fa : List He.Fa) (fn : List He.DefD) (ts : List He.Tab) (wr : List WrD) (tf : List He.Defn) (ex : PySem.W.Frag → Bool) (w : World) (h : Heap) (K : PySem.W.Frag) : Prop where
  z : SaysZ fa fn ts wr ex w K
  hd : ∀ p ∈ tf, PySem.W.codeHdIn K (He.cT K p).1 (He.cT K p).2 = true
  out : ∀ p ∈ tf, K.lookup (He.cT K p).2 = none
  mt : ∀ p ∈ tf, h.get? (He.cT K p).2 = some mtO
def tbOk (g : Addr → Option Obj) (K : PySem.W.Frag) (p : He.Defn) : Bool := PySem.W.codeHdIn K (He.cT K p).1 (He.cT K p).2 && ((g (He.cT K p).2).map He.emptyTab).getD false
def obsWG (as : List Addr) (fa : List He.Fa) (fn : List He.DefD) (ts : List He.Tab) (wr : List WrD) (tf : List He.Defn) (ex : PySem.W.Frag → Bool) (g : Addr → Option Obj) : AlZ × Bool := (obsZ fa fn ts wr ex (He.frT g as), tf.all fun p => tbOk g (He.frT g as) p)
def hookW (as : List Addr) (fa : List He.Fa) (fn : List He.DefD) (ts : List He.Tab) (wr : List WrD) (tf : List He.Defn) (ex : PySem.W.Frag → Bool) : PySem.W.Hook where
  α := AlZ × Bool
  obs := fun s => obsWG as fa fn ts wr tf ex s.heap.get?
  val := fun w => (valZ fn ts wr w, true)
  says := fun w h => ∃ K : PySem.W.Frag, K.In h ∧ SaysW fa fn ts wr tf ex w h K
  of := fun w s e => by
    have h1 : obsZ fa fn ts wr ex (He.frT s.heap.get? as) = valZ fn ts wr w := congrArg (fun z : AlZ × Bool => z.1) e
    have h2 : (tf.all fun p => tbOk s.heap.get? (He.frT s.heap.get? as) p) = true := congrArg (fun z : AlZ × Bool => z.2) e
    have key : ∀ p ∈ tf, PySem.W.codeHdIn (He.frT s.heap.get? as) (He.cT (He.frT s.heap.get? as) p).1 (He.cT (He.frT s.heap.get? as) p).2 = true ∧ ∃ o, s.heap.get? (He.cT (He.frT s.heap.get? as) p).2 = some o ∧ He.emptyTab o = true := fun p hp => by
      obtain ⟨h3, h4⟩ := He.ba (List.all_eq_true.mp h2 p hp)
      refine ⟨h3, ?_⟩
      cases q : s.heap.get? (He.cT (He.frT s.heap.get? as) p).2 with
      | none => rw [q] at h4; cases h4
      | some o => rw [q] at h4; exact ⟨o, rfl, h4⟩
    refine ⟨_, He.frT_in, h1, fun p hp => (key p hp).1, fun p hp => ?_, fun p hp => ?_⟩
    · obtain ⟨_, o, q1, q2⟩ := key p hp
      exact He.frT_none q1 q2
    · obtain ⟨_, o, q1, q2⟩ := key p hp
      rw [q1, He.emptyTab_eq q2]
  keeps := fun _ _ _ ⟨K, hK, c⟩ k => ⟨K, PySem.W.Frag.In.keeps hK k, c.z, c.hd, c.out, fun p hp => k _ _ (c.mt p hp)⟩
end Ar

set_option Elab.async false
set_option linter.all false
set_option maxRecDepth 100000
set_option maxHeartbeats 4000000
/-! Ar48: facts of errors' classes; a def whose code object is told -/
namespace Ar
open PySem PySem.Spec PyProof.Rows L2
def oexA (K : PySem.W.Frag) (C : Addr) : Bool := match K.lookup C with
  | some ⟨.type t, _, .cls ⟨_, _, .ref c :: bm, _, _, true, _, _, _, _, false⟩, ⟨[_, _, _, _, some (.builtin i), _]⟩⟩ => decide (t = "type") && (decide (c = C) && (PySem.HandSPX.refsVE bm && decide (i = "ValueError.__new__")))
  | _ => false
def oexB (K : PySem.W.Frag) (C : Addr) : Bool := oexA K C && (decide (PySem.W.findIn K (.ref C) "__setattr__" = some (some (.builtin "object.__setattr__"))) && (decide (PySem.W.subIn K (.ref C) (.type "BaseException") = some true) && (decide (PySem.W.typeIn K (.ref C) = some (.type "type")) && PySem.W.keepIn K (.ref C))))
theorem oexB_ok {K : PySem.W.Frag} {C : Addr} (h : oexB K C = true) : OexC K C := by
  obtain ⟨h0, h⟩ := He.ba h
  obtain ⟨h1, h⟩ := He.ba h
  obtain ⟨h2, h⟩ := He.ba h
  obtain ⟨h3, h4⟩ := He.ba h
  refine ⟨?_, of_decide_eq_true h1, of_decide_eq_true h2, of_decide_eq_true h3, h4⟩
  unfold oexA at h0
  split at h0
  · rename_i e
    obtain ⟨a1, a⟩ := He.ba h0
    obtain ⟨a2, a⟩ := He.ba a
    obtain ⟨a3, a4⟩ := He.ba a
    have b1 := of_decide_eq_true a1
    have b2 := of_decide_eq_true a2
    have b4 := of_decide_eq_true a4
    subst b1 b2 b4
    exact ⟨_, _, _, _, _, _, _, _, _, _, _, _, _, _, _, e, a3⟩
  · cases h0
def excB (K : PySem.W.Frag) (C : Addr) : Bool := decide (PySem.W.findIn K (.ref C) "__getattribute__" = some (some (.builtin "BaseException.__getattribute__"))) && (decide (PySem.W.findIn K (.ref C) "__getattr__" = some none) && (PySem.W.hasDictIn K C &&
  (decide (PySem.W.findIn K (.ref C) "__class__" = some (some (.builtin "object.__class__"))) && (decide (PySem.W.specialIn K (.builtin "object.__class__") "__get__" = some (some (.builtin "getset_descriptor.__get__"))) &&
  (decide (PySem.W.takesIn K (.builtin "object.__class__") = some true) && decide (PySem.W.mroIn K C (.type "object") = some true))))))
theorem excB_ok {K : PySem.W.Frag} {C : Addr} (hs : PySem.W.subIn K (.ref C) (.type "BaseException") = some true) (h : excB K C = true) : ExcC K C := by
  obtain ⟨h1, h⟩ := He.ba h
  obtain ⟨h2, h⟩ := He.ba h
  obtain ⟨h3, h⟩ := He.ba h
  obtain ⟨h4, h⟩ := He.ba h
  obtain ⟨h5, h⟩ := He.ba h
  obtain ⟨h6, h7⟩ := He.ba h
  exact ⟨of_decide_eq_true h1, of_decide_eq_true h2, hs, h3, of_decide_eq_true h4, of_decide_eq_true h5, of_decide_eq_true h6, of_decide_eq_true h7⟩
/-- a def by its body, its code object told -/
theorem fn_okC {P : Program} {w : World} {K : PySem.W.Frag} {mg : Str → Option Value} {base : Heap} {x qual : Str} {params : Arguments} {body : List Stmt} {scope : Scope} {p : Str × Option Str} {fd : FuncData} {N ps : List Str} {k n nn : Nat} {db : DS} (F : FunD K x qual params body scope [] [] (He.fAd K p) fd) (S : FnScope N ps scope)
    (hn : ps.length = n) (hN : N.length = nn)
    (hb : ∀ (A : Around) (outer : List Env) (s : Shared) (H : Hp) (E : XK), RoomG k (A.deeper (envOfC qual scope s.heap.objs.size (He.fAd K p) (.ref (He.codeOf K p)))) → QSs (cxOf (L2.CX P w) P w K mg base N qual scope (He.fAd K p) (.ref (He.codeOf K p)) A outer s H E) E body db) :
    Pm P w K mg base (L2.CX P w) (k + 1) (He.fAd K p) fd ps (spM K (dDef n nn db)) := by
  obtain ⟨oc, od, dV, kV, doc, pm, an, cdv, ct, osl, rfl, lk, hcd, _, _⟩ := F.ex
  obtain ⟨c, rfl⟩ := He.codeIn_ref hcd
  have ec : He.codeOf K p = c := He.codeOf_eq lk rfl
  subst ec
  have ln : ∀ xs H D E, spM K (dDef n nn db) xs H D E → xs.length = ps.length := fun xs H D E ⟨ρ, F0, μ, ds, k0, r0, h⟩ => by
    unfold dDef at h
    split at h
    · rename_i hl
      rw [r0.length, hl, hn]
    · exact False.elim h
  refine ⟨ln, fun A o s H ar us xs D E hr e0 hbn r hs => ?_⟩
  have hlen := ln xs H D E hs
  have KX : K.In s.heap := e0.mod.kin.keeps fun b u z => (e0.bs b u z).1
  have li : s.heap.NoLimit := e0.mod.nolimit.keeps fun b u z => (e0.bs b u z).1
  have hk : ∀ y ∈ ps.zip us, scope.names.lookup y.1 = some .local ∨ (scope.names.lookup y.1 = some .cell ∧ ((cellsFrom (s.heap.objs.size + 1) scope.names []).lookup y.1).isSome = true) := by
    rintro ⟨m, v⟩ hy
    have := S.par m (List.of_mem_zip hy).1
    exact this.imp id fun q => ⟨q, PySem.W.cellsFrom_some _ _ _ (.inl q)⟩
  refine codeAny_call_function hr.r.depth (KX _ _ lk) rfl S.co S.gen rfl (PySem.W.codeRec_of KX hcd) (hbn _ _ _ _ (wpAny_newFunctionEnv_cells S.kind hk ?_))
  intro en he s1 y
  subst he
  refine ⟨li.keeps y.toInCall.keep, codeAny_func ?_⟩
  obtain ⟨t, ht, sm⟩ := (hb A o s H E (hr.down _)).ex
  have I0 := inv_start (CX := L2.CX P w) (E := E) S hr.r.hd e0 hlen r y
  have hq : t { nx := fun _ H' => D .non H', rt := D } (L2.start N xs) H := by
    obtain ⟨ρ, F0, μ, ds, k0, r0, h⟩ := hs
    unfold dDef at h
    split at h
    · refine sm ρ F0 H _ μ _ k0 (slots_start r0) _ ?_
      subst hN
      cases hres : db (ds.map some ++ List.replicate (N.length - ds.length) none) μ with
      | nx Γ μ1 => rw [hres] at h; exact fun ρ1 F1 H1 σ1 n1 k1 s1 => h ρ1 F1 H1 .non n1 k1 .non
      | rt d μ1 => rw [hres] at h; exact h
      | bk Γ μ1 => rw [hres] at h; exact False.elim h
      | ct Γ μ1 => rw [hres] at h; exact False.elim h
      | exc e μ1 => rw [hres] at h; exact h
      | stk => rw [hres] at h; exact False.elim h
    · exact False.elim h
  refine wpAny_mono (ht.run [] s1 _ H _ I0 hq) (fun fl s' z => ?_) fun _ _ z => z
  cases fl with
  | brk => obtain ⟨_, _, _, q⟩ := z; exact q.elim
  | cont => obtain ⟨_, _, _, q⟩ := z; exact q.elim
  | next =>
    obtain ⟨τ, G, J, q⟩ := z
    exact ⟨.non, G, J.os, J.bare, J.base, J.hok, rfl, q⟩
  | ret u =>
    obtain ⟨v, τ, G, J, rv, q⟩ := z
    exact ⟨v, G, J.os, J.bare, J.base, J.hok, rv, q⟩
end Ar

set_option Elab.async false
set_option linter.all false
set_option maxRecDepth 100000
set_option maxHeartbeats 4000000
/-! Ar49: room in an except suite -/
namespace Ar
open PySem PySem.Spec PyProof.Rows L2
end Ar

set_option Elab.async false
set_option linter.all false
set_option maxRecDepth 100000
set_option maxHeartbeats 4000000
/-! Ar50: {} -/
namespace Ar
open PySem PySem.Spec PyProof.Rows L2
theorem isFn_ty {K : PySem.W.Frag} {a : Addr} (h : PySem.W.isFn K (.ref a) = true) : PySem.W.typeIn K (.ref a) = some (.type "function") := by
  unfold PySem.W.isFn at h
  first
  | exact beq_iff_eq.mp h
  | exact of_decide_eq_true h
  | simpa using h
end Ar

set_option Elab.async false
set_option linter.all false
set_option maxRecDepth 100000
set_option maxHeartbeats 4000000
/-! Ar51: repr({}); texts compared -/
namespace Ar
open PySem PySem.Spec PyProof.Rows L2
def fReprE : Mu → List D → Option D := fun _ ds => match ds with
  | [.dK []] => some (.str "{}")
  | _ => none
theorem cd_reprE {X : Cx} (hg : X.A.guards = some []) (hu : X.A.units + 64 < cLine) : CallD X (.builtin "repr") fReprE := by
  refine ⟨fun xs H Q => ∃ a, xs = [.ref a] ∧ H a = some (.dK []) ∧ Q (.str "{}") H, fun pins s σ H xs us Q I r h => ?_, fun ρ F H μ vs ds z k rv ez Q q => ?_⟩
  · obtain ⟨a, rfl, ha, q⟩ := h
    obtain ⟨u, rfl, ru⟩ := vals1 r
    cases ru
    have hO : ObjOk X.prog X.w H s.heap a (.dK []) := I.hok a _ ha
    obtain ⟨_, hne, vs, hkv, o, es, ep, ho, hx, hd, hk, hp, _⟩ := hO
    cases hkv
    have he : es.toList = [] := by
      cases h : es.toList with
      | nil => rfl
      | cons e l => rw [h] at hp; cases hp
    have rd : Reads s.heap (.ref a) (.dict []) (a :: [] ++ []) := .dict ho hx.1 hd (by rw [he]; exact .nil) (by rw [he]; exact .nil)
    refine repr_of_reads' rd rfl (fun _ z => ?_) hg (by show X.A.units + (PyData.depth (.dict []) + 1) < cLine; simp [PyData.depth, PyData.depthKv]; omega) (fun _ _ e => e) (fun h' u tk k => ⟨.str _, H, I.kept k, ⟨_, rfl⟩, ?_⟩) (by decide)
    · have z2 : sysModules = a := by simpa using z
      rw [z2] at hne
      simp at hne
    · exact q
  · unfold fReprE at ez
    split at ez
    · cases ez
      rcases rv with _ | ⟨r1, r2⟩
      cases r2
      cases r1 with
      | dK h1 h2 =>
        cases h2
        exact ⟨_, rfl, k.ex _ _ h1, q ρ F H _ Nx.refl k (.str _)⟩
    · cases ez
end Ar

set_option Elab.async false
set_option linter.all false
set_option maxRecDepth 100000
set_option maxHeartbeats 4000000
set_option exponentiation.threshold 10000
/-! Ar52: data that repr takes, piece by piece; calls compared by class and repr -/
namespace Ar
open PySem PySem.Spec PyProof.Rows L2
/-- nested at most n deep, of weight at most w -/
structure SmD (n w : Nat) (d : D) : Prop where
  pl : plainD n d = true
  sh : (toP d).showable = true
  sl : (toP d).leavesShort 410 = true
  wt : (toP d).weight ≤ w
theorem SmD.mono {n v w : Nat} {d : D} (h : SmD n v d) (hv : v ≤ w) : SmD n w d := ⟨h.pl, h.sh, h.sl, Nat.le_trans h.wt hv⟩
theorem sm_int {n : Nat} {a : Int} (h : a.natAbs < 10 ^ 400) : SmD n 1401 (.int a) := by
  have hl : a.natAbs.log2 ≤ 1400 := by
    by_cases h0 : a.natAbs = 0
    · rw [h0]; decide
    · have h1 : a.natAbs < 2 ^ 1401 := Nat.lt_trans h (by decide +kernel)
      have := (Nat.log2_lt h0).mpr h1
      omega
  refine ⟨by cases n <;> rfl, ?_, ?_, ?_⟩
  · simp only [toP, PyData.showable]
    exact decide_eq_true (by omega)
  · simp only [toP, PyData.leavesShort, PyData.shown]
    have := int_text_length_le10 (k := 400) (by decide) h
    refine decide_eq_true ?_
    rw [PySem.ofString_length]
    omega
  · simp only [toP, PyData.weight]
    split <;> omega
theorem sm_all {n w : Nat} : ∀ ds : List D, (∀ d ∈ ds, SmD n w d) → ds.all (plainD n) = true ∧ PyData.showableAll (toPs ds) = true ∧ PyData.leavesShortAll 410 (toPs ds) = true ∧ PyData.weightAll (toPs ds) ≤ ds.length * (w + 1)
  | [], _ => ⟨rfl, by simp [toPs, PyData.showableAll], by simp [toPs, PyData.leavesShortAll], by simp [toPs, PyData.weightAll]⟩
  | d :: ds, h => by
    obtain ⟨a1, a2, a3, a4⟩ := sm_all ds fun e he => h e (List.mem_cons_of_mem _ he)
    have b := h d List.mem_cons_self
    refine ⟨by rw [List.all_cons, b.pl, a1]; rfl, ?_, ?_, ?_⟩
    · rw [toPs, PyData.showableAll, b.sh, a2]; rfl
    · rw [toPs, PyData.leavesShortAll, b.sl, a3]; rfl
    · rw [toPs, PyData.weightAll, List.length_cons, Nat.add_mul]
      have := b.wt
      omega
theorem sm_lst {n w : Nat} {ds : List D} (h : ∀ d ∈ ds, SmD n w d) : SmD (n + 1) (ds.length * (w + 1)) (.lst ds) := by
  obtain ⟨a1, a2, a3, a4⟩ := sm_all ds h
  exact ⟨a1, by rw [toP, PyData.showable]; exact a2, by rw [toP, PyData.leavesShort]; exact a3, by rw [toP, PyData.weight]; exact a4⟩
theorem SmD.show {w : Nat} {d : D} (h : SmD 20 w d) (hw : w ≤ 40000) : showD d = true := by
  unfold showD
  rw [Bool.and_eq_true, Bool.and_eq_true, decide_eq_true_eq]
  refine ⟨⟨h.pl, h.sh⟩, show_le 410 (by decide) _ h.sl ?_⟩
  have := h.wt
  rw [sizeLine_eq]
  omega
theorem unloc_plain {n : Nat} {d : D} {μ : Mu} (h : plainD n d = true) : unloc μ d = d := by
  cases d with
  | loc m => cases n <;> simp [plainD] at h
  | _ => rfl
theorem SmD.rp {w : Nat} {d : D} {μ : Mu} (h : SmD 20 w d) (hw : w ≤ 40000) : fRepr μ [d] = some (.str (shw d)) := by
  show (if showD (unloc μ d) = true then some (D.str (shw (unloc μ d))) else none) = _
  rw [unloc_plain h.pl, if_pos (h.show hw)]
theorem SmD.rpE {w : Nat} {d : D} {μ : Mu} (h : SmD 20 w d) (hw : w ≤ 40000) : orC fRepr fReprE μ [d] = some (.str (shw d)) := by
  unfold orC
  rw [h.rp hw]
end Ar

set_option Elab.async false
set_option linter.all false
set_option maxRecDepth 100000
set_option maxHeartbeats 4000000
/-! Ar53: a class with one slot whose __init__ may raise: x(e), x(k = e) -/
namespace Ar
open PySem PySem.Spec PyProof.Rows L2
theorem Nx.side {ρ : List Addr} {F H : Hp} {p : Addr} {o : HO} (hp : H p = none) : Nx ρ F H ρ F (upd H p o) := by
  refine ⟨fun _ _ h => h, fun _ _ h => h, fun a u e _ => ?_, fun _ h => .inl h, fun _ _ h => .inl h, fun a e => ?_⟩
  · rw [upd_ne (ne_of_none e hp)]; exact e
  · by_cases h : a = p
    · subst h; exact hp
    · rw [upd_ne h] at e; exact e
section
variable {X : Cx} {CX : CXT} {k n : Nat} {f C : Addr} {fd : FuncData} {ps ks : List Str} {sp : Sp} {E : XK} {x : Str} {p pos : Pos} {kws : List Keyword} {tk : TA} {g : List Value → List Value → List Value} {gV : List V → List V → List V}
end
/-! plain rules -/
section
variable [ExW] {Γ : Gam} {μ : Mu} {Q : D → Mu → Prop}
end
end Ar

set_option Elab.async false
set_option linter.all false
set_option maxRecDepth 100000
set_option maxHeartbeats 4000000
/-! Ar54: {"k": i} -/
namespace Ar
open PySem PySem.Spec PyProof.Rows L2
end Ar

set_option Elab.async false
set_option linter.all false
set_option maxRecDepth 100000
set_option maxHeartbeats 4000000
/-! Ar55: == () whatever the items are -/
namespace Ar
open PySem PySem.Spec PyProof.Rows L2
end Ar

set_option Elab.async false
set_option linter.all false
set_option maxRecDepth 100000
set_option maxHeartbeats 4000000
/-! Ar56: repr({"k": i}); two tables are apart -/
namespace Ar
open PySem PySem.Spec PyProof.Rows L2
def dctT (x : Str) (i : Int) : PyData := .dict [(.str x, .int i)]
def fReprD : Mu → List D → Option D := fun _ ds => match ds with
  | [.dK [(.inr x, .int i)]] => if (dctT x i).showable = true ∧ (dctT x i).shown.length ≤ sizeLine then some (.str (dctT x i).shown) else none
  | _ => none
theorem cd_reprD {X : Cx} (hg : X.A.guards = some []) (hu : X.A.units + 64 < cLine) : CallD X (.builtin "repr") fReprD := by
  refine ⟨fun xs H Q => ∃ a x i, xs = [.ref a] ∧ H a = some (.dK [(.inr x, .int i)]) ∧ (dctT x i).showable = true ∧ (dctT x i).shown.length ≤ sizeLine ∧ Q (.str (dctT x i).shown) H, fun pins s σ H xs us Q I r h => ?_, fun ρ F H μ vs ds z k rv ez Q q => ?_⟩
  · obtain ⟨a, x, i, rfl, ha, hs, hl, qq⟩ := h
    obtain ⟨u, rfl, ru⟩ := vals1 r
    cases ru
    have hO : ObjOk X.prog X.w H s.heap a (.dK [(.inr x, .int i)]) := I.hok a _ ha
    obtain ⟨_, hne, vs, hkv, o, es, ep, ho, hx, hd, hk, hp, _⟩ := hO
    unfold KV at hkv
    cases hkv with
    | @cons p q ps qs h1 h2 =>
      cases h2
      obtain ⟨key, val⟩ := q
      obtain ⟨k1, k2⟩ := h1
      have k1 : Sum.inr x = key := k1
      subst k1
      obtain ⟨t, k2⟩ := k2
      generalize he : es.toList = l at hp
      cases hp with
      | @cons e _ es' _ e1 e2 e3 =>
        cases e3
        have e2 : e.val = val := e2
        have ev : e.val = .int i t := by rw [e2]; exact k2
        have e1 : keyIs (Sum.inr x) e.key = true := e1
        rcases keyIs_shape e1 with ⟨j, t2, z, _⟩ | ⟨y, t2, z, ek⟩
        · cases z
        · cases z
          have rd : Reads s.heap (.ref a) (.dict [(.str x, .int i)]) (a :: ([] ++ []) ++ ([] ++ [])) := .dict ho hx.1 hd (by rw [he, List.map_cons, List.map_nil, ek]; exact .cons (.str x t2) .nil) (by rw [he, List.map_cons, List.map_nil, ev]; exact .cons (.int i t) .nil)
          refine repr_of_reads' rd hs (fun _ z => ?_) hg ?_ (fun _ _ e => e) (fun h' u tk k => ⟨.str _, H, I.kept k, ⟨_, rfl⟩, qq⟩) hl
          · have z2 : sysModules = a := by simpa using z
            rw [z2] at hne
            simp at hne
          · show X.A.units + (PyData.depth (.dict [(.str x, .int i)]) + 1) < cLine
            simp [PyData.depth, PyData.depthKv]
            omega
  · unfold fReprD at ez
    split at ez
    · rename_i x i
      split at ez
      · rename_i hh
        cases ez
        rcases rv with _ | ⟨r1, r2⟩
        cases r2
        cases r1 with
        | dK h1 h2 =>
          cases h2 with
          | cons h2 h3 =>
            cases h3
            cases h2
            exact ⟨_, x, i, rfl, k.ex _ _ h1, hh.1, hh.2, q ρ F H _ Nx.refl k (.str _)⟩
      · cases ez
    · cases ez
/-- repr of data, of {} and of {"k": i} -/
abbrev fRpF : Mu → List D → Option D := orC (orC fRepr fReprE) fReprD
theorem SmD.rpF {w : Nat} {d : D} {μ : Mu} (h : SmD 20 w d) (hw : w ≤ 40000) : fRpF μ [d] = some (.str (shw d)) := by
  show (match orC fRepr fReprE μ [d] with | some z => some z | none => fReprD μ [d]) = _
  rw [h.rpE hw]
end Ar

set_option Elab.async false
set_option linter.all false
set_option maxRecDepth 100000
set_option maxHeartbeats 4000000
/-! Ar57: == [] and != [] whatever the items are -/
namespace Ar
open PySem PySem.Spec PyProof.Rows L2
end Ar

set_option Elab.async false
set_option linter.all false
set_option maxRecDepth 100000
set_option maxHeartbeats 4000000
/-! Ar58: C.nm(k = e), x.nm(e), x.nm(k = e) of a class with slots; what they raise flies on -/
namespace Ar
open PySem PySem.Spec PyProof.Rows L2
section
variable {X : Cx} {Z : CXT} {n : Nat} {f : Addr} {fd : FuncData} {ps : List Str} {sp : Sp} {pins : List (Addr × Obj)} {σ : L2.St} {H : Hp} {E : XK} {s : Shared}
end
end Ar

set_option Elab.async false
set_option linter.all false
set_option maxRecDepth 100000
set_option maxHeartbeats 4000000
/-! Ar59: isinstance(x, T), x of a class with slots, T a built-in class: False -/
namespace Ar
open PySem PySem.Spec PyProof.Rows L2
structure IsiT (K : PySem.W.Frag) (C : Str) (T : String) : Prop where
  s : SlX.SCls K (He.ga K C)
  i : SlX.SIsi K (He.ga K C)
  one : PySem.W.kitOne K (.ref (He.ga K C)) (.type T) = some false
def fIsaT (C : Str) (T : String) : Mu → List D → Option D := fun _ ds => match ds with
  | [.slt C' _, .ty T2] => if C' = C ∧ T2 = T then some (.bl false) else none
  | _ => none
theorem cd_isaT {X : Cx} {C : Str} {T : String} (k : IsiT X.K C T) : CallD X (.builtin "isinstance") (fIsaT C T) := by
  refine ⟨_, SlX.call_isiSl (.type T), fun ρ F H μ vs ds z kk rv ez Q q => ?_⟩
  unfold fIsaT at ez
  split at ez
  · rename_i C' ds T2
    split at ez
    · rename_i hC
      obtain ⟨rfl, rfl⟩ := hC
      cases ez
      cases rv with
      | cons r1 r2 =>
        cases r2 with
        | cons r2 r3 =>
          cases r3
          cases r2
          cases r1 with
          | @slt a dx _ vs _ h1 h2 h3 =>
            exact ⟨a, _, dx, vs.map some, _, false, rfl, rfl, fun w hw => hw, .inr ⟨kk.ex _ _ h1, kk.ex _ _ h2⟩, k.s, k.i, k.one, q ρ F H _ Nx.refl kk (.bl false)⟩
    · cases ez
  · cases ez
end Ar

set_option Elab.async false
set_option linter.all false
set_option maxRecDepth 100000
set_option maxHeartbeats 4000000
/-! Ar60: list + list, the sum a list that changes -/
namespace Ar
open PySem PySem.Spec PyProof.Rows L2
end Ar

set_option Elab.async false
set_option linter.all false
set_option maxRecDepth 100000
set_option maxHeartbeats 4000000
/-! Ar61: x.replace(y, z), y and z written texts, at the end of a list whose first item is e + text -/
namespace Ar
open PySem PySem.Spec PyProof.Rows L2
section
variable {X : Cx} {E : XK}
end
end Ar

set_option Elab.async false
set_option linter.all false
set_option maxRecDepth 100000
set_option maxHeartbeats 4000000
/-! Ar62: s.split(sep) as a changing list; == and != of two instances of a class with an own __eq__ alone -/
namespace Ar
open PySem PySem.Spec PyProof.Rows L2
section
variable {X : Cx} {E : XK} {o e : Expr} {do_ de : DE} {apos cpos : Pos}
end
/-! ### own == and != -/
section
variable {M : Model} {prog : Program} {w : World} {A : Around} {E : Value → Shared → Prop} {s : Shared} {K : PySem.W.Frag} {x C f L : Addr} {ox : Obj} {od : Option Obj} {h₀ : Heap} {m : Str → Option Value} {b tb : Value}
end
end Ar

set_option Elab.async false
set_option linter.all false
set_option maxRecDepth 100000
set_option maxHeartbeats 4000000
/-! Ar63: x == y and x != y, x an instance of a class with an own __eq__ alone -/
namespace Ar
open PySem PySem.Spec PyProof.Rows L2
section
variable {X : Cx} {C : Str} {m : Fn} {k : Nat} {E : XK} {pins : List (Addr × Obj)} {σ : L2.St} {H : Hp} {s : Shared}
end
section
variable {X : Cx} {E : XK} {K : PySem.W.Frag} {C : Str} {m : Fn} {a b : Expr} {da db : DE} {pos : Pos} {neg : Bool}
end
/-! the rule of Ok -/
end Ar

set_option Elab.async false
set_option linter.all false
set_option maxRecDepth 100000
set_option maxHeartbeats 4000000
/-! Ar64: t[::-1] of a tuple -/
namespace HT
open PySem PySem.Spec PyProof.Rows
section
variable {prog : Program} {w : World} {A : Around} {E : Value → Shared → Prop} {s : Shared}
end
end HT
namespace Ar
open PySem PySem.Spec PyProof.Rows L2
section
variable {X : Cx}
end
end Ar

set_option Elab.async false
set_option linter.all false
set_option maxRecDepth 100000
set_option maxHeartbeats 4000000
/-! Ar65: C(k=e) of a class with one slot whose __init__ raises nothing -/
namespace Ar
open PySem PySem.Spec PyProof.Rows L2
end Ar

set_option Elab.async false
set_option linter.all false
set_option maxRecDepth 100000
set_option maxHeartbeats 4000000
/-! Ar66: f"a{x}b" of three parts; bool(x) of an instance with an own __len__ -/
namespace Ar
open PySem PySem.Spec PyProof.Rows L2
section
variable {prog : Program} {w : World} {A : Around} {E : Value → Shared → Prop} {s : Shared} {K : PySem.W.Frag} {x C f : Addr} {ox : Obj} {odd : Option Obj}
end
/-! ### f-strings -/
section
variable {X : Cx} {E : XK} {a b c : Expr} {da db dc : DE} {pos : Pos}
end
end Ar

set_option Elab.async false
set_option linter.all false
set_option maxRecDepth 100000
set_option maxHeartbeats 4000000
/-! Ar67: u == x, x an instance with an own __eq__ and u of a built-in type; isinstance(u, C) of such -/
namespace Ar
open PySem PySem.Spec PyProof.Rows L2
section
variable {M : Model} {prog : Program} {w : World} {A : Around} {E : Value → Shared → Prop} {s : Shared} {K : PySem.W.Frag} {x C dx : Addr} {sl : Array (Option Value)} {od : Option Obj} {u : Value}
variable {T : String}
structure OthS (K : PySem.W.Frag) (C : Addr) : Prop where
  sub : ∀ t ∈ tyOk, PySem.W.subIn K (.ref C) (.type t) = some false
  kit : ∀ t ∈ tyOk, PySem.W.kitOne K (.type t) (.ref C) = some false
end
section
variable {X : Cx} {pins : List (Addr × Obj)} {σ : L2.St} {H : Hp} {s : Shared}
end
section
variable {X : Cx} {E : XK} {K : PySem.W.Frag} {C : Str} {m : Fn} {a b : Expr} {da db : DE} {pos : Pos}
end
/-- isinstance(u, C), u of a built-in type -/
def fIsaCN (C : Str) : Mu → List D → Option D := fun μ ds => match ds with
  | [x, .glo C2] => if C2 = C ∧ (tyN μ x).isSome = true then some (.bl false) else none
  | _ => none
theorem cd_isaCN {X : Cx} {C : Str} (O : OthS X.K (He.ga X.K C)) : CallD X (.builtin "isinstance") (fIsaCN C) := by
  refine ⟨_, call_isi, fun ρ F H μ vs ds z k rv ez Q q => ?_⟩
  unfold fIsaCN at ez
  split at ez
  · rename_i x C2
    split at ez
    · rename_i hc
      obtain ⟨rfl, hy⟩ := hc
      cases ez
      obtain ⟨t, ht⟩ := Option.isSome_iff_exists.mp hy
      cases rv with
      | cons r1 r2 =>
        cases r2 with
        | cons r2 r3 =>
          cases r3
          cases r2
          exact ⟨_, _, _, _, _, rfl, .own _, tyN_ok k r1 ht, O.kit t (tyN_mem ht), q ρ F H _ Nx.refl k (.bl _)⟩
    · cases ez
  · cases ez
end Ar

set_option Elab.async false
set_option linter.all false
set_option maxRecDepth 100000
set_option maxHeartbeats 4000000
/-! Ar68: list * int, the product a list that changes -/
namespace Ar
open PySem PySem.Spec PyProof.Rows L2
def dMulM (a b : DE) : DE := fun Γ μ => (a Γ μ).bind fun x μ1 => (b Γ μ1).bind fun y μ2 => match x, y with
  | .lst ds, .int k => if (-(2 ^ 63) ≤ k ∧ k < 2 ^ 63) ∧ ds.length * k.toNat ≤ 1000000 then .ok (.loc μ2.length) (μ2 ++ [.lst (List.replicate k.toNat ds).flatten]) else .stk
  | _, _ => .stk
theorem q_mulM {X : Cx} {E : XK} {a b : Expr} {da db : DE} {pos : Pos} (ha : QE X E a da) (hb : QE X E b db) : QE X E (.BinOp a .Mult b pos) (dMulM da db) := by
  obtain ⟨ta, a1, a2⟩ := ha.ex
  obtain ⟨tb, b1, b2⟩ := hb.ex
  refine ⟨_, pe_op op_rep a1 b1, ?_⟩
  intro ρ F H Γ μ σ k s Q h
  refine a2 ρ F H Γ μ σ k s _ ((WpR.bind h).mono (fun x μ1 qa => ?_) fun _ _ q => q)
  intro ρ1 F1 H1 v n1 k1 r1
  refine b2 ρ1 F1 H1 Γ μ1 σ k1 (s.nx n1) _ ((WpR.bind qa).mono (fun y μ2 q => ?_) fun _ _ q => XP.nx n1 q)
  intro ρ2 F2 H2 w n2 k2 r2
  have r1 := r1.nx n2
  clear qa
  split at q
  · split at q
    · rename_i hl
      cases r2
      cases r1 with
      | lst h1 h2 =>
        refine ⟨_, _, _, rfl, rfl, k2.ex _ _ h1, hl.1.1, hl.1.2, by rw [h2.length]; exact le_million hl.2, fun p hp => ?_⟩
        obtain ⟨n3, k3, r3⟩ := new_lstM k2 (h2.rep _) hp
        exact q _ _ _ _ ((n1.trans n2).trans n3) k3 r3
    · exact q.elim
  · exact q.elim
theorem ok_mulM [ExW] {a b : DE} {Γ : Gam} {μ : Mu} {Q : D → Mu → Prop} : Ok (dMulM a b Γ μ) Q = Ok (a Γ μ) fun x μ1 => Ok (b Γ μ1) fun y μ2 => ∃ ds k, x = .lst ds ∧ y = .int k ∧ ((-(2 ^ 63) ≤ k ∧ k < 2 ^ 63) ∧ ds.length * k.toNat ≤ 1000000) ∧ Q (.loc μ2.length) (μ2 ++ [.lst (List.replicate k.toNat ds).flatten]) := by
  unfold dMulM
  rw [ok_bind]
  congr 1; funext x μ1
  rw [ok_bind]
  congr 1; funext y μ2
  refine propext ⟨fun h => ?_, fun ⟨ds, k, e1, e2, h, q⟩ => ?_⟩
  · split at h
    · split at h
      · rename_i hl
        exact ⟨_, _, rfl, rfl, hl, h⟩
      · exact False.elim h
    · exact False.elim h
  · subst e1 e2
    show Ok (if _ then _ else _) Q
    rw [if_pos h]
    exact q
end Ar

set_option Elab.async false
set_option linter.all false
set_option maxRecDepth 100000
set_option maxHeartbeats 4000000
/-! Ar69: try: one statement / any clauses, each of one class, with a name or none -/
namespace Ar
open PySem PySem.Spec PyProof.Rows L2
/-- a clause: its class, the slot of its name, what its suite does -/
abbrev HdT := Value × Option Nat × (Addr → Value → Option Addr → TS)
def hdEnds (o : Option Nat) (D : Ends) : Ends := match o with
  | none => D
  | some i => { nx := fun σ' H' => D.nx (σ'.set i none) H', rt := D.rt, bk := fun σ' H' => D.bk (σ'.set i none) H', ct := fun σ' H' => D.ct (σ'.set i none) H' }
def hdSt (o : Option Nat) (a : Addr) (σ : L2.St) : L2.St := match o with
  | none => σ
  | some i => σ.set i (some (.ref a))
def wH (K : PySem.W.Frag) (Wout : WX) (D : Ends) : List HdT → WX
  | [] => Wout
  | (c, o, ts) :: r => fun cls d σ H => ∃ b, PySem.W.exmOne K cls c = some b ∧ (b = true → ∀ a, H a = none → ts a cls d (hdEnds o D) (hdSt o a σ) H) ∧ (b = false → wH K Wout D r cls d σ H)
inductive HsOk (X : Cx) : List ExceptHandler → List HdT → Prop
  | nil : HsOk X [] []
  | plain {x : Str} {c : Value} {ts : Addr → Value → Option Addr → TS} {b₀ : Stmt} {suite : List Stmt} {np pos' : Pos} {hds : List ExceptHandler} {l : List HdT} (hc : Names X x c)
      (hsu : ∀ (a : Addr) (oe : Obj) (cls : Value) (d : Option Addr) (pn : List (Addr × Obj)), Zc cls d oe → (∃ vs, oe.data = .fields vs) → PSs (X.suite a ((a, oe) :: pn)) (b₀ :: suite) (ts a cls d)) (r : HsOk X hds l) :
      HsOk X (.ExceptHandler (some (.Name x np)) none (b₀ :: suite) pos' :: hds) ((c, none, ts) :: l)
  | named {x n : Str} {i : Nat} {c : Value} {ts : Addr → Value → Option Addr → TS} {b₀ : Stmt} {suite : List Stmt} {np pos' : Pos} {hds : List ExceptHandler} {l : List HdT} (hi : X.N[i]? = some n) (hln : X.env.kindOf n = some .local) (hc : Names X x c)
      (hsu : ∀ (a : Addr) (oe : Obj) (cls : Value) (d : Option Addr) (pn : List (Addr × Obj)), Zc cls d oe → (∃ vs, oe.data = .fields vs) → PSs (X.suite a ((a, oe) :: pn)) (b₀ :: suite) (ts a cls d)) (r : HsOk X hds l) :
      HsOk X (.ExceptHandler (some (.Name x np)) (some n) (b₀ :: suite) pos' :: hds) ((c, some i, ts) :: l)
section
variable {X : Cx} {body : List Stmt} {h₀ : ExceptHandler} {hds : List ExceptHandler} {l : List HdT} {pos : Pos} {tb : WX → TS} {Wout : WX}
theorem ps_tryH (hs : X.stack = X.env :: X.outer) (hf : X.env.frame = some X.env.locals) (hN : X.N.Nodup) (tk : Takes X Wout)
    (hb : ∀ (W : WX) (pn : List (Addr × Obj)) (xe : Value → Shared → Prop), Takes (X.tr pn xe) W → PassesOwn (model X.prog X.w) X.A X.env xe → PSs (X.tr pn xe) body (tb W))
    (hh : HsOk X (h₀ :: hds) l) : PS X (.Try body (h₀ :: hds) [] [] pos) (fun D σ H => tb (wH X.K Wout D l) D σ H) := by
  refine ⟨fun pins s σ H D I h => ?_⟩
  have ok := I.ok
  have hfr : X.A.frames = some (X.env :: X.outer) := by rw [ok.frames, hs]
  refine wpAny_Try_except ?_
  refine wpAny_mono ((hb (wH X.K Wout D l) (X.pn ++ pins) (fun e s₁ => wpAny (model X.prog X.w) X.A (noteFrame e X.env) (fun _ s₂ => wpAny (model X.prog X.w) X.A (setFlight e none) (fun _ s₃ =>
    wpAny (model X.prog X.w) X.A (handleBy e X.env (h₀ :: hds)) (SP X pins D) X.xe s₃) X.xe s₂) X.xe s₁) (fun u s' xx => ?_) PassesOwn.looking).run [] s σ H D (I.toTry _) h) (fun f s1 hsp => ?_) (fun e s1 he => he)
  · obtain ⟨a, B, sI, pins', σ', H', cls, d, rfl, J', nb, up, sky, na, os, ag, w⟩ := xx
    have J : Inv X pins σ' H' sI := J'.ofTry ok
    have sky' : Sky B (X.env :: X.outer) a (Zc cls d) X.env.locals s'.heap := by rw [← hs]; exact sky
    show wpAny (model X.prog X.w) X.A (noteFrame (.ref a) X.env) _ _ _
    refine Sky.land Zc.steady hfr hf sky' fun h3 fl3 up3 => ?_
    have J3 : Inv X pins σ' H' { s' with heap := h3 } := J.landed nb fl3.1 (up.trans up3) os ag
    obtain ⟨oe3, vs3, he3, hz3, hd3⟩ := fl3.there
    have notFr : ∀ {h : Heap} {o : Obj} {vs : Array Value}, h.FunFrames B (X.env :: X.outer) → h.get? a = some o → o.data = .fields vs → a ∉ frs (X.env :: X.outer) := fun {h o vs} ff e dd hm => by
      obtain ⟨_, o', e', hnf⟩ := ff.mem hm
      rw [e] at e'; cases e'
      exact hnf _ dd
    have nfr := notFr fl3.2.2.1 he3 hd3
    have nL : a ≠ X.env.locals := fun z => nfr (List.mem_filterMap.mpr ⟨X.env, List.mem_cons_self, by rw [hf, z]⟩)
    have nF : a ∉ X.fs := fun hm => by
      obtain ⟨e, he, q⟩ := List.mem_filterMap.mp hm
      exact nfr (List.mem_filterMap.mpr ⟨e, List.mem_cons_of_mem _ he, q⟩)
    have S3 := J3.suite he3 hd3 na nL nF
    have testG : ∀ {x : Str} {c : Value} {np : Pos}, Names X x c → ∀ {Q : Value → Shared → Prop} {E : Value → Shared → Prop}, Q c { s' with heap := h3 } → wpAny (model X.prog X.w) (X.A.mark (some (.ref a))) (eval (.Name x np) X.env) Q E { s' with heap := h3 } := fun {x c np} hc {Q E} q => by
      obtain ⟨hg, hdbg, hm | ⟨hm, hv, hnn⟩⟩ := hc
      · exact ld_glob (X := X.suite a ((a, oe3) :: (X.pn ++ pins))) S3 hg hm q hdbg
      · exact ld_blt (X := X.suite a ((a, oe3) :: (X.pn ++ pins))) S3 hg hm hv q hnn hdbg
    have LT : PySem.W.Looks (model X.prog X.w) h3 (typeOf (.ref a)) cls := fun A Q E s k q => wpAny_typeOf_ref (k _ _ he3) (by rw [hz3.1]; exact q)
    have go : ∀ {hds' : List ExceptHandler} {l' : List HdT}, HsOk X hds' l' → wH X.K Wout D l' cls d σ' H' →
        wpAny (model X.prog X.w) X.A (handleBy (.ref a) X.env hds') (SP X pins D) X.xe { s' with heap := h3 } := by
      intro hds' l' hk
      induction hk with
      | nil =>
        intro w
        refine wpAny_handleBy_nil ?_
        obtain ⟨k1, k2, k3, oe, vs, T, oT, ts', he, hz, hd, h1, hr⟩ := id fl3
        unfold PySem.passOn
        refine wpAny_bind (wpAny_field he hd h1 ?_)
        rw [if_neg (show ¬ ((Value.ref T == Value.none) = true) from by simp)]
        have fin : wpAny (model X.prog X.w) X.A (setFlight (.ref a) X.env.frame) (fun _ s4 => wpAny (model X.prog X.w) X.A (throw (.ref a) : Sem Flow) (SP X pins D) X.xe s4) X.xe { s' with heap := h3 } := by
          rw [hf]
          refine HandSPX.setFlight_upZ fl3 fun h4 hh4 up4 => wpAny_throw (tk _ _ ?_)
          exact ⟨a, B, sI, pins, σ', H', cls, d, rfl, J, nb, (up.trans up3).trans up4, .inr (.inr (by rw [hs]; exact hh4)), na, os, ag, w⟩
        first
          | exact wpAny_bind (wpAny_pure (wpAny_bind fin))
          | exact wpAny_bind fin
      | @plain x c ts b₀ suite np pos' hds2 l2 hc hsu r ih =>
        intro w
        obtain ⟨b, hb1, hyes, hno⟩ := w
        refine wpAny_handleBy_cons (codeAny_handlers_test ?_) (by intro q; cases q)
        have LM := PySem.W.exm_one (M := model X.prog X.w) (J3.kIn) LT hb1
        refine testG hc (LM.here ?_)
        cases b with
        | true =>
          refine codeAny_handlers_suite ?_
          refine HandSPX.lands_againZ fl3 fun h4 fl4 up4 => ?_
          have J4 : Inv X pins σ' H' { s' with heap := h4 } := J.landed nb fl4.1 ((up.trans up3).trans up4) os ag
          obtain ⟨oe4, vs4, he4, hz4, hd4⟩ := fl4.there
          have S4 := J4.suite he4 hd4 na nL nF
          refine wpAny_mono ((hsu a oe4 cls d (X.pn ++ pins) hz4 ⟨_, hd4⟩).run [] _ _ H' _ S4 (hyes rfl a na)) (fun f s6 hsp => ?_) (fun _ _ z => False.elim z)
          cases f with
          | next =>
            obtain ⟨σ6, H6, S6, q6⟩ := hsp
            exact ⟨_, _, S6.unsuite ok, q6⟩
          | brk =>
            obtain ⟨σ6, H6, S6, q6⟩ := hsp
            exact ⟨_, _, S6.unsuite ok, q6⟩
          | cont =>
            obtain ⟨σ6, H6, S6, q6⟩ := hsp
            exact ⟨_, _, S6.unsuite ok, q6⟩
          | ret u =>
            obtain ⟨v6, σ6, H6, S6, r6, q6⟩ := hsp
            exact ⟨_, _, _, S6.unsuite ok, r6, q6⟩
        | false =>
          show wpAny _ X.A (handleBy (.ref a) X.env hds2) _ _ _
          exact ih (hno rfl)
      | @named x n i c ts b₀ suite np pos' hds2 l2 hi hln hc hsu r ih =>
        intro w
        obtain ⟨b, hb1, hyes, hno⟩ := w
        have hloc : Loc X.env.scope n := .inl hln
        refine wpAny_handleBy_cons (codeAny_handlers_test ?_) (by intro q; cases q)
        have LM := PySem.W.exm_one (M := model X.prog X.w) (J3.kIn) LT hb1
        refine testG hc (LM.here ?_)
        cases b with
        | true =>
          refine codeAny_handlers_suite_as ?_
          refine HandSPX.lands_againZ fl3 fun h4 fl4 up4 => ?_
          have J4 : Inv X pins σ' H' { s' with heap := h4 } := J.landed nb fl4.1 ((up.trans up3).trans up4) os ag
          obtain ⟨oe4, vs4, he4, hz4, hd4⟩ := fl4.there
          have S4 := J4.suite he4 hd4 na nL nF
          refine store_ok (X := X.suite a ((a, oe4) :: (X.pn ++ pins))) (v := .ref a) S4 hN hi hloc rfl (fun s5 S5 => ?_) (.inr hln)
          refine wpAny_mono ((hsu a oe4 cls d (X.pn ++ pins) hz4 ⟨_, hd4⟩).run [] s5 _ H' _ S5 (hyes rfl a na)) (fun f s6 hsp => ?_) (fun _ _ z => False.elim z)
          have end_ : ∀ {σ6 : L2.St} {H6 : Hp} {Q : Shared → Prop}, Inv (X.suite a ((a, oe4) :: (X.pn ++ pins))) [] σ6 H6 s6 → (∀ s7, Inv X pins (σ6.set i none) H6 s7 → Q s7) →
              wpAny (model X.prog X.w) X.A (do bindName X.env n .none; unbindBehindTheSuite X.env n pos') (fun _ s7 => Q s7) X.xe s6 := fun {σ6 H6 Q} S6 hq => gone_ok (S6.unsuite ok) hN hi hln hq
          cases f with
          | next =>
            obtain ⟨σ6, H6, S6, q6⟩ := hsp
            exact end_ S6 fun s7 J7 => ⟨_, _, J7, q6⟩
          | brk =>
            obtain ⟨σ6, H6, S6, q6⟩ := hsp
            exact end_ S6 fun s7 J7 => ⟨_, _, J7, q6⟩
          | cont =>
            obtain ⟨σ6, H6, S6, q6⟩ := hsp
            exact end_ S6 fun s7 J7 => ⟨_, _, J7, q6⟩
          | ret u =>
            obtain ⟨v6, σ6, H6, S6, r6, q6⟩ := hsp
            exact end_ S6 fun s7 J7 => ⟨_, _, _, J7, r6, q6⟩
        | false =>
          show wpAny _ X.A (handleBy (.ref a) X.env hds2) _ _ _
          exact ih (hno rfl)
    exact go hh w
  · cases f with
    | next =>
      obtain ⟨σ', H', J', q⟩ := hsp
      exact wpAny_execs_nil ⟨σ', H', J'.ofTry ok, q⟩
    | brk =>
      obtain ⟨σ', H', J', q⟩ := hsp
      exact ⟨σ', H', J'.ofTry ok, q⟩
    | cont =>
      obtain ⟨σ', H', J', q⟩ := hsp
      exact ⟨σ', H', J'.ofTry ok, q⟩
    | ret u =>
      obtain ⟨v, σ', H', J', r, q⟩ := hsp
      exact ⟨v, σ', H', J'.ofTry ok, r, q⟩
end
/-! ### in terms of data -/
structure HdD where
  c : Str
  o : Option Nat
  ds : Str → Addr → Addr → DS
  sr : Str → Option (Str × D) → Mu → R D
def hdRun (cat : Str → Str → Bool) : List HdD → Str → Option (Str × D) → Mu → R D
  | [], _, _, _ => .stk
  | h :: r, x, e, μ => if cat x h.c = true then h.sr x e μ else hdRun cat r x e μ
abbrev rtS (r : R D) : RS := r.nox.thenS fun d μ => .rt d μ
def dTryH (kont : D → Gam → Mu → RS) (cat : Str → Str → Bool) (tab : List (Str × Option Str)) (ls : List HdD) (de : DE) : DS := fun Γ μ => match de Γ μ with
  | .ok d μ1 => kont d Γ μ1
  | .exc (x, e) μ1 => if (x, e.map (·.1)) ∈ tab then rtS (hdRun cat ls x e μ1) else .stk
  | .stk => .stk
/-- the wish, whatever the slots hold -/
def EW (n : Nat) (W : WX) : XK := fun cls d H => ∀ σ : L2.St, σ.length = n → W cls d σ H
theorem takes_len {X : Cx} {W : WX} (tk : Takes X W) : Takes X (fun cls d _ H => EW X.N.length W cls d H) := fun u s' ⟨a, B, sI, pins, σ, H, cls, d, e, I, nb, up, sky, na, os, ag, w⟩ =>
  tk u s' ⟨a, B, sI, pins, σ, H, cls, d, e, I, nb, up, sky, na, os, ag, w σ I.len⟩
theorem takes_no {X : Cx} : Takes X (fun _ _ _ _ => False) := fun _ _ ⟨_, _, _, _, _, _, _, _, _, _, _, _, _, _, _, _, w⟩ => w.elim
inductive HsD (X : Cx) (cat : Str → Str → Bool) (tab : List (Str × Option Str)) : List ExceptHandler → List HdD → Prop
  | nil : HsD X cat tab [] []
  | plain {x : Str} {ds : Str → Addr → Addr → DS} {sr : Str → Option (Str × D) → Mu → R D} {b₀ : Stmt} {suite : List Stmt} {np pos' : Pos} {hds : List ExceptHandler} {l : List HdD} (hc : Names X x (.ref (He.ga X.K x)))
      (hcat : ∀ y o, (y, o) ∈ tab → PySem.W.exmOne X.K (.ref (He.ga X.K y)) (.ref (He.ga X.K x)) = some (cat y x))
      (hsu : ∀ (y : Str) (a dd : Addr) (oe : Obj) (pn : List (Addr × Obj)), QSs (X.suite a ((a, oe) :: pn)) noE (b₀ :: suite) (ds y a dd))
      (hres : ∀ (y : Str) (a dd : Addr) (e : Option (Str × D)) (μ : Mu), ds y a dd (List.replicate X.N.length none) μ = rtS (sr y e μ)) (r : HsD X cat tab hds l) :
      HsD X cat tab (.ExceptHandler (some (.Name x np)) none (b₀ :: suite) pos' :: hds) (⟨x, none, ds, sr⟩ :: l)
  | named {x n : Str} {i : Nat} {ds : Str → Addr → Addr → DS} {sr : Str → Option (Str × D) → Mu → R D} {b₀ : Stmt} {suite : List Stmt} {np pos' : Pos} {hds : List ExceptHandler} {l : List HdD} (hi : X.N[i]? = some n) (hln : X.env.kindOf n = some .local) (hc : Names X x (.ref (He.ga X.K x)))
      (hcat : ∀ y o, (y, o) ∈ tab → PySem.W.exmOne X.K (.ref (He.ga X.K y)) (.ref (He.ga X.K x)) = some (cat y x)) (hno : ∀ y, (y, none) ∈ tab → cat y x = false)
      (hsu : ∀ (y f : Str), (y, some f) ∈ tab → ∀ (a dd : Addr) (oe : Obj) (pn : List (Addr × Obj)), HotX (X.suite a ((a, oe) :: pn)) y a dd → QSs (X.suite a ((a, oe) :: pn)) noE (b₀ :: suite) (ds y a dd))
      (hres : ∀ (y f : Str), (y, some f) ∈ tab → ∀ (a dd : Addr) (d : D) (μ : Mu), ds y a dd ((List.replicate X.N.length none).set i (some (.exn a dd f d))) μ = rtS (sr y (some (f, d)) μ)) (r : HsD X cat tab hds l) :
      HsD X cat tab (.ExceptHandler (some (.Name x np)) (some n) (b₀ :: suite) pos' :: hds) (⟨x, some i, ds, sr⟩ :: l)
theorem slots_none {K : PySem.W.Frag} {ρ : List Addr} {F : Hp} {σ : L2.St} {n : Nat} (h : σ.length = n) : Slots K ρ F (List.replicate n none) σ := ⟨by rw [List.length_replicate, h], fun i d e => by
  rw [List.getElem?_replicate] at e
  split at e <;> cases e⟩
theorem rt_conv {K : PySem.W.Frag} {E E' : XK} {ρ ρ' : List Addr} {F F' H H' : Hp} {Dn D' : Ends} {r : R D} (x : Nx ρ F H ρ' F' H') (e : Dn.rt = D'.rt) (h : WpS (rtS r) (QS K E ρ F H Dn)) : WpS (rtS r) (QS K E' ρ' F' H' D') := by
  cases r with
  | ok d μ =>
    have h : QV K ρ F H Dn.rt d μ := h
    show QV K ρ' F' H' D'.rt d μ
    rw [← e]
    exact QV.nx x h
  | exc e μ => exact False.elim h
  | stk => exact False.elim h
/-- the error's dict -/
def DdOk (K : PySem.W.Frag) (ρ : List Addr) (F : Hp) : Option (Str × D) → Option Addr → Prop
  | none, od => od = none
  | some (f, d), od => ∃ dd v, od = some dd ∧ F dd = some (.xd [(f, v)]) ∧ Dn K ρ F v d
theorem hs_of {X : Cx} {cat : Str → Str → Bool} {tab : List (Str × Option Str)} {hds : List ExceptHandler} {ls : List HdD} (h : HsD X cat tab hds ls) : ∃ l, HsOk X hds l ∧
    ∀ (x : Str) (e : Option (Str × D)), (x, e.map (·.1)) ∈ tab → ∀ (E : XK) (ρ : List Addr) (F H : Hp) (Dn : Ends) (μ : Mu), WpS (rtS (hdRun cat ls x e μ)) (QS X.K E ρ F H Dn) →
      ∀ (ρ' : List Addr) (F' H' : Hp) (od : Option Addr) (σ : L2.St), Nx ρ F H ρ' F' H' → HpOk X.K ρ' μ F' H' → DdOk X.K ρ' F' e od → σ.length = X.N.length → wH X.K (fun _ _ _ _ => False) Dn l (.ref (He.ga X.K x)) od σ H' := by
  induction h with
  | nil => exact ⟨[], .nil, fun x e _ E ρ F H Dn μ hw => False.elim hw⟩
  | @plain x ds sr b₀ suite np pos' hds l hc hcat hsu hres r ih =>
    obtain ⟨l2, h1, h2⟩ := ih
    refine ⟨(.ref (He.ga X.K x), none, fun a cls d Dn σ H => ∃ (y : Str) (dd : Addr) (ρ : List Addr) (F : Hp) (μ : Mu) (Γ : Gam), HpOk X.K ρ μ F H ∧ Slots X.K ρ F Γ σ ∧ WpS (ds y a dd Γ μ) (QS X.K noE ρ F H Dn)) :: l2, .plain hc (fun a oe cls d pn _ _ => ?_) h1, fun y e hy E ρ F H Dn μ hw ρ' F' H' od σ n1 k1 hd hl => ?_⟩
    · refine ⟨fun pins s σ H Dn I ⟨y, dd, ρ, F, μ, Γ, k1, s1, hw⟩ => ?_⟩
      obtain ⟨t, t1, t2⟩ := (hsu y a dd oe pn).ex
      exact t1.run pins s σ H Dn I (t2 ρ F H Γ μ σ k1 s1 Dn hw)
    · refine ⟨cat y x, hcat y _ hy, fun hb a na => ⟨y, 0, ρ', F', μ, List.replicate X.N.length none, k1, slots_none hl, ?_⟩, fun hb => ?_⟩
      · rw [hres]
        have hw : WpS (rtS (if cat y x = true then sr y e μ else hdRun cat l y e μ)) (QS X.K E ρ F H Dn) := hw
        rw [if_pos hb] at hw
        exact rt_conv n1 rfl hw
      · have hw : WpS (rtS (if cat y x = true then sr y e μ else hdRun cat l y e μ)) (QS X.K E ρ F H Dn) := hw
        rw [if_neg (by rw [hb]; exact Bool.false_ne_true)] at hw
        exact h2 y e hy E ρ F H Dn μ hw ρ' F' H' od σ n1 k1 hd hl
  | @named x n i ds sr b₀ suite np pos' hds l hi hln hc hcat hno hsu hres r ih =>
    obtain ⟨l2, h1, h2⟩ := ih
    refine ⟨(.ref (He.ga X.K x), some i, fun a cls d Dn σ H => ∃ (y f : Str) (dd : Addr), (y, some f) ∈ tab ∧ cls = .ref (He.ga X.K y) ∧ d = some dd ∧ ∃ (ρ : List Addr) (F : Hp) (μ : Mu) (Γ : Gam), HpOk X.K ρ μ F H ∧ Slots X.K ρ F Γ σ ∧ WpS (ds y a dd Γ μ) (QS X.K noE ρ F H Dn)) :: l2, .named hi hln hc (fun a oe cls d pn hz hf => ?_) h1, fun y e hy E ρ F H Dn μ hw ρ' F' H' od σ n1 k1 hd hl => ?_⟩
    · refine ⟨fun pins s σ H Dn I ⟨y, f, dd, hy, e1, e2, ρ, F, μ, Γ, k1, s1, hw⟩ => ?_⟩
      subst e1
      subst e2
      obtain ⟨t, t1, t2⟩ := (hsu y f hy a dd oe pn ⟨oe, List.mem_cons_self, hz, hf⟩).ex
      exact t1.run pins s σ H Dn I (t2 ρ F H Γ μ σ k1 s1 Dn hw)
    · refine ⟨cat y x, hcat y _ hy, fun hb a na => ?_, fun hb => ?_⟩
      · have hw : WpS (rtS (if cat y x = true then sr y e μ else hdRun cat l y e μ)) (QS X.K E ρ F H Dn) := hw
        rw [if_pos hb] at hw
        cases e with
        | none =>
          rw [hno y hy] at hb
          cases hb
        | some fd =>
          obtain ⟨f, d⟩ := fd
          obtain ⟨dd, v, rfl, g1, g2⟩ := hd
          refine ⟨y, f, dd, hy, rfl, rfl, ρ', F', μ, (List.replicate X.N.length none).set i (some (.exn a dd f d)), k1, (slots_none hl).set (.exn g1 g2) i, ?_⟩
          rw [hres y f hy]
          exact rt_conv (Dn := Dn) n1 rfl hw
      · have hw : WpS (rtS (if cat y x = true then sr y e μ else hdRun cat l y e μ)) (QS X.K E ρ F H Dn) := hw
        rw [if_neg (by rw [hb]; exact Bool.false_ne_true)] at hw
        exact h2 y e hy E ρ F H Dn μ hw ρ' F' H' od σ n1 k1 hd hl
section
variable {X : Cx} {E : XK} {e : Expr} {st : Stmt} {h₀ : ExceptHandler} {hds : List ExceptHandler} {pos : Pos} {cat : Str → Str → Bool} {tab : List (Str × Option Str)} {ls : List HdD} {de : DE}
theorem q_tryG {T : TE → TS} {k2 : Ends → L2.St → VK} {kont : D → Gam → Mu → RS} (hs : X.stack = X.env :: X.outer) (hf : X.env.frame = some X.env.locals) (hN : X.N.Nodup)
    (hT : ∀ (pn : List (Addr × Obj)) (xe : Value → Shared → Prop) (te : TE), PE (X.tr pn xe) e te → PS (X.tr pn xe) st (T te))
    (hk : ∀ (te : TE) (D : Ends) (σ : L2.St) (H : Hp), te σ H (k2 D σ) → T te D σ H)
    (hkont : ∀ (ρ : List Addr) (F H : Hp) (Γ : Gam) (σ : L2.St) (Dn : Ends), Slots X.K ρ F Γ σ → ∀ d μ, WpS (kont d Γ μ) (QS X.K E ρ F H Dn) → QV X.K ρ F H (k2 Dn σ) d μ)
    (hb : ∀ (W : WX) (pn : List (Addr × Obj)) (xe : Value → Shared → Prop), Takes (X.tr pn xe) (fun cls d _ H => EW X.N.length W cls d H) → QE (X.tr pn xe) (EW X.N.length W) e de)
    (hh : HsD X cat tab (h₀ :: hds) ls) : QSt X E (.Try [st] (h₀ :: hds) [] [] pos) (dTryH kont cat tab ls de) := by
  obtain ⟨l, h1, h2⟩ := hs_of hh
  refine ⟨_, ps_tryH (tb := fun W => T (tD X.K de (EW X.N.length W))) hs hf hN takes_no (fun W pn xe tk _ => pss_one (hT pn xe _ (hb W pn xe (takes_len (X := X.tr pn xe) tk)).d)) h1, ?_⟩
  intro ρ F H Γ μ σ k sl Dn h
  refine hk _ _ _ _ ⟨ρ, F, μ, Γ, k, sl, ?_⟩
  have hl0 : WpR (de Γ μ) (QV X.K ρ F H (k2 Dn σ)) (XP X.K (EW X.N.length (wH X.K (fun _ _ _ _ => False) Dn l)) ρ F H) := by
    unfold dTryH at h
    cases hd : de Γ μ with
    | ok d μ1 =>
      rw [hd] at h
      exact hkont ρ F H Γ σ Dn sl d μ1 h
    | stk => rw [hd] at h; exact False.elim h
    | exc ex μ1 =>
      obtain ⟨x, eo⟩ := ex
      rw [hd] at h
      have h : WpS (if (x, eo.map (·.1)) ∈ tab then rtS (hdRun cat ls x eo μ1) else .stk) (QS X.K E ρ F H Dn) := h
      by_cases ht : (x, eo.map (·.1)) ∈ tab
      · rw [if_pos ht] at h
        show XP X.K _ ρ F H (x, eo) μ1
        intro ρ1 F1 H1 n1 k1
        cases eo with
        | none => exact fun σ' hl' => h2 x none ht E ρ F H Dn μ1 h ρ1 F1 H1 none σ' n1 k1 rfl hl'
        | some fd =>
          obtain ⟨f, d⟩ := fd
          exact fun dd v e1 e2 σ' hl' => h2 x (some (f, d)) ht E ρ F H Dn μ1 h ρ1 F1 H1 (some dd) σ' n1 k1 ⟨dd, v, rfl, e1, e2⟩ hl'
      · rw [if_neg ht] at h
        exact False.elim h
  exact hl0
/-- try: return e -/
theorem q_tryR {p : Pos} (hs : X.stack = X.env :: X.outer) (hf : X.env.frame = some X.env.locals) (hN : X.N.Nodup)
    (hb : ∀ (W : WX) (pn : List (Addr × Obj)) (xe : Value → Shared → Prop), Takes (X.tr pn xe) (fun cls d _ H => EW X.N.length W cls d H) → QE (X.tr pn xe) (EW X.N.length W) e de)
    (hh : HsD X cat tab (h₀ :: hds) ls) : QSt X E (.Try [.Return (some e) p] (h₀ :: hds) [] [] pos) (dTryH (fun d _ μ => .rt d μ) cat tab ls de) :=
  q_tryG (T := tRet) (k2 := fun D _ => D.rt) hs hf hN (fun _ _ _ h => ps_ret h) (fun _ _ _ _ h => h) (fun _ _ _ _ _ _ _ _ _ h => h) hb hh
end
end Ar

set_option Elab.async false
set_option linter.all false
set_option maxRecDepth 100000
set_option maxHeartbeats 4000000
/-! Ar70: x(lambda: e), x any def that calls what it gets; what comes of it is told by a function of the answer -/
namespace Ar
open PySem PySem.Spec PyProof.Rows L2
structure EndR (P : Program) (w : World) (K : PySem.W.Frag) (mg : Str → Option Value) (base : Heap) (x : Str) (lv : Nat) (res : R D → R D) : Prop where
  ex : ∃ (g : Addr) (fd : FuncData) (params : Arguments) (body : List Stmt) (sc : Scope) (N : List Str) (a : Str), mg x = some (.ref g) ∧ FunD K x x params body sc [] [] g fd ∧ Binds K fd [a] [] ∧ FnScope N [a] sc ∧ N[0]? = some a ∧ Vis sc a ∧ (a == ("__debug__" : Str)) = false ∧ (a == ("__classdict__" : Str)) = false ∧
    ∀ (cd : Value) (A : Around) (o : List Env) (s : Shared) (H : Hp) (f k : Addr) (q : Str) (σ0 : L2.St) (Γ0 : Gam) (de : DE), RoomG lv (A.deeper (envOfC x sc s.heap.objs.size g cd)) →
      (∀ (W : WX) (pn : List (Addr × Obj)) (xe : Value → Shared → Prop) (u1 u2 : Pos), Takes ((cxZ P w K mg base N x sc g cd A o s H).tr pn xe) W → PE ((cxZ P w K mg base N x sc g cd A o s H).tr pn xe) (.Call (.Name a u1) [] [] u2) (tAct K 0 f k q σ0 de W)) →
      ∃ db, QSs (cxZ P w K mg base N x sc g cd A o s H) noE body db ∧ ∀ μ, (db ([D.clo f k q σ0 Γ0].map some ++ List.replicate (N.length - 1) none) μ).fin = res (de Γ0 μ)
  nx : ∀ r e μ, res r ≠ .exc e μ
/-- x(lambda: e), the lambda's table the place t -/
def dLamR (t : Nat) (P : Addr) (q : Str) (res : R D → R D) (de : DE) : DE := fun Γ μ => match μ[t]? with
  | some (.tab P' q') => if P' = P ∧ q' = q then res (de Γ μ) else .stk
  | _ => .stk
theorem q_lamR {X : Cx} {E : XK} {x : Str} {lv j t : Nat} {res : R D → R D} {de : DE} {c P : Addr} {ar : Arguments} {b : Expr} {sc : Scope} {p lp pos : Pos} (G : EndR X.prog X.w X.K X.mg X.base x lv res) (B : LamX.TabB X.base X.mg c P) (ec : X.env.code = .ref c) (hr : RoomG (lv + 1) X.A) (hj : j + 1 ≤ lv)
    (L : LamX.LamS X.env.scope sc) (nd : defaultsOf ar X.env = ([], [])) (bi : ∀ (q : Str) (cl : List (Str × Addr)) (pm cv ctv : Value), bindArgs (PySem.W.kla_fn "<lambda>" q ar b sc cl pm cv ctv) ⟨[], []⟩ = pure [])
    (hb : ∀ (A : Around) (o : List Env) (s : Shared) (H : Hp) (E : XK) (f k : Addr), RoomG j (A.deeper (LamX.lamEnv X sc s.heap.objs.size f k)) → QE (LamX.lamCx X A o s H E sc f k) E b de) (hg : Gl X x := by rfl) (hdb : (x == ("__debug__" : Str)) = false := by decide) :
    QE X E (.Call (.Name x p) [.Lambda ar b sc lp] [] pos) (dLamR t P (lamQ X) res de) := by
  obtain ⟨g, fd, params, body, sg, N, a, hm, F, bd, Sg, hN, hv, d1, d2, go⟩ := G.ex
  obtain ⟨oc, od, dV, kV, doc, pm, an, cdv, ct, osl, rfl, lk, hcd, _, _⟩ := F.ex
  refine ⟨fun σ H Q => ∃ ρ F μ Γ, HpOk X.K ρ μ F H ∧ Slots X.K ρ F Γ σ ∧ μ[t]? = some (.tab P (lamQ X)) ∧ WpR (res (de Γ μ)) (QV X.K ρ F H Q) (XP X.K noE ρ F H), ⟨fun pins s σ H Q I h => ?_⟩, ?_⟩
  · obtain ⟨ρ, F0, μ, Γ, k1, sl, et, h⟩ := h
    obtain ⟨_, _, ps, hP, ht, old⟩ := tab_at k1 et
    refine wpAny_Call_Name_kw (ld_glob I hg hm ?_ hdb)
    refine PySem.W.callWith_K (h₀ := X.base) I.ok.mod.kin F.kp ?_ (by rfl) (by rfl)
    show wpAny _ _ (spliced ((false, eval (.Lambda ar b sc lp) X.env) :: backTo pos (starEach [] X.env))) _ _ s
    refine Calls.spliced_cons (lam_mk I B ec hP ht (fun p v hv => by obtain ⟨c0, e1, e2⟩ := old p v hv; exact ⟨c0, e1, k1.ex _ _ e2⟩) nd (L.has I.ok) fun f k pm' ctv G z J tb hf hfn hfr => Calls.spliced_nil ⟨J.kIn, ?_⟩)
    obtain ⟨F1, k2, n1, hk⟩ := tab_grow k1 et hP tb
    have rc : codeAny (model X.prog X.w) X.A (.call (.ref g) ⟨[.ref f], []⟩) (CR (L2.CX X.prog X.w) X.stack X.prog X.w G z Q noE) z := by
      refine LamX.run_ofS (N := N) (ps := [a]) (us := [.ref f]) (vs := [.ref f]) lk hcd Sg hr.r J.env0 (by have := bd z [.ref f] J.kIn rfl; rwa [List.append_nil] at this) (.cons rfl .nil) rfl fun hr' => ?_
      have hrg : RoomG lv (X.A.deeper (envOfC x sg z.heap.objs.size g cdv)) := ⟨hr', hr.g⟩
      obtain ⟨db, hq, hres⟩ := go cdv X.A X.stack z G f k (lamQ X) σ Γ de hrg fun W pn xe u1 u2 tk => pe_act (j := j) (i := 0) J L hf hfn hfr (bi _ _ _ _ _) tk (hrg.mono hj) (fun A o s H E hr2 => hb A o s H E f k hr2) hN hv d1 d2
      obtain ⟨t', t1, t2⟩ := hq.ex
      refine ⟨t', t1, ?_⟩
      have rd : DnAll X.K ρ F1 [V.ref f] [D.clo f k (lamQ X) σ Γ] := .cons (.clo hk (sl.nx n1).dno) .nil
      refine t2 ρ F1 G _ μ _ k2 (slots_start rd) _ ?_
      have h2 := hres μ
      have h3 : WpR ((db ([D.clo f k (lamQ X) σ Γ].map some ++ List.replicate (N.length - 1) none) μ).fin) (QV X.K ρ F1 G Q) (XP X.K noE ρ F1 G) := by
        rw [h2]
        exact h.mono (fun d μ1 q => QV.nx n1 q) fun e μ1 q => XP.nx n1 q
      show WpS (db ([D.clo f k (lamQ X) σ Γ].map some ++ List.replicate (N.length - 1) none) μ) _
      cases hdb : db ([D.clo f k (lamQ X) σ Γ].map some ++ List.replicate (N.length - 1) none) μ with
      | nx Γ2 μ1 => rw [hdb] at h3; exact fun ρ1 F2 H1 σ1 n2 k3 s1 => h3 ρ1 F2 H1 .non n2 k3 .non
      | rt d μ1 => rw [hdb] at h3; exact h3
      | bk Γ2 μ1 => rw [hdb] at h3; exact False.elim h3
      | ct Γ2 μ1 => rw [hdb] at h3; exact False.elim h3
      | exc e μ1 => rw [hdb] at h3; exact h3
      | stk => rw [hdb] at h3; exact False.elim h3
    refine wpAny_call (codeAny_mono rc fun r s2 hq => ?_)
    match r, hq with
    | .error err, hq => exact passes_call LamX.takes0 (fun _ _ _ _ w => False.elim w) pins σ G z err s2 J hq
    | .ok (.ret u), hq => exact J.after hq
  · intro ρ F0 H Γ μ σ k1 sl Q h
    unfold dLamR at h
    split at h
    · rename_i P' q' et
      split at h
      · rename_i hh
        obtain ⟨rfl, rfl⟩ := hh
        refine ⟨ρ, F0, μ, Γ, k1, sl, et, ?_⟩
        cases hre : res (de Γ μ) with
        | ok d μ1 => rw [hre] at h; exact h
        | stk => rw [hre] at h; exact h
        | exc e μ1 => exact absurd hre (G.nx _ _ _)
      · exact False.elim h
    · exact False.elim h
open Classical in
/-- a() in the def that got the lambda -/
noncomputable def dActK (f k : Addr) (q : Str) (σ0 : L2.St) (Γ0 : Gam) (de : DE) : DE := fun Γ μ => if Γ[0]? = some (some (.clo f k q σ0 Γ0)) then de Γ0 μ else .stk
theorem q_act {P : Program} {w : World} {K : PySem.W.Frag} {mg : Str → Option Value} {base : Heap} {N : List Str} {qg a : Str} {sg : Scope} {g : Addr} {cd : Value} {A : Around} {o : List Env} {s0 : Shared} {H0 : Hp} {f k : Addr} {q : Str} {σ0 : L2.St} {Γ0 : Gam} {de : DE} {E : XK} {pn : List (Addr × Obj)} {xe : Value → Shared → Prop} {u1 u2 : Pos}
    (act : ∀ (W : WX) (pn : List (Addr × Obj)) (xe : Value → Shared → Prop) (u1 u2 : Pos), Takes ((cxZ P w K mg base N qg sg g cd A o s0 H0).tr pn xe) W → PE ((cxZ P w K mg base N qg sg g cd A o s0 H0).tr pn xe) (.Call (.Name a u1) [] [] u2) (tAct K 0 f k q σ0 de W))
    (tk : Takes ((cxZ P w K mg base N qg sg g cd A o s0 H0).tr pn xe) (fun cls d _ H => E cls d H)) : QE ((cxZ P w K mg base N qg sg g cd A o s0 H0).tr pn xe) E (.Call (.Name a u1) [] [] u2) (dActK f k q σ0 Γ0 de) := by
  refine ⟨_, act _ pn xe u1 u2 tk, ?_⟩
  intro ρ F H Γ μ σ k1 sl Q h
  unfold dActK at h
  split at h
  · rename_i h1
    obtain ⟨v, hv, r⟩ := sl.at_ 0 _ h1
    cases r with
    | clo c1 c2 => exact ⟨hv, k1.ex _ _ c1, ρ, F, μ, Γ0, k1, c2.slots, h⟩
  · exact False.elim h
/-- where the going on raises nothing, the try doesn't -/
theorem tryH_nx {kont : D → Gam → Mu → RS} {cat : Str → Str → Bool} {tab : List (Str × Option Str)} {ls : List HdD} {de : DE} {Γ : Gam} {μ : Mu} (hk : ∀ d Γ μ e μ', kont d Γ μ ≠ .exc e μ') : ∀ e μ', dTryH kont cat tab ls de Γ μ ≠ .exc e μ' := by
  intro e μ' h
  unfold dTryH at h
  split at h
  · exact hk _ _ _ _ _ h
  · split at h
    · cases hr : hdRun cat ls _ _ _ with
      | ok d μ2 => rw [hr] at h; cases h
      | exc e μ2 => rw [hr] at h; cases h
      | stk => rw [hr] at h; cases h
    · cases h
  · cases h
/-! ### facts of errors -/
def errE (K : PySem.W.Frag) (x : Str) : Bool := oexB K (He.ga K x) && (excB K (He.ga K x) && (decide (PySem.W.findIn K (.ref (He.ga K x)) "given" = some none) && decide (PySem.W.findIn K (.ref (He.ga K x)) "index" = some none)))
structure ErrE (K : PySem.W.Frag) (x : Str) : Prop where
  o : OexC K (He.ga K x)
  c : ExcC K (He.ga K x)
  g : PySem.W.findIn K (.ref (He.ga K x)) "given" = some none
  n : PySem.W.findIn K (.ref (He.ga K x)) "index" = some none
theorem errE_ok {K : PySem.W.Frag} {x : Str} (h : errE K x = true) : ErrE K x := by
  obtain ⟨h0, h⟩ := He.ba h
  obtain ⟨h1, h⟩ := He.ba h
  obtain ⟨h2, h3⟩ := He.ba h
  have o := oexB_ok h0
  exact ⟨o, excB_ok o.exC h1, of_decide_eq_true h2, of_decide_eq_true h3⟩
def catB (K : PySem.W.Frag) (y x : Str) (b : Bool) : Bool := decide (PySem.W.exmOne K (.ref (He.ga K y)) (.ref (He.ga K x)) = some b)
theorem catB_ok {K : PySem.W.Frag} {y x : Str} {b : Bool} (h : catB K y x b = true) : PySem.W.exmOne K (.ref (He.ga K y)) (.ref (He.ga K x)) = some b := of_decide_eq_true h
/-- an expression in an except suite stands as at the error 0 -/
theorem xf_at {f : Str} {a dd : Addr} {i : Nat} {d : D} {Γ : Gam} {μ : Mu} (h : i < Γ.length) : dXf f a dd (dVar i) (Γ.set i (some (.exn a dd f d))) μ = .ok d μ := by
  unfold dXf dVar
  rw [List.getElem?_set_self h]
  show (if _ then _ else _) = _
  rw [if_pos ⟨rfl, rfl, rfl⟩]
end Ar

set_option Elab.async false
set_option linter.all false
set_option maxRecDepth 100000
set_option maxHeartbeats 4000000
/-! Ar71: plain instances whose attributes change: made, read, written; methods and properties of them -/
namespace Ar
open PySem PySem.Spec PyProof.Rows L2
section
variable {K : PySem.W.Frag} {ρ ρ' : List Addr} {F F' H H' : Hp} {μ μ' : Mu}
end
/-! ### making -/
section
variable {X : Cx} {Z : CXT} {k : Nat} {f C : Addr} {fd : FuncData} {ps : List Str} {sp : Sp} {E : XK} {x : Str} {p pos : Pos}
end
/-! ### attributes -/
/-! ### methods -/
end Ar

set_option Elab.async false
set_option linter.all false
set_option maxRecDepth 100000
set_option maxHeartbeats 4000000
/-! Ar72: plain instances whose attributes change: methods by keywords, properties, len and bool by own methods; Ok rules; head -/
namespace Ar
open PySem PySem.Spec PyProof.Rows L2
/-! ### properties -/
section
variable {X : Cx} {pins : List (Addr × Obj)} {σ : L2.St} {H : Hp} {s : Shared} {C nm : Str} {m : Fn} {k : Nat} {E : XK} {a dx : Addr} {vs : List (Str × V)}
end
/-! ### len and bool -/
section
variable {prog : Program} {w : World} {A : Around} {E : Value → Shared → Prop} {s : Shared} {K : PySem.W.Frag} {x C f : Addr} {ox : Obj} {odd : Option Obj}
end
section
variable {X : Cx} {E : XK} {C : Str} {m : Fn} {k : Nat} {e : Expr} {de : DE} {p pos : Pos}
end
/-! ### what they do -/
section
variable [ExW] {Γ : Gam} {μ : Mu} {Q : D → Mu → Prop} {C f nm : Str} {m : Fn} {e o : DE} {a : DA}
end
/-! ### the head -/
section
variable {P : Program} {w : World} {K : PySem.W.Frag} {mg : Str → Option Value} {base : Heap} {C nm y qual : Str} {params : Arguments} {body : List Stmt} {scope : Scope} {f : Addr} {fd : FuncData} {ps ks : List Str} {k : Nat} {m : Fn} {pm : List Nat}
end
end Ar

set_option Elab.async false
set_option linter.all false
set_option maxRecDepth 100000
set_option maxHeartbeats 4000000
/-! Ar73: x == y and x != y of two instances of one class without an __eq__ of its own -/
namespace Ar
open PySem PySem.Spec PyProof.Rows L2
section
variable {prog : Program} {w : World} {A : Around} {E : Value → Shared → Prop} {s : Shared} {K : PySem.W.Frag} {x y C : Addr} {ox oy : Obj} {od ody : Option Obj}
end
section
variable {X : Cx} {C : Str}
end
end Ar

set_option Elab.async false
set_option linter.all false
set_option maxRecDepth 100000
set_option maxHeartbeats 4000000
/-! Ar74: raise C, C an own class of errors without an __init__ -/
namespace Ar
open PySem PySem.Spec PyProof.Rows L2 PySem.Calls
section
variable {prog : Program} {w : World} {A : Around} {E : Value → Shared → Prop} {s : Shared} {K : PySem.W.Frag} {C : Addr} {env : Env}
theorem issubS_nested {Q : PySem.Fin → Shared → Prop} (X : K.In s.heap) (hT : PySem.W.typeIn K (.ref C) = some (.type "type")) (hc : ∃ oc od cd sl, K.lookup C = some ⟨oc, od, .cls cd, sl⟩) (sub : PySem.W.mroIn K C (.ref C) = some true) (h : Q (.done (.ret (.bool true))) s) :
    wpAny (model prog w) A (Builtin.«issubclass.nested» ⟨[.ref C, .ref C, rawInt 0], []⟩) Q E s := by
  obtain ⟨hh, g, dr, t, os⟩ := s
  dsimp only at X
  obtain ⟨oc, od, cd, sl, hK⟩ := hc
  have hC := X _ _ hK
  have L1 := PySem.W.looks_mroIn (M := model prog w) X sub
  have L3 := PySem.W.looks_typeIn (M := model prog w) X hT
  unfold Builtin.«issubclass.nested»
  repeat (first | exact h | exact wpAny_pure h | (with_reducible refine L3.here ?_) | (with_reducible refine L1.here ?_) | (with_reducible refine wpAny_loadPart_at hC ?_) | wp_step)
theorem issubS_run {Q : Value → Shared → Prop} (X : K.In s.heap) (hT : PySem.W.typeIn K (.ref C) = some (.type "type")) (hc : ∃ oc od cd sl, K.lookup C = some ⟨oc, od, .cls cd, sl⟩) (sub : PySem.W.mroIn K C (.ref C) = some true) (h : Q (.bool true) s) :
    wpAny (model prog w) A (call (.builtin "issubclass") [.ref C, .ref C]) Q E s :=
  call_issubclass (S := fun _ R s => K.In s.heap ∧ R (.ok (.ret (.bool true))) s) (fun _ _ _ _ _ hs => issubclass_outer (issubS_nested hs.1 hT hc sub hs.2)) ⟨X, h⟩
theorem lookup_exc {bmB : List Value} {newId : String} (q : PySem.W.excIn K C bmB newId = true) : ∃ oc od cd sl, K.lookup C = some ⟨oc, od, .cls cd, sl⟩ := by
  unfold PySem.W.excIn at q
  split at q
  · rename_i ho
    exact ⟨_, _, _, _, ho⟩
  · cases q
theorem raise_ownC {B newId initId : String} {bmB : List Value} {x : Sem Value} {Q : Flow → Shared → Prop} (hh : A.handled = none) (F : ExcBaseFacts B newId initId bmB) (q : PySem.W.excIn K C bmB newId = true)
    (h1 : PySem.W.subIn K (.ref C) (.type "BaseException") = some true) (h2 : PySem.W.typeIn K (.ref C) = some (.type "type")) (h3 : PySem.W.mroIn K C (.ref C) = some true)
    (hx : wpAny (model prog w) A x (fun v s₁ => v = .ref C ∧ K.In s₁.heap ∧ ∀ h' e, Heap.MadeExcOf s₁.heap h' e (.ref C) [] → E (.ref e) { s₁ with heap := h' }) E s) : wpAny (model prog w) A (raiseStmt env (some x) none) Q E s := by
  unfold raiseStmt
  dsimp only
  refine wpAny_bind (wpAny_mono hx (fun v s₁ h₁ => ?_) fun _ _ e => e)
  obtain ⟨rfl, X, h⟩ := h₁
  have hc := lookup_exc q
  obtain ⟨oc, od, cd, sl, hK⟩ := hc
  have isT : ∀ {s : Shared} {Q' : Bool → Shared → Prop}, K.In s.heap → Q' true s → wpAny (model prog w) A (isType (.ref C)) Q' E s := fun X hq => by
    simp only [isType, loadHead]
    refine wpAny_bind (wpAny_loadPart (X _ _ hK) ?_)
    exact wpAny_pure hq
  refine wpAny_bind (wpAny_pure ?_)
  dsimp only
  refine wpAny_bind (wpAny_holding ?_)
  unfold excFromValue isExcClass
  refine wpAny_bind (wpAny_bind (isT X ?_))
  simp only [if_true]
  refine (PySem.W.looks_subIn X h1).here ?_
  simp only [if_true]
  obtain ⟨hp, g, d, t, os⟩ := s₁
  obtain ⟨bm, N, nm, qn, bs, hdct, sn, sub, ab, col, dd, k0, k1, k2, k3, k5, mN, hC, hN, hni, T⟩ := exc_obj X q
  refine wpAny_bind (wpAny_call_exc_subT F T hC hN hni (fun h' e hm => ?_) (by show 0 ≤ sizeLine; rw [sizeLine_eq]; omega))
  obtain ⟨t2, he, _, _⟩ := hm.there
  have X2 : K.In h' := X.keeps hm.keeps
  have LT : PySem.W.Looks (model prog w) h' (typeOf (.ref e)) (.ref C) := fun A Q E s k q => wpAny_typeOf_ref (k _ _ he) q
  have LI : PySem.W.Looks (model prog w) h' (isInstance (.ref e) (.type "BaseException")) true := LT.andThen (PySem.W.looks_subIn X2 h1)
  refine wpAny_bind (LI.here ?_)
  simp only [Bool.not_true, Bool.false_eq_true, if_false]
  refine wpAny_pure ?_
  refine wpAny_bind (isT X2 ?_)
  simp only [if_true]
  refine wpAny_bind (wpAny_holding ?_)
  unfold raisedFor
  simp only [Bool.false_eq_true, if_false]
  refine wpAny_bind (LT.here ?_)
  refine wpAny_bind (issubS_run X2 h2 ⟨_, _, _, _, hK⟩ h3 ?_)
  refine wpAny_bind (wpAny_truthy_bool ?_)
  simp only [if_true]
  refine wpAny_pure ?_
  unfold setFlight raiseNew
  refine wpAny_bind (wpAny_bind (wpAny_field (i := 1) (x := Value.none) he rfl rfl ?_))
  rw [if_neg (by decide)]
  refine wpAny_pure (wpAny_bind (wpAny_handled ?_))
  rw [hh]
  first
    | exact wpAny_throw (h h' e hm)
    | exact wpAny_bind (wpAny_pure (wpAny_throw (h h' e hm)))
end
section
variable {X : Cx} {W : WX} {C : Addr} {x : Str} {p pos : Pos}
theorem ps_raiseC {B newId initId : String} {bmB : List Value} (hc : X.calm = true) (tk : Takes X W) (F : ExcBaseFacts B newId initId bmB) (q : PySem.W.excIn X.K C bmB newId = true)
    (h1 : PySem.W.subIn X.K (.ref C) (.type "BaseException") = some true) (h2 : PySem.W.typeIn X.K (.ref C) = some (.type "type")) (h3 : PySem.W.mroIn X.K C (.ref C) = some true) (gC : X.mg x = some (.ref C)) (hg : Gl X x)
    (hdb : (x == ("__debug__" : Str)) = false := by decide) : PS X (.Raise (some (.Name x p)) none pos) (fun _ σ H => W (.ref C) none σ H) := by
  refine ⟨fun pins s σ H D I h => ?_⟩
  show wpAny _ _ (do standAt pos; raiseStmt X.env (some (do let v ← eval (.Name x p) X.env; standAt pos; pure v)) none) _ _ _
  refine wpAny_bind (wpAny_standAt (raise_ownC (K := X.K) (I.ok.hd hc) F q h1 h2 h3 (wpAny_bind (ld_glob I hg gC ?_ hdb))))
  refine wpAny_bind (wpAny_standAt (wpAny_pure ⟨rfl, I.kIn, fun h' e hm => ?_⟩))
  obtain ⟨a, oe, vs, sI, H', cls, d, e1, J, k, hne, ha, hz, hd, hf, na, os, ag, r, q⟩ := mk_of (Q := fun cls d H' => W cls d σ H') I hm (raises_own h1 h2) h (I.hok.gone hm.new)
  rw [e1]
  exact tk _ _ (XE.new J k hne ha hz hd hf na os ag q)
end
def aeBase : List Value := [.type "ArithmeticError", .type "Exception", .type "BaseException", .type "object"]
/-- an own class of errors over ArithmeticError without an __init__ -/
structure Ex0 (K : PySem.W.Frag) (mg : Str → Option Value) (x : Str) : Prop where
  m : mg x = some (.ref (He.ga K x))
  q : PySem.W.excIn K (He.ga K x) aeBase "ArithmeticError.__new__" = true
  b : PySem.W.subIn K (.ref (He.ga K x)) (.type "BaseException") = some true
  t : PySem.W.typeIn K (.ref (He.ga K x)) = some (.type "type")
  s : PySem.W.mroIn K (He.ga K x) (.ref (He.ga K x)) = some true
def ex0B (K : PySem.W.Frag) (x : Str) : Bool := PySem.W.excIn K (He.ga K x) aeBase "ArithmeticError.__new__" && (decide (PySem.W.subIn K (.ref (He.ga K x)) (.type "BaseException") = some true) && (decide (PySem.W.typeIn K (.ref (He.ga K x)) = some (.type "type")) && decide (PySem.W.mroIn K (He.ga K x) (.ref (He.ga K x)) = some true)))
theorem ex0B_ok {K : PySem.W.Frag} {mg : Str → Option Value} {x : Str} (h : ex0B K x = true) (m : mg x = some (.ref (He.ga K x))) : Ex0 K mg x := by
  obtain ⟨h1, h⟩ := He.ba h
  obtain ⟨h2, h⟩ := He.ba h
  obtain ⟨h3, h4⟩ := He.ba h
  exact ⟨m, h1, of_decide_eq_true h2, of_decide_eq_true h3, of_decide_eq_true h4⟩
def dRaise0 (x : Str) : DS := fun _ μ => .exc (x, none) μ
theorem q_raise0 {X : Cx} {E : XK} {x : Str} {p pos : Pos} (G : Ex0 X.K X.mg x) (hc : X.calm = true) (tk : Takes X (fun cls d _ H => E cls d H)) (hg : Gl X x := by rfl) (hdb : (x == ("__debug__" : Str)) = false := by decide) : QSt X E (.Raise (some (.Name x p)) none pos) (dRaise0 x) := by
  refine ⟨_, ps_raiseC hc tk PySem.F.excBase_ArithmeticError G.q G.b G.t G.s G.m hg hdb, ?_⟩
  intro ρ F H Γ μ σ k sl D h
  exact h ρ F H Nx.refl k
theorem oks_raise0 [x : ExW] {y : Str} {Γ : Gam} {μ : Mu} {N B C : Gam → Mu → Prop} {T : D → Mu → Prop} : OkS (dRaise0 y Γ μ) N B C T = x.X (y, none) μ := rfl
end Ar

set_option Elab.async false
set_option linter.all false
set_option maxRecDepth 100000
set_option maxHeartbeats 4000000
/-! Ar76: comprehensions with two fors -/
namespace Ar
open PySem PySem.Spec PyProof.Rows L2
def tI (K : PySem.W.Frag) (E : XK) (di : DA) : TI := fun σ H R => ∃ ρ F Γ μ, HpOk K ρ μ F H ∧ Slots K ρ F Γ σ ∧ WpR (di Γ μ) (fun ds μ' => ∀ ρ' F' H' J, Nx ρ F H ρ' F' H' → HpOk K ρ' μ' F' H' → ItOk K ρ' F' J ds → R J H') (XP K E ρ F H)
section
variable {X : Cx} {E : XK} {K : PySem.W.Frag}
end
section
variable {X : Cx} {E : XK}
end
end Ar

set_option Elab.async false
set_option linter.all false
set_option maxRecDepth 100000
set_option maxHeartbeats 4000000
/-! Ar77: len(set(xs)), xs a list of ints -/
namespace Ar
open PySem PySem.Spec PyProof.Rows L2
section
variable {X : Cx}
end
end Ar

set_option Elab.async false
set_option linter.all false
set_option maxRecDepth 100000
set_option maxHeartbeats 4000000
/-! Ar78: name = [.. for .. in a changing list that is left so] -/
namespace Ar
open PySem PySem.Spec PyProof.Rows L2
section
variable {X : Cx} {E : XK}
end
/-! what a comprehension with two fors gives -/
section
variable [ExW] {Γ : Gam} {μ : Mu} {fin : List D → Mu → R D} {vs vs1 : List Nat} {i i1 : DA} {g g1 : DG} {t t1 : DT} {e : DE}
end
end Ar

set_option Elab.async false
set_option linter.all false
set_option maxRecDepth 100000
set_option maxHeartbeats 4000000
/-! Ar84: sorted of a list of texts that stand in order; x in range(n), x not in range(n) -/
namespace Ar
open PySem PySem.Spec PyProof.Rows L2
theorem strsOf_map : ∀ ss : List Str, strsOf (ss.map D.str) = some ss
  | [] => rfl
  | s :: ss => by
    show (strsOf (ss.map D.str)).map (s :: ·) = _
    rw [strsOf_map ss]
    rfl
theorem strsOf_eq : ∀ {ds : List D} {ns : List Str}, strsOf ds = some ns → ds = ns.map D.str
  | [], _, h => by cases h; rfl
  | d :: ds, _, h => by
    cases d with
    | str i =>
      have h : (strsOf ds).map (i :: ·) = some _ := h
      cases e : strsOf ds with
      | none => rw [e] at h; cases h
      | some ns =>
        rw [e] at h
        cases h
        rw [strsOf_eq e]
        rfl
    | _ => cases h
theorem ltCps_tri : ∀ a b : List Nat, ltCps a b = false → ltCps b a = false → a = b
  | [], [], _, _ => rfl
  | [], _ :: _, h, _ => by cases h
  | _ :: _, [], _, h => by cases h
  | x :: a, y :: b, h, h' => by
    have h : (decide (x < y) || (x == y && ltCps a b)) = false := h
    have h' : (decide (y < x) || (y == x && ltCps b a)) = false := h'
    rw [Bool.or_eq_false_iff] at h h'
    have e : x = y := by
      have := of_decide_eq_false h.1
      have := of_decide_eq_false h'.1
      omega
    subst e
    have h1 := h.2
    have h2 := h'.2
    simp at h1 h2
    rw [ltCps_tri a b h1 h2]
theorem ltCps_le_trans : ∀ a b c : List Nat, ltCps b a = false → ltCps c b = false → ltCps c a = false
  | [], _, c, _, _ => by cases c <;> rfl
  | x :: a, [], _, h, _ => by cases h
  | x :: a, y :: b, [], _, h => by cases h
  | x :: a, y :: b, z :: c, h, h' => by
    have h : (decide (y < x) || (y == x && ltCps b a)) = false := h
    have h' : (decide (z < y) || (z == y && ltCps c b)) = false := h'
    show (decide (z < x) || (z == x && ltCps c a)) = false
    rw [Bool.or_eq_false_iff] at h h' ⊢
    have h1 := of_decide_eq_false h.1
    have h2 := of_decide_eq_false h'.1
    refine ⟨decide_eq_false (by omega), ?_⟩
    cases e : (z == x) with
    | false => rfl
    | true =>
      have e := eq_of_beq e
      have e1 : y = x := by omega
      have e2 : z = y := by omega
      have a1 := h.2
      have a2 := h'.2
      rw [e1, beq_self_eq_true] at a1
      rw [e2, beq_self_eq_true] at a2
      exact ltCps_le_trans a b c a1 a2
def leStr (a b : Str) : Prop := ltCps b.cps.toList a.cps.toList = false
theorem pw_of_rising : ∀ (l : List Str) (p : Str), risingS p l = true → (p :: l).Pairwise leStr
  | [], p, _ => List.pairwise_singleton _ _
  | x :: l, p, h => by
    have h : (!ltCps x.cps.toList p.cps.toList && risingS x l) = true := h
    rw [Bool.and_eq_true] at h
    have h1 : leStr p x := by simpa [leStr] using h.1
    have ih := pw_of_rising l x h.2
    refine List.pairwise_cons.mpr ⟨fun y hy => ?_, ih⟩
    rcases List.mem_cons.mp hy with rfl | hy
    · exact h1
    · exact ltCps_le_trans _ _ _ h1 ((List.pairwise_cons.mp ih).1 y hy)
theorem pw_of_sorted : ∀ {l : List Str}, sortedS l = true → l.Pairwise leStr
  | [], _ => .nil
  | x :: l, h => pw_of_rising l x h
theorem sorted_uniq {xs ys : List Str} (h : ys.Perm xs) (h1 : sortedS ys = true) (h2 : sortedS xs = true) : ys = xs :=
  h.eq_of_pairwise (le := leStr) (fun a b _ _ p q => by
    have := ltCps_tri _ _ q p
    cases a with | mk a => cases b with | mk b => exact congrArg Str.mk (Array.ext' this)) (pw_of_sorted h1) (pw_of_sorted h2)
def fSortS : Mu → List D → Option D := fun μ ds => match ds with
  | [x] => match seqL μ x with
    | some xs => match strsOf xs with
      | some ss => if sortedS ss = true ∧ ss.length < 64 then some (.lst xs) else none
      | none => none
    | none => none
  | _ => none
section
variable {X : Cx} {E : XK} {a e : Expr} {da de : DE}
theorem cd_sortS : CallD X (.builtin "sorted") fSortS := by
  refine ⟨_, cr_sortedS, fun ρ F H μ vs ds z k rv ez Q q => ?_⟩
  unfold fSortS at ez
  split at ez
  · rename_i x
    split at ez
    · rename_i xs hs
      split at ez
      · rename_i ss hss
        split at ez
        · rename_i hc
          cases ez
          cases rv with
          | cons r1 r2 =>
            cases r2
            obtain ⟨a, vs, rfl, e2, e3⟩ := seqL_ok k r1 hs
            obtain rfl := strsOf_ok hss e3
            obtain rfl := strsOf_eq hss
            refine ⟨a, ss, rfl, .inl e2, hc.2, fun ys p hp h1 hn => ?_⟩
            obtain rfl := sorted_uniq hp h1 hc.1
            obtain ⟨n2, k2, r2⟩ := new_lst k e3 hn
            exact q _ _ _ _ n2 k2 r2
        · cases ez
      · cases ez
    · cases ez
  · cases ez
theorem cr_range1 : CallR X (.type "range") (fun vs H Q => ∃ j, vs = [V.int j] ∧ ∀ p, H p = none → Q (.ref p) (upd H p (.rng 0 j))) := by
  intro pins s σ H vs us Q I r h
  obtain ⟨j, rfl, q⟩ := h
  cases r with
  | cons ri r2 =>
    cases r2
    obtain ⟨u, rfl⟩ := ri
    refine call_range_1 ⟨.ref s.heap.objs.size, upd H s.heap.objs.size (.rng 0 j), I.laid (t' := s.toks + 1 + 1) (fun b o e => Heap.get?_push_of_some _ e) (Nat.le_refl _) ?_, rfl, q _ (I.hok.fresh (Nat.le_refl _))⟩
    exact ⟨s.toks, u, s.toks + 1, Heap.get?_push_size _ rfl⟩
theorem op_notIn_rng : OpR X (compareOp .NotIn) (fun x y H Q => ∃ i a lo hi, x = V.int i ∧ y = V.ref a ∧ H a = some (.rng lo hi) ∧ Q (.bl (!decide (lo ≤ i ∧ i < hi))) H) := by
  intro pins s σ H x y v u Q I rx ry h
  obtain ⟨i, a, lo, hi, rfl, rfl, ha, q⟩ := h
  obtain ⟨k, rfl⟩ := rx
  obtain rfl : u = Value.ref a := ry
  obtain ⟨t1, t2, t3, ho⟩ := I.hok a _ ha
  show wpAny _ _ (do return Value.bool (!(← contains (Value.ref a) (Value.int i k)))) _ _ s
  refine wpAny_bind (wpAny_contains_slot (T := "range") ⟨_, ho, rfl⟩ F.slot_range_contains (call_meets F.slot_range_contains ⟨_, ho, rfl⟩ F.entry_range_contains (F.args_range_contains_2 _ _) (q_contains a lo hi i t1 t2 t3 k)
    ⟨ho, wpAny_truthy_bool (wpAny_pure ⟨.bl _, H, I, rfl, ?_⟩)⟩))
  rw [place1]
  exact q
def dInRg (neg : Bool) (a e : DE) : DE := fun Γ μ => (a Γ μ).bind fun x μ1 => (e Γ μ1).bind fun y μ2 => match x, y with
  | .int i, .int n => .ok (.bl (if neg then !decide (0 ≤ i ∧ i < n) else decide (0 ≤ i ∧ i < n))) μ2
  | _, _ => .stk
theorem nx_new {ρ : List Addr} {F H : Hp} {p : Addr} {o : HO} (hp : H p = none) : Nx ρ F H ρ F (upd H p o) := by
  refine ⟨fun _ _ h => h, fun _ _ h => h, fun a u e _ => ?_, fun _ h => .inl h, fun _ _ h => .inl h, fun a e => ?_⟩
  · rw [upd_ne (ne_of_none e hp)]; exact e
  · by_cases h : a = p
    · subst h; exact hp
    · rw [upd_ne h] at e; exact e
abbrev rInRg (neg : Bool) : R2 := fun x y H Q => ∃ i a lo hi, x = V.int i ∧ y = V.ref a ∧ H a = some (.rng lo hi) ∧ Q (.bl (if neg then !decide (lo ≤ i ∧ i < hi) else decide (lo ≤ i ∧ i < hi))) H
abbrev rRg1 : List V → Hp → VK → Prop := fun vs H Q => ∃ j, vs = [V.int j] ∧ ∀ p, H p = none → Q (.ref p) (upd H p (.rng 0 j))
theorem sim_inRg {neg : Bool} {ta : TE} {tb : TA} (a2 : SimE X.K E ta da) (b2 : SimA X.K E tb (daCons de daNil)) : SimE X.K E (tOp (rInRg neg) ta (tCB rRg1 tb)) (dInRg neg da de) := by
  intro ρ F H Γ μ σ k s Q h
  unfold dInRg at h
  refine a2 ρ F H Γ μ σ k s _ (h.bind.mono (fun x μ1 h1 => ?_) fun _ _ q => q)
  intro ρ1 F1 H1 v n1 k1 r1
  refine b2 ρ1 F1 H1 Γ μ1 σ k1 (s.nx n1) _ ?_
  show WpR ((de Γ μ1).bind fun x μ1 => (R.ok [] μ1).bind fun xs μ2 => .ok (x :: xs) μ2) _ _
  cases hd : de Γ μ1 with
  | ok y μ2 =>
    rw [hd] at h1
    intro ρ2 F2 H2 vs n2 k2 r2
    cases r2 with
    | cons ra rb =>
      cases rb
      cases x with
      | int i =>
        cases y with
        | int n =>
          cases ra
          cases r1
          refine ⟨n, rfl, fun p hp => ⟨i, p, 0, n, rfl, rfl, upd_same, ?_⟩⟩
          exact h1 ρ2 F2 (upd H2 p (.rng 0 n)) _ ((n1.trans n2).trans (nx_new hp)) (k2.beside (k2.fresh hp) (k2.freshF hp)) (.bl _)
        | _ => exact h1.elim
      | _ => exact h1.elim
  | exc e μ2 => rw [hd] at h1; exact XP.nx n1 h1
  | stk => rw [hd] at h1; exact h1.elim
theorem qt_notInRg {p pos pos2 : Pos} (hm : X.mg "range" = none) (ha : QE X E a da) (he : QE X E e de) (hg : Gl X "range" := by rfl)
    (h1 : starEach [e] X.env = (false, eval e X.env) :: starEach [] X.env := by rfl) (hb : behindInMarks .NotIn (.Call (.Name "range" p) [e] [] pos2) = false := by with_unfolding_all rfl) : QT X E (.Compare a [.NotIn] [.Call (.Name "range" p) [e] [] pos2] pos) (dTest (dInRg true da de)) := by
  obtain ⟨ta, a1, a2⟩ := ha.ex
  obtain ⟨te, b1, b2⟩ := (qa_cons he qa_nil h1).ex
  exact ⟨_, pt_cmpR (r := rInRg true) op_notIn_rng a1 (pe_callTy cr_range1 hg hm (by rfl) b1 (by decide) (by decide) h1 (by rfl)) hb, sim_test (sim_inRg a2 b2)⟩
end
section
variable {Γ : Gam} {μ : Mu} {Q : D → Mu → Prop}
theorem ok_inRg [ExW] {neg : Bool} {a e : DE} : Ok (dInRg neg a e Γ μ) Q = Ok (a Γ μ) fun x μ1 => Ok (e Γ μ1) fun y μ2 => ∃ i n : Int, x = .int i ∧ y = .int n ∧ Q (.bl (if neg then !decide (0 ≤ i ∧ i < n) else decide (0 ≤ i ∧ i < n))) μ2 := by
  unfold dInRg
  rw [ok_bind]
  congr 1; funext x μ1
  rw [ok_bind]
  congr 1; funext y μ2
  refine propext ⟨fun h => ?_, fun h => ?_⟩
  · split at h
    · exact ⟨_, _, rfl, rfl, h⟩
    · exact h.elim
  · obtain ⟨i, n, rfl, rfl, h⟩ := h
    exact h
theorem o_sortS {ss : List Str} {xs : D} (h : seqL μ xs = some (ss.map D.str)) (h1 : sortedS ss = true) (h2 : ss.length < 64) : fSortS μ [xs] = some (.lst (ss.map D.str)) := by
  unfold fSortS
  simp only [h, strsOf_map, h1, h2, and_self, if_true]
end
end Ar

set_option linter.all false
/-! FM: moves as a group, rows of numbers, what presses come to: no program in sight -/
namespace FM
abbrev Vc := Nat → Int
def vz : Vc := fun _ => 0
def va (v w : Vc) (c : Int) : Vc := fun i => v i + c * w i
structure Md (P : Vc → Prop) : Prop where
  z : P vz
  a : ∀ v w c, P v → P w → P (va v w c)
def Sp (R : List Vc) (v : Vc) : Prop := ∀ P, Md P → (∀ r ∈ R, P r) → P v
theorem Sp.md (R : List Vc) : Md (Sp R) := ⟨fun P m _ => m.z, fun v w c a b P m h => m.a v w c (a P m h) (b P m h)⟩
theorem Sp.of {R : List Vc} {r : Vc} (h : r ∈ R) : Sp R r := fun P _ q => q r h
theorem Sp.le {R : List Vc} {P : Vc → Prop} {v : Vc} (m : Md P) (h : ∀ r ∈ R, P r) (s : Sp R v) : P v := s P m h
theorem Sp.nil {v : Vc} (h : Sp [] v) : v = vz := h (fun v => v = vz) ⟨rfl, fun v w c a b => by subst a; subst b; funext i; simp [va, vz]⟩ (fun r h => by cases h)
theorem Sp.cons {r : Vc} {R : List Vc} {v : Vc} (h : Sp (r :: R) v) : ∃ c w, Sp R w ∧ v = va w r c := by
  refine h (fun v => ∃ c w, Sp R w ∧ v = va w r c) ⟨⟨0, vz, (Sp.md R).z, by funext i; simp [va, vz]⟩, ?_⟩ ?_
  · rintro v w c ⟨a, p, hp, rfl⟩ ⟨b, q, hq, rfl⟩
    exact ⟨a + c * b, va p q c, (Sp.md R).a p q c hp hq, by funext i; simp only [va]; grind⟩
  · intro q hq
    rcases List.mem_cons.mp hq with rfl | hq
    · exact ⟨1, vz, (Sp.md R).z, by funext i; simp [va, vz]⟩
    · exact ⟨0, q, Sp.of hq, by funext i; simp [va]⟩
theorem Sp.mono {R R' : List Vc} {v : Vc} (h : ∀ r ∈ R, Sp R' r) (s : Sp R v) : Sp R' v := Sp.le (Sp.md R') h s
def SpEq (R R' : List Vc) : Prop := (∀ r ∈ R, Sp R' r) ∧ ∀ r ∈ R', Sp R r
theorem SpEq.refl (R : List Vc) : SpEq R R := ⟨fun _ h => Sp.of h, fun _ h => Sp.of h⟩
theorem SpEq.trans {A B C : List Vc} (h : SpEq A B) (k : SpEq B C) : SpEq A C := ⟨fun r hr => (h.1 r hr).mono k.1, fun r hr => (k.2 r hr).mono h.2⟩
theorem SpEq.symm {A B : List Vc} (h : SpEq A B) : SpEq B A := ⟨h.2, h.1⟩
theorem SpEq.sp {A B : List Vc} (h : SpEq A B) {v : Vc} : Sp A v ↔ Sp B v := ⟨Sp.mono h.1, Sp.mono h.2⟩
theorem SpEq.app {A B C D : List Vc} (h : SpEq A B) (k : SpEq C D) : SpEq (A ++ C) (B ++ D) := by
  constructor
  · intro r hr
    rcases List.mem_append.mp hr with q | q
    · exact (h.1 r q).mono fun x hx => Sp.of (List.mem_append_left _ hx)
    · exact (k.1 r q).mono fun x hx => Sp.of (List.mem_append_right _ hx)
  · intro r hr
    rcases List.mem_append.mp hr with q | q
    · exact (h.2 r q).mono fun x hx => Sp.of (List.mem_append_left _ hx)
    · exact (k.2 r q).mono fun x hx => Sp.of (List.mem_append_right _ hx)
theorem SpEq.perm {A B : List Vc} (h : ∀ r, r ∈ A ↔ r ∈ B) : SpEq A B := ⟨fun r q => Sp.of ((h r).mp q), fun r q => Sp.of ((h r).mpr q)⟩
/-- one Euclid step: (a, b) to (b, a + c b) -/
theorem SpEq.step (a b : Vc) (c : Int) : SpEq [a, b] [b, va a b c] := by
  constructor
  · intro r hr
    simp only [List.mem_cons, List.not_mem_nil, or_false] at hr
    rcases hr with rfl | rfl
    · have : r = va (va r b c) b (-c) := by funext i; simp only [va]; grind
      rw [this]
      exact (Sp.md _).a _ _ _ (Sp.of (by simp [← this])) (Sp.of (by simp))
    · exact Sp.of (by simp)
  · intro r hr
    simp only [List.mem_cons, List.not_mem_nil, or_false] at hr
    rcases hr with rfl | rfl
    · exact Sp.of (by simp)
    · exact (Sp.md _).a _ _ _ (Sp.of (by simp)) (Sp.of (by simp))
/-- a row turned round -/
theorem SpEq.neg (a : Vc) : SpEq [a] [va vz a (-1)] := by
  constructor
  · intro r hr
    simp only [List.mem_cons, List.not_mem_nil, or_false] at hr
    subst hr
    have : r = va vz (va vz r (-1)) (-1) := by funext i; simp [va, vz]
    have h := (Sp.md [va vz r (-1)]).a vz (va vz r (-1)) (-1) (Sp.md _).z (Sp.of (by simp))
    rw [← this] at h
    exact h
  · intro r hr
    simp only [List.mem_cons, List.not_mem_nil, or_false] at hr
    subst hr
    exact (Sp.md _).a _ _ _ (Sp.md _).z (Sp.of (by simp))
/-- a row with another one so many times more -/
theorem SpEq.more (a b : Vc) (c : Int) : SpEq [a, b] [va a b c, b] := by
  refine (SpEq.step a b c).trans (SpEq.perm fun r => ?_)
  simp only [List.mem_cons, List.not_mem_nil, or_false]
  exact Or.comm

/-! ### moves -/
structure Mv where
  x : Int
  y : Int
  s : Int
  deriving DecidableEq, Inhabited
@[ext] theorem Mv.ext' {a b : Mv} (h1 : a.x = b.x) (h2 : a.y = b.y) (h3 : a.s = b.s) : a = b := by
  cases a; cases b; simp_all
def mul (a b : Mv) : Mv := ⟨a.x + b.x, a.y + b.y, a.s + b.s + a.x * b.y⟩
def one : Mv := ⟨0, 0, 0⟩
def inv (a : Mv) : Mv := ⟨-a.x, -a.y, a.x * a.y - a.s⟩
def tri (n : Int) : Int := (n * (n - 1)).fdiv 2
theorem tri2 (n : Int) : 2 * tri n = n * (n - 1) := by
  unfold tri
  have h : n * (n - 1) % 2 = 0 := by
    rcases Int.emod_two_eq n with h | h
    · rw [Int.mul_emod, h]; simp
    · rw [Int.mul_emod, Int.sub_emod, h]; simp
  rw [Int.fdiv_eq_ediv_of_nonneg _ (by decide)]
  omega
def pow (b : Mv) (n : Int) : Mv := ⟨n * b.x, n * b.y, n * b.s + tri n * b.x * b.y⟩
theorem tri_add (m n : Int) : tri (m + n) = tri m + tri n + m * n := by
  have h1 := tri2 (m + n)
  have h2 := tri2 m
  have h3 := tri2 n
  grind
theorem pow_add (b : Mv) (m n : Int) : pow b (m + n) = mul (pow b m) (pow b n) := by
  have h := tri_add m n
  ext <;> simp only [pow, mul] <;> grind
theorem pow_zero (b : Mv) : pow b 0 = one := by ext <;> simp [pow, one, tri]
theorem pow_one (b : Mv) : pow b 1 = b := by ext <;> simp [pow, tri]
theorem mul_assoc (a b c : Mv) : mul (mul a b) c = mul a (mul b c) := by ext <;> simp only [mul] <;> grind
theorem one_mul (a : Mv) : mul one a = a := by ext <;> simp [mul, one]
theorem mul_one (a : Mv) : mul a one = a := by ext <;> simp [mul, one]
theorem inv_mul (a : Mv) : mul (inv a) a = one := by ext <;> simp only [mul, one, inv] <;> grind
def gap (a b : Mv) : Int := a.x * b.y - b.x * a.y
structure Grp (S : Mv → Prop) : Prop where
  o : S one
  m : ∀ a b, S a → S b → S (mul a b)
  i : ∀ a, S a → S (inv a)
def Gen (ms : List Mv) (m : Mv) : Prop := ∀ S, Grp S → (∀ b ∈ ms, S b) → S m
theorem Gen.grp (ms : List Mv) : Grp (Gen ms) := ⟨fun S g _ => g.o, fun a b ha hb S g h => g.m a b (ha S g h) (hb S g h), fun a ha S g h => g.i a (ha S g h)⟩
theorem Gen.of {ms : List Mv} {b : Mv} (h : b ∈ ms) : Gen ms b := fun S _ q => q b h
theorem Gen.le {ms : List Mv} {S : Mv → Prop} {m : Mv} (g : Grp S) (h : ∀ b ∈ ms, S b) (q : Gen ms m) : S m := q S g h
theorem Grp.pown {S : Mv → Prop} (g : Grp S) {b : Mv} (h : S b) : ∀ n : Nat, S (pow b n)
  | 0 => by rw [show ((0 : Nat) : Int) = 0 from rfl, pow_zero]; exact g.o
  | n + 1 => by
    rw [show ((n + 1 : Nat) : Int) = (n : Int) + 1 by omega, pow_add, pow_one]
    exact g.m _ _ (g.pown h n) h
theorem inv_uniq {a b : Mv} (h : mul a b = one) : b = inv a := by
  have := congrArg (mul (inv a)) h
  rw [← mul_assoc, inv_mul, one_mul, mul_one] at this
  exact this
theorem Grp.pow {S : Mv → Prop} (g : Grp S) {b : Mv} (h : S b) (n : Int) : S (pow b n) := by
  rcases Int.le_total 0 n with q | q
  · obtain ⟨k, rfl⟩ := Int.eq_ofNat_of_zero_le q
    exact g.pown h k
  · obtain ⟨k, hk⟩ := Int.eq_ofNat_of_zero_le (show 0 ≤ -n by omega)
    have e : mul (FM.pow b k) (FM.pow b n) = one := by rw [← pow_add, show (k : Int) + n = 0 by omega, pow_zero]
    rw [inv_uniq e]
    exact g.i _ (g.pown h k)

/-! ### presses -/
def press : List Mv → Vc → Mv
  | [], _ => one
  | b :: ms, sh => mul (pow b (sh 0)) (press ms fun j => sh (j + 1))
def smx : List Mv → Vc → Int
  | [], _ => 0
  | b :: ms, sh => sh 0 * b.x + smx ms fun j => sh (j + 1)
def smy : List Mv → Vc → Int
  | [], _ => 0
  | b :: ms, sh => sh 0 * b.y + smy ms fun j => sh (j + 1)
theorem press_x : ∀ (ms : List Mv) (sh : Vc), (press ms sh).x = smx ms sh
  | [], _ => rfl
  | b :: ms, sh => by simp only [press, mul, pow, smx, press_x ms]
theorem press_y : ∀ (ms : List Mv) (sh : Vc), (press ms sh).y = smy ms sh
  | [], _ => rfl
  | b :: ms, sh => by simp only [press, mul, pow, smy, press_y ms]
theorem smx_va : ∀ (ms : List Mv) (v w : Vc) (c : Int), smx ms (va v w c) = smx ms v + c * smx ms w
  | [], v, w, c => by simp [smx]
  | b :: ms, v, w, c => by
    have := smx_va ms (fun j => v (j + 1)) (fun j => w (j + 1)) c
    have e : (fun j => va v w c (j + 1)) = va (fun j => v (j + 1)) (fun j => w (j + 1)) c := rfl
    have ha : va v w c 0 = v 0 + c * w 0 := rfl
    simp only [smx, e, this, ha]
    grind
theorem smy_va : ∀ (ms : List Mv) (v w : Vc) (c : Int), smy ms (va v w c) = smy ms v + c * smy ms w
  | [], v, w, c => by simp [smy]
  | b :: ms, v, w, c => by
    have := smy_va ms (fun j => v (j + 1)) (fun j => w (j + 1)) c
    have e : (fun j => va v w c (j + 1)) = va (fun j => v (j + 1)) (fun j => w (j + 1)) c := rfl
    have ha : va v w c 0 = v 0 + c * w 0 := rfl
    simp only [smy, e, this, ha]
    grind
theorem press_gen (ms : List Mv) : ∀ sh, Gen ms (press ms sh) := by
  have : ∀ (l : List Mv), (∀ b ∈ l, b ∈ ms) → ∀ sh, Gen ms (press l sh) := by
    intro l
    induction l with
    | nil => intro _ _; exact (Gen.grp ms).o
    | cons b l ih =>
      intro h sh
      exact (Gen.grp ms).m _ _ ((Gen.grp ms).pow (Gen.of (h b (by simp))) _) (ih (fun c hc => h c (by simp [hc])) _)
  exact this ms fun _ h => h
theorem gap_press {g : Int} {b : Mv} : ∀ {ms : List Mv}, (∀ c ∈ ms, g ∣ gap b c) → ∀ sh, g ∣ b.x * smy ms sh - smx ms sh * b.y
  | [], _, sh => by simp [smx, smy]
  | c :: ms, h, sh => by
    obtain ⟨p, hp⟩ := h c (by simp)
    obtain ⟨q, hq⟩ := gap_press (ms := ms) (fun c hc => h c (by simp [hc])) fun j => sh (j + 1)
    refine ⟨sh 0 * p + q, ?_⟩
    simp only [smx, smy]
    unfold gap at hp
    grind
/-- presses added are presses one behind the other, up to gaps -/
theorem press_add {g : Int} : ∀ {ms : List Mv}, (∀ b ∈ ms, ∀ c ∈ ms, g ∣ gap b c) → ∀ (v w : Vc), g ∣ (press ms (va v w 1)).s - ((press ms v).s + (press ms w).s + smx ms v * smy ms w)
  | [], _, v, w => by simp [press, one, smx]
  | b :: ms, h, v, w => by
    obtain ⟨p, hp⟩ := press_add (ms := ms) (fun b hb c hc => h b (by simp [hb]) c (by simp [hc])) (fun j => v (j + 1)) (fun j => w (j + 1))
    obtain ⟨q, hq⟩ := gap_press (g := g) (b := b) (ms := ms) (fun c hc => h b (by simp) c (by simp [hc])) fun j => v (j + 1)
    refine ⟨p + w 0 * q, ?_⟩
    have e : (fun j => va v w 1 (j + 1)) = va (fun j => v (j + 1)) (fun j => w (j + 1)) 1 := rfl
    have ha : va v w 1 0 = v 0 + w 0 := by simp [va]
    have ht := tri_add (v 0) (w 0)
    have hy := smy_va ms (fun j => v (j + 1)) (fun j => w (j + 1)) 1
    simp only [press, mul, pow, smx, smy, e, ha, press_y, hy, ht]
    grind
theorem press_zero : ∀ ms : List Mv, press ms vz = one
  | [] => rfl
  | b :: ms => by
    show mul (pow b 0) (press ms vz) = one
    rw [press_zero ms, pow_zero, one_mul]

/-! ### rows of moves -/
def tl (v : Vc) : Vc := fun j => v (j + 2)
def row (o : Nat) (b : Mv) : Vc := fun i => if i = 0 then b.x else if i = 1 then b.y else if i = o + 2 then 1 else 0
def rowsFrom (o : Nat) : List Mv → List Vc
  | [] => []
  | b :: ms => row o b :: rowsFrom (o + 1) ms
def LinV (ms : List Mv) (v : Vc) : Prop := v 0 = smx ms (tl v) ∧ v 1 = smy ms (tl v) ∧ ∀ j, ms.length ≤ j → v (j + 2) = 0
theorem tl_va (v w : Vc) (c : Int) : tl (va v w c) = va (tl v) (tl w) c := rfl
theorem smx_vz : ∀ ms, smx ms vz = 0
  | [] => rfl
  | b :: ms => by
    have := smx_vz ms
    show 0 * b.x + smx ms vz = 0
    rw [this]; simp
theorem smy_vz : ∀ ms, smy ms vz = 0
  | [] => rfl
  | b :: ms => by
    have := smy_vz ms
    show 0 * b.y + smy ms vz = 0
    rw [this]; simp
theorem LinV.md (ms : List Mv) : Md (LinV ms) := by
  refine ⟨⟨(smx_vz ms).symm, (smy_vz ms).symm, fun _ _ => rfl⟩, ?_⟩
  rintro v w c ⟨a1, a2, a3⟩ ⟨b1, b2, b3⟩
  refine ⟨?_, ?_, fun j hj => ?_⟩
  · rw [tl_va, smx_va, ← a1, ← b1]; rfl
  · rw [tl_va, smy_va, ← a2, ← b2]; rfl
  · show v (j + 2) + c * w (j + 2) = 0
    rw [a3 j hj, b3 j hj]; simp
def dl (j : Nat) : Vc := fun i => if i = j then 1 else 0
theorem dl_succ (j : Nat) : (fun i => dl (j + 1) (i + 1)) = dl j := by funext i; simp [dl]
theorem dl_zero : (fun i => dl 0 (i + 1)) = vz := by funext i; simp [dl, vz]
theorem smx_dl : ∀ (ms : List Mv) (j : Nat) (b : Mv), ms[j]? = some b → smx ms (dl j) = b.x
  | [], j, b, h => by simp at h
  | c :: ms, 0, b, h => by
    simp at h; subst h
    simp only [smx, dl_zero, smx_vz]
    simp [dl]
  | c :: ms, j + 1, b, h => by
    have := smx_dl ms j b (by simpa using h)
    simp only [smx, dl_succ, this]
    simp [dl]
theorem smy_dl : ∀ (ms : List Mv) (j : Nat) (b : Mv), ms[j]? = some b → smy ms (dl j) = b.y
  | [], j, b, h => by simp at h
  | c :: ms, 0, b, h => by
    simp at h; subst h
    simp only [smy, dl_zero, smy_vz]
    simp [dl]
  | c :: ms, j + 1, b, h => by
    have := smy_dl ms j b (by simpa using h)
    simp only [smy, dl_succ, this]
    simp [dl]
theorem press_dl : ∀ (ms : List Mv) (j : Nat) (b : Mv), ms[j]? = some b → press ms (dl j) = b
  | [], j, b, h => by simp at h
  | c :: ms, 0, b, h => by
    simp at h; subst h
    simp only [press, dl_zero, press_zero]
    rw [mul_one]
    simp [dl, pow_one]
  | c :: ms, j + 1, b, h => by
    have := press_dl ms j b (by simpa using h)
    simp only [press, dl_succ, this]
    have e : dl (j + 1) 0 = 0 := by simp [dl]
    rw [e, pow_zero, one_mul]
theorem rows_mem {ms : List Mv} : ∀ {o : Nat} {r : Vc}, r ∈ rowsFrom o ms → ∃ j b, ms[j]? = some b ∧ r = row (o + j) b := by
  induction ms with
  | nil => intro o r h; cases h
  | cons c ms ih =>
    intro o r h
    rcases List.mem_cons.mp h with rfl | h
    · exact ⟨0, c, rfl, rfl⟩
    · obtain ⟨j, b, e, rfl⟩ := ih h
      exact ⟨j + 1, b, by simpa using e, by rw [show o + 1 + j = o + (j + 1) by omega]⟩
theorem row_lin {ms : List Mv} {r : Vc} (h : r ∈ rowsFrom 0 ms) : LinV ms r := by
  obtain ⟨j, b, e, rfl⟩ := rows_mem h
  have hl := (List.getElem?_eq_some_iff.mp e).1
  have et : tl (row (0 + j) b) = dl j := by
    funext i
    simp only [tl, row, dl]
    by_cases h : i = j <;> simp [h]
  refine ⟨?_, ?_, fun k hk => ?_⟩
  · rw [et, smx_dl ms j b e]; rfl
  · rw [et, smy_dl ms j b e]; rfl
  · show (if k + 2 = 0 then _ else if k + 2 = 1 then _ else if k + 2 = 0 + j + 2 then 1 else 0) = 0
    rw [if_neg (by omega), if_neg (by omega), if_neg (by omega)]
theorem lin_sp : ∀ (ms : List Mv) (o : Nat) (v : Vc), v 0 = smx ms (fun j => v (j + o + 2)) → v 1 = smy ms (fun j => v (j + o + 2)) → (∀ j, (j < o ∨ o + ms.length ≤ j) → v (j + 2) = 0) → Sp (rowsFrom o ms) v
  | [], o, v, h0, h1, h2 => by
    have : v = vz := by
      funext i
      match i with
      | 0 => exact h0
      | 1 => exact h1
      | i + 2 => exact h2 i (by simp; omega)
    rw [this]
    exact (Sp.md _).z
  | b :: ms, o, v, h0, h1, h2 => by
    have hr : ∀ j, j ≠ o → row o b (j + 2) = 0 := fun j hj => by
      show (if j + 2 = 0 then _ else if j + 2 = 1 then _ else if j + 2 = o + 2 then 1 else 0) = 0
      rw [if_neg (by omega), if_neg (by omega), if_neg (by omega)]
    have ho : row o b (o + 2) = 1 := by
      show (if o + 2 = 0 then _ else if o + 2 = 1 then _ else if o + 2 = o + 2 then 1 else 0) = (1 : Int)
      rw [if_neg (by omega), if_neg (by omega), if_pos rfl]
    have es : (fun j => va v (row o b) (-v (o + 2)) (j + (o + 1) + 2)) = fun j => v (j + 1 + o + 2) := by
      funext j
      have := hr (j + (o + 1)) (by omega)
      show v (j + (o + 1) + 2) + _ * row o b (j + (o + 1) + 2) = _
      rw [this, show j + (o + 1) + 2 = j + 1 + o + 2 by omega]
      simp
    have h0' : v 0 = v (o + 2) * b.x + smx ms fun j => v (j + 1 + o + 2) := by
      have := h0
      simp only [smx, Nat.zero_add] at this
      exact this
    have h1' : v 1 = v (o + 2) * b.y + smy ms fun j => v (j + 1 + o + 2) := by
      have := h1
      simp only [smy, Nat.zero_add] at this
      exact this
    have ih := lin_sp ms (o + 1) (va v (row o b) (-v (o + 2))) (by
        rw [es]
        show v 0 + _ * b.x = _
        rw [h0']; grind) (by
        rw [es]
        show v 1 + _ * b.y = _
        rw [h1']; grind) (fun j hj => by
        show v (j + 2) + _ * row o b (j + 2) = 0
        by_cases e : j = o
        · subst e
          rw [ho]; omega
        · rw [hr j e, h2 j (by simp; omega)]; simp)
    have e2 : v = va (va v (row o b) (-v (o + 2))) (row o b) (v (o + 2)) := by funext i; simp only [va]; grind
    rw [e2]
    exact (Sp.md _).a _ _ _ (ih.mono fun r hr => Sp.of (List.mem_cons_of_mem _ hr)) (Sp.of (List.mem_cons_self ..))
theorem lin_iff {ms : List Mv} {v : Vc} : LinV ms v ↔ Sp (rowsFrom 0 ms) v :=
  ⟨fun h => lin_sp ms 0 v h.1 h.2.1 fun j hj => h.2.2 j (by simp at hj; exact hj), fun h => Sp.le (LinV.md ms) (fun _ => row_lin) h⟩

/-! ### what presses make, up to a step -/
def SS (ms : List Mv) (g : Int) (m : Mv) : Prop := ∃ sh : Vc, smx ms sh = m.x ∧ smy ms sh = m.y ∧ g ∣ m.s - (press ms sh).s ∧ ∀ j, ms.length ≤ j → sh j = 0
def GapOk (ms : List Mv) (g : Int) : Prop := ∀ b ∈ ms, ∀ c ∈ ms, g ∣ gap b c
theorem SS.grp {ms : List Mv} {g : Int} (hg : GapOk ms g) : Grp (SS ms g) := by
  have hm : ∀ a b, SS ms g a → SS ms g b → SS ms g (mul a b) := by
    rintro a b ⟨v, v1, v2, ⟨p, hp⟩, v4⟩ ⟨w, w1, w2, ⟨q, hq⟩, w4⟩
    obtain ⟨r, hr⟩ := press_add hg v w
    refine ⟨va v w 1, ?_, ?_, ⟨p + q - r, ?_⟩, fun j hj => ?_⟩
    · rw [smx_va, v1, w1]; simp [mul]
    · rw [smy_va, v2, w2]; simp [mul]
    · simp only [mul]
      rw [v1, w2] at hr
      grind
    · show v j + 1 * w j = 0
      rw [v4 j hj, w4 j hj]; rfl
  refine ⟨⟨vz, smx_vz ms, smy_vz ms, by rw [press_zero]; exact ⟨0, by simp [one]⟩, fun _ _ => rfl⟩, hm, ?_⟩
  rintro a ⟨v, v1, v2, ⟨p, hp⟩, v4⟩
  have e : va v (va vz v (-1)) 1 = vz := by funext i; simp [va, vz]; omega
  obtain ⟨r, hr⟩ := press_add hg v (va vz v (-1))
  rw [e, press_zero, v1, smy_va, smy_vz, v2] at hr
  refine ⟨va vz v (-1), ?_, ?_, ⟨r - p, ?_⟩, fun j hj => ?_⟩
  · rw [smx_va, smx_vz, v1]; simp [inv]
  · rw [smy_va, smy_vz, v2]; simp [inv]
  · simp only [inv, one] at hr ⊢
    grind
  · show 0 + -1 * v j = 0
    rw [v4 j hj]; rfl
theorem SS.of {ms : List Mv} {g : Int} {b : Mv} (h : b ∈ ms) : SS ms g b := by
  obtain ⟨j, hj⟩ := List.mem_iff_getElem?.mp h
  have hl := (List.getElem?_eq_some_iff.mp hj).1
  refine ⟨dl j, smx_dl ms j b hj, smy_dl ms j b hj, by rw [press_dl ms j b hj]; exact ⟨0, by simp⟩, fun i hi => ?_⟩
  simp only [dl]
  rw [if_neg (by omega)]
theorem SS.press {ms : List Mv} {g : Int} {sh : Vc} (h : ∀ j, ms.length ≤ j → sh j = 0) : SS ms g (FM.press ms sh) := ⟨sh, (press_x ms sh).symm, (press_y ms sh).symm, ⟨0, by simp⟩, h⟩
theorem SS.shift {ms : List Mv} {g : Int} {m m' : Mv} (h : SS ms g m) (hx : m'.x = m.x) (hy : m'.y = m.y) (hs : g ∣ m'.s - m.s) : SS ms g m' := by
  obtain ⟨sh, h1, h2, ⟨p, hp⟩, h4⟩ := h
  obtain ⟨q, hq⟩ := hs
  exact ⟨sh, h1.trans hx.symm, h2.trans hy.symm, ⟨p + q, by grind⟩, h4⟩
theorem SS.gen {ms : List Mv} {g : Int} {m : Mv} (hg : Gen ms ⟨0, 0, g⟩) (h : SS ms g m) : Gen ms m := by
  obtain ⟨sh, h1, h2, ⟨p, hp⟩, h4⟩ := h
  have G := Gen.grp ms
  have e : m = mul (FM.press ms sh) (FM.pow ⟨0, 0, g⟩ p) := by
    ext
    · simp [mul, FM.pow, press_x, h1]
    · simp [mul, FM.pow, press_y, h2]
    · simp only [mul, FM.pow]; grind
  rw [e]
  exact G.m _ _ (press_gen ms sh) (G.pow hg p)
/-! ### forms -/
/-- what a shape is: rows of the east and of the north, if any, the rests; with the rows of the moves they make the same -/
structure Shp (ms : List Mv) (E N : Option Vc) (rs : List Vc) : Prop where
  sp : SpEq (E.toList ++ (N.toList ++ rs)) (rowsFrom 0 ms)
  e0 : ∀ e, E = some e → 0 < e 0
  n0 : ∀ n, N = some n → n 0 = 0 ∧ 0 < n 1
  r0 : ∀ r ∈ rs, r 0 = 0 ∧ r 1 = 0
theorem md_of {P : Vc → Prop} (z : P vz) (a : ∀ v w, P v → P w → P (va v w 1)) (b : ∀ v w, P v → P w → P (va v w (-1))) : Md P := by
  refine ⟨z, fun v w c hv hw => ?_⟩
  have up : ∀ n : Nat, P (va v w n) := by
    intro n
    induction n with
    | zero =>
      have : va v w ((0 : Nat) : Int) = v := by funext i; simp [va]
      rw [this]; exact hv
    | succ n ih =>
      have : va v w ((n + 1 : Nat) : Int) = va (va v w n) w 1 := by funext i; simp only [va]; grind
      rw [this]; exact a _ _ ih hw
  have dn : ∀ n : Nat, P (va v w (-(n : Int))) := by
    intro n
    induction n with
    | zero =>
      have : va v w (-((0 : Nat) : Int)) = v := by funext i; simp [va]
      rw [this]; exact hv
    | succ n ih =>
      have : va v w (-((n + 1 : Nat) : Int)) = va (va v w (-(n : Int))) w (-1) := by funext i; simp only [va]; grind
      rw [this]; exact b _ _ ih hw
  rcases Int.le_total 0 c with h | h
  · obtain ⟨k, rfl⟩ := Int.eq_ofNat_of_zero_le h
    exact up k
  · obtain ⟨k, hk⟩ := Int.eq_ofNat_of_zero_le (show 0 ≤ -c by omega)
    have : c = -(k : Int) := by omega
    rw [this]; exact dn k
theorem sp_opt {E : Option Vc} {R : List Vc} {v : Vc} (h : Sp (E.toList ++ R) v) : ∃ a w, Sp R w ∧ v = va w (E.getD vz) a := by
  cases E with
  | none => exact ⟨0, v, h, by funext i; simp [va]⟩
  | some e => exact Sp.cons h
/-- presses that come to no steps come to multiples of the step -/
theorem Shp.ker {ms : List Mv} {E N : Option Vc} {rs : List Vc} {g : Int} (S : Shp ms E N rs) (hk : GapOk ms g) (hr : ∀ r ∈ rs, g ∣ (FM.press ms (tl r)).s) {m : Mv} (h : SS ms g m) (hx : m.x = 0) (hy : m.y = 0) : g ∣ m.s := by
  obtain ⟨sh, h1, h2, h3, h4⟩ := h
  let v : Vc := fun i => match i with
    | 0 => 0
    | 1 => 0
    | i + 2 => sh i
  have etl : tl v = sh := rfl
  have lv : LinV ms v := ⟨by rw [etl, h1, hx], by rw [etl, h2, hy], h4⟩
  have sv := S.sp.sp.mpr (lin_iff.mp lv)
  obtain ⟨a, w, sw, ev⟩ := sp_opt sv
  obtain ⟨b, u, su, ew⟩ := sp_opt sw
  have mdr : Md fun q : Vc => q 0 = 0 ∧ q 1 = 0 := ⟨⟨rfl, rfl⟩, fun p q c hp hq => ⟨by simp [va, hp.1, hq.1], by simp [va, hp.2, hq.2]⟩⟩
  have u0 := Sp.le mdr S.r0 su
  have n00 : (N.getD vz) 0 = 0 := by
    cases N with
    | none => rfl
    | some n => exact (S.n0 n rfl).1
  have v0 : a * (E.getD vz) 0 = 0 := by
    have := congrFun ev 0
    have e0 : v 0 = 0 := rfl
    rw [e0, ew] at this
    simp only [va, u0.1, n00] at this
    omega
  have aE : va w (E.getD vz) a = w := by
    cases E with
    | none => funext i; simp [va, vz]
    | some e =>
      have := S.e0 e rfl
      have : a = 0 := by
        rcases Int.mul_eq_zero.mp v0 with q | q
        · exact q
        · simp at q; omega
      subst this
      funext i; simp [va]
  rw [aE] at ev
  have v1 : b * (N.getD vz) 1 = 0 := by
    have := congrFun ev 1
    have e0 : v 1 = 0 := rfl
    rw [e0, ew] at this
    simp only [va, u0.2] at this
    omega
  have bN : va u (N.getD vz) b = u := by
    cases N with
    | none => funext i; simp [va, vz]
    | some n =>
      have := (S.n0 n rfl).2
      have : b = 0 := by
        rcases Int.mul_eq_zero.mp v1 with q | q
        · exact q
        · simp at q; omega
      subst this
      funext i; simp [va]
  rw [bN] at ew
  rw [ew] at ev
  have mdp : Md fun q : Vc => LinV ms q ∧ (q 0 = 0 ∧ q 1 = 0) ∧ g ∣ (FM.press ms (tl q)).s := by
    have key : ∀ p q : Vc, LinV ms p → LinV ms q → p 0 = 0 → q 1 = 0 → g ∣ (FM.press ms (tl (va p q 1))).s - ((FM.press ms (tl p)).s + (FM.press ms (tl q)).s) := by
      intro p q lp lq p0 q1
      have := press_add hk (tl p) (tl q)
      rw [← lp.1, p0, ← lq.2.1, q1, Int.mul_zero, Int.add_zero] at this
      exact this
    refine md_of ⟨(LinV.md ms).z, ⟨rfl, rfl⟩, ?_⟩ ?_ ?_
    · have : tl vz = vz := rfl
      rw [this, press_zero]; exact ⟨0, by simp [one]⟩
    · rintro p q ⟨lp, ⟨p0, p1⟩, ⟨x, hx⟩⟩ ⟨lq, ⟨q0, q1⟩, ⟨y, hy⟩⟩
      obtain ⟨z, hz⟩ := key p q lp lq p0 q1
      exact ⟨(LinV.md ms).a _ _ _ lp lq, ⟨by simp [va, p0, q0], by simp [va, p1, q1]⟩, ⟨x + y + z, by grind⟩⟩
    · rintro p q ⟨lp, ⟨p0, p1⟩, ⟨x, hx⟩⟩ ⟨lq, ⟨q0, q1⟩, ⟨y, hy⟩⟩
      have lr := (LinV.md ms).a p q (-1) lp lq
      obtain ⟨z, hz⟩ := key (va p q (-1)) q lr lq (by simp [va, p0, q0]) q1
      have e : va (va p q (-1)) q 1 = p := by funext i; simp only [va]; grind
      rw [e] at hz
      exact ⟨lr, ⟨by simp [va, p0, q0], by simp [va, p1, q1]⟩, ⟨x - y - z, by grind⟩⟩
  have fin := Sp.le mdp (fun r hr' => ⟨lin_iff.mpr (S.sp.sp.mp (Sp.of (List.mem_append_right _ (List.mem_append_right _ hr')))), S.r0 r hr', hr r hr'⟩) su
  rw [← ev, etl] at fin
  obtain ⟨p, hp⟩ := fin.2.2
  obtain ⟨q, hq⟩ := h3
  exact ⟨p + q, by grind⟩
/-- two made moves of the same steps: their areas differ by the step -/
theorem Shp.same {ms : List Mv} {E N : Option Vc} {rs : List Vc} {g : Int} (S : Shp ms E N rs) (hk : GapOk ms g) (hr : ∀ r ∈ rs, g ∣ (FM.press ms (tl r)).s) {m m' : Mv} (h : SS ms g m) (h' : SS ms g m') (hx : m.x = m'.x) (hy : m.y = m'.y) : g ∣ m.s - m'.s := by
  have G := SS.grp hk
  have q := S.ker hk hr (G.m _ _ h (G.i _ h')) (by simp [mul, inv, hx]; omega) (by simp [mul, inv, hy]; omega)
  have e : (mul m (inv m')).s = m.s - m'.s := by simp only [mul, inv]; rw [hx]; grind
  rw [e] at q
  exact q
/-- the move of a row, its area made less by a multiple of the step -/
def Bnd (ms : List Mv) (g : Int) (E : Option Vc) (e : Option Mv) : Prop := match E, e with
  | none, none => True
  | some v, some m => m.x = v 0 ∧ m.y = v 1 ∧ g ∣ m.s - (FM.press ms (tl v)).s
  | _, _ => False
theorem Bnd.ss {ms : List Mv} {E N : Option Vc} {rs : List Vc} {g : Int} {v : Vc} {m : Mv} (lv : LinV ms v) (h : Bnd ms g (some v) (some m)) : SS ms g m := by
  obtain ⟨h1, h2, h3⟩ := h
  exact ⟨tl v, by rw [← lv.1, h1], by rw [← lv.2.1, h2], h3, lv.2.2⟩
def led (e n : Option Mv) (a b : Int) : Mv := mul (FM.pow (e.getD one) a) (FM.pow (n.getD one) b)
theorem Shp.told {ms : List Mv} {E N : Option Vc} {rs : List Vc} {g : Int} {e n : Option Mv} (S : Shp ms E N rs) (hk : GapOk ms g) (hr : ∀ r ∈ rs, g ∣ (FM.press ms (tl r)).s) (he : Bnd ms g E e) (hn : Bnd ms g N n) (m : Mv) :
    SS ms g m ↔ ∃ a b, m.x = (led e n a b).x ∧ m.y = (led e n a b).y ∧ g ∣ m.s - (led e n a b).s := by
  have G := SS.grp hk
  have lin : ∀ v, v ∈ E.toList ++ (N.toList ++ rs) → LinV ms v := fun v hv => lin_iff.mpr (S.sp.sp.mp (Sp.of hv))
  have se : SS ms g (e.getD one) := by
    cases e with
    | none => exact G.o
    | some m =>
      cases E with
      | none => exact he.elim
      | some v => exact Bnd.ss (E := none) (N := none) (rs := []) (lin v (by simp)) he
  have sn : SS ms g (n.getD one) := by
    cases n with
    | none => exact G.o
    | some m =>
      cases N with
      | none => exact hn.elim
      | some v => exact Bnd.ss (E := none) (N := none) (rs := []) (lin v (by simp)) hn
  have sl : ∀ a b, SS ms g (led e n a b) := fun a b => G.m _ _ (G.pow se a) (G.pow sn b)
  constructor
  · intro h
    obtain ⟨sh, h1, h2, h3, h4⟩ := id h
    let v : Vc := fun i => match i with
      | 0 => m.x
      | 1 => m.y
      | i + 2 => sh i
    have lv : LinV ms v := ⟨h1.symm, h2.symm, h4⟩
    have sv := S.sp.sp.mpr (lin_iff.mp lv)
    obtain ⟨a, w, sw, ev⟩ := sp_opt sv
    obtain ⟨b, u, su, ew⟩ := sp_opt sw
    have mdr : Md fun q : Vc => q 0 = 0 ∧ q 1 = 0 := ⟨⟨rfl, rfl⟩, fun p q c hp hq => ⟨by simp [va, hp.1, hq.1], by simp [va, hp.2, hq.2]⟩⟩
    have u0 := Sp.le mdr S.r0 su
    have ex : (e.getD one).x = (E.getD vz) 0 ∧ (e.getD one).y = (E.getD vz) 1 := by
      cases e with
      | none =>
        cases E with
        | none => exact ⟨rfl, rfl⟩
        | some v => exact he.elim
      | some m =>
        cases E with
        | none => exact he.elim
        | some v => exact ⟨he.1, he.2.1⟩
    have nx : (n.getD one).x = (N.getD vz) 0 ∧ (n.getD one).y = (N.getD vz) 1 := by
      cases n with
      | none =>
        cases N with
        | none => exact ⟨rfl, rfl⟩
        | some v => exact hn.elim
      | some m =>
        cases N with
        | none => exact hn.elim
        | some v => exact ⟨hn.1, hn.2.1⟩
    have x1 : m.x = (led e n a b).x := by
      have := congrFun ev 0
      rw [ew] at this
      simp only [va, u0.1] at this
      simp only [led, mul, FM.pow, ex.1, nx.1]
      show v 0 = _
      rw [this]; omega
    have y1 : m.y = (led e n a b).y := by
      have := congrFun ev 1
      rw [ew] at this
      simp only [va, u0.2] at this
      simp only [led, mul, FM.pow, ex.2, nx.2]
      show v 1 = _
      rw [this]; omega
    exact ⟨a, b, x1, y1, S.same hk hr h (sl a b) x1 y1⟩
  · rintro ⟨a, b, hx, hy, hs⟩
    exact (sl a b).shift hx hy hs

/-! ### Euclid -/
/-- one turn of Euclid's loop, of any signs: b is not 0 -/
theorem eu_pos {a b : Int} (hb : 0 < b) : (a + -(a.fdiv b) * b).natAbs < b.natAbs ∧ 0 ≤ (a + -(a.fdiv b) * b) * b ∧ (a.fdiv b).natAbs * b.natAbs ≤ a.natAbs + (a + -(a.fdiv b) * b).natAbs ∧ (0 ≤ a * b → (a.fdiv b).natAbs * b.natAbs + (a + -(a.fdiv b) * b).natAbs = a.natAbs) := by
  rw [Int.fdiv_eq_ediv_of_nonneg _ (by omega)]
  have h1 := Int.emod_nonneg a (show b ≠ 0 by omega)
  have h2 := Int.emod_lt_of_pos a hb
  have h3 := Int.mul_ediv_add_emod a b
  have e : a + -(a / b) * b = a % b := by grind
  rw [e]
  have m : (a / b).natAbs * b.natAbs = (a / b * b).natAbs := (Int.natAbs_mul _ _).symm
  rw [m]
  have e2 : a / b * b = a - a % b := by grind
  rw [e2]
  refine ⟨by omega, Int.mul_nonneg h1 (by omega), by omega, fun h => ?_⟩
  have ha : 0 ≤ a := by
    rcases Int.lt_or_le a 0 with q | q
    · have := Int.mul_neg_of_neg_of_pos q hb
      omega
    · exact q
  have hle : 0 ≤ a / b * b := Int.mul_nonneg (Int.ediv_nonneg ha (by omega)) (by omega)
  omega
theorem eu {a b : Int} (hb : b ≠ 0) : (a + -(a.fdiv b) * b).natAbs < b.natAbs ∧ 0 ≤ (a + -(a.fdiv b) * b) * b ∧ (a.fdiv b).natAbs * b.natAbs ≤ a.natAbs + (a + -(a.fdiv b) * b).natAbs ∧ (0 ≤ a * b → (a.fdiv b).natAbs * b.natAbs + (a + -(a.fdiv b) * b).natAbs = a.natAbs) := by
  rcases Int.lt_or_gt_of_ne hb with h | h
  · have q := eu_pos (a := -a) (b := -b) (by omega)
    rw [Int.neg_fdiv_neg] at q
    have e : -a + -(a.fdiv b) * -b = -(a + -(a.fdiv b) * b) := by grind
    rw [e, Int.natAbs_neg, Int.natAbs_neg, Int.natAbs_neg, Int.neg_mul_neg, Int.neg_mul_neg] at q
    exact q
  · exact eu_pos h
/-- sizes through the loop: f, s: the numbers at hand, mf, ms: how great the rows may be -/
structure Eu (W A : Nat) (f s : Int) (mf ms : Nat) : Prop where
  ff : f ≠ 0
  fa : f.natAbs ≤ A
  sa : s.natAbs ≤ A
  sg : 0 ≤ f * s ∨ mf * s.natAbs + ms * f.natAbs + 2 * (ms * s.natAbs) ≤ W
  w : mf * s.natAbs + ms * f.natAbs ≤ W
  mf : mf ≤ W
theorem Eu.step {W A : Nat} {f s : Int} {mf ms : Nat} (h : Eu W A f s mf ms) (hs : s ≠ 0) : Eu W A s (f + -(f.fdiv s) * s) ms (mf + (f.fdiv s).natAbs * ms) ∧ (f + -(f.fdiv s) * s).natAbs < s.natAbs ∧ (f.fdiv s).natAbs ≤ 2 * A := by
  obtain ⟨e1, e2, e3, e4⟩ := eu (a := f) hs
  have hf := h.ff
  have hfa := h.fa
  have hsa := h.sa
  have hw := h.w
  have hsg := h.sg
  generalize f + -(f.fdiv s) * s = r at *
  generalize (f.fdiv s).natAbs = q at *
  have s1 : 1 ≤ s.natAbs := by omega
  have f1 : 1 ≤ f.natAbs := by omega
  have hq : q ≤ 2 * A := by
    have : q * 1 ≤ q * s.natAbs := Nat.mul_le_mul_left q s1
    omega
  have mq : (mf + q * ms) * s.natAbs = mf * s.natAbs + ms * (q * s.natAbs) := by grind
  refine ⟨⟨hs, hsa, by omega, .inl (by rw [Int.mul_comm]; exact e2), ?_, ?_⟩, e1, hq⟩
  · rw [mq]
    rcases hsg with g | g
    · have := e4 g
      have e : ms * r.natAbs + (mf * s.natAbs + ms * (q * s.natAbs)) = mf * s.natAbs + ms * (q * s.natAbs + r.natAbs) := by grind
      rw [e, this]; exact hw
    · have h1 : ms * (q * s.natAbs) ≤ ms * (f.natAbs + r.natAbs) := Nat.mul_le_mul_left ms e3
      have h2 : ms * r.natAbs ≤ ms * s.natAbs := Nat.mul_le_mul_left ms (by omega)
      have h3 : ms * (f.natAbs + r.natAbs) = ms * f.natAbs + ms * r.natAbs := Nat.mul_add ..
      omega
  · have : ms * 1 ≤ ms * f.natAbs := Nat.mul_le_mul_left ms f1
    omega
theorem Eu.start {A m : Nat} {f s : Int} (hf : f ≠ 0) (hA : f.natAbs ≤ A) (hB : s.natAbs ≤ A) (ha : 1 ≤ A) : Eu (4 * (m * A)) A f s m m := by
  have h1 : m * s.natAbs ≤ m * A := Nat.mul_le_mul_left m hB
  have h2 : m * f.natAbs ≤ m * A := Nat.mul_le_mul_left m hA
  have h3 : m * 1 ≤ m * A := Nat.mul_le_mul_left m ha
  exact ⟨hf, hA, hB, .inr (by omega), by omega, by omega⟩
/-- behind the loop -/
theorem Eu.ms {W A : Nat} {f s : Int} {mf ms : Nat} (h : Eu W A f s mf ms) : ms ≤ W := by
  have f1 : 1 ≤ f.natAbs := by have := h.ff; omega
  have := h.w
  have h3 : ms * 1 ≤ ms * f.natAbs := Nat.mul_le_mul_left ms f1
  omega
/-! ### forms are told apart by what they tell -/
structure Canon (S : Mv → Prop) (e n : Option Mv) (g : Nat) : Prop where
  gen : ∀ m, S m ↔ ∃ a b, m.x = (led e n a b).x ∧ m.y = (led e n a b).y ∧ (g : Int) ∣ m.s - (led e n a b).s
  eo : ∀ m, e = some m → 0 < m.x ∧ (g ≠ 0 → 0 ≤ m.s ∧ m.s < g)
  no : ∀ m, n = some m → m.x = 0 ∧ 0 < m.y ∧ (g ≠ 0 → 0 ≤ m.s ∧ m.s < g)
  eno : ∀ m k, e = some m → n = some k → 0 ≤ m.y ∧ m.y < k.y
theorem led_x {e n : Option Mv} {a b : Int} : (led e n a b).x = a * (e.getD one).x + b * (n.getD one).x := rfl
theorem led_y {e n : Option Mv} {a b : Int} : (led e n a b).y = a * (e.getD one).y + b * (n.getD one).y := rfl
theorem Canon.n0 {S : Mv → Prop} {e n : Option Mv} {g : Nat} (h : Canon S e n g) : (n.getD one).x = 0 := by
  cases n with
  | none => rfl
  | some k => exact (h.no k rfl).1
theorem led_a0 {e n : Option Mv} {b : Int} : led e n 0 b = pow (n.getD one) b := by
  unfold led; rw [pow_zero, one_mul]
theorem led_10 {e n : Option Mv} : led e n 1 0 = e.getD one := by
  unfold led; rw [pow_one, pow_zero, mul_one]
theorem led_01 {e n : Option Mv} : led e n 0 1 = n.getD one := by
  rw [led_a0, pow_one]
theorem pow_one_ (b : Int) : pow one b = one := by
  refine Mv.ext' ?_ ?_ ?_ <;> simp [pow, one]
theorem Canon.led_in {S : Mv → Prop} {e n : Option Mv} {g : Nat} (h : Canon S e n g) (a b : Int) : S (led e n a b) := (h.gen _).mpr ⟨a, b, rfl, rfl, ⟨0, by simp⟩⟩
/-- moves without steps east -/
theorem Canon.x0 {S : Mv → Prop} {e n : Option Mv} {g : Nat} (h : Canon S e n g) {m : Mv} (hm : S m) (hx : m.x = 0) : ∃ b, m.y = b * (n.getD one).y ∧ (g : Int) ∣ m.s - (pow (n.getD one) b).s := by
  obtain ⟨a, b, h1, h2, h3⟩ := (h.gen m).mp hm
  rw [led_x, h.n0, hx] at h1
  have a0 : led e n a b = led e n 0 b := by
    cases e with
    | none =>
      unfold led
      show mul (pow one a) _ = mul (pow one 0) _
      rw [pow_one_, pow_one_]
    | some k =>
      have k0 := (h.eo k rfl).1
      have : a * k.x = 0 := by simpa using h1.symm
      rcases Int.mul_eq_zero.mp this with q | q
      · rw [q]
      · omega
  rw [a0] at h2 h3
  rw [led_a0] at h2 h3
  exact ⟨b, h2, h3⟩
theorem Canon.z {S : Mv → Prop} {e n : Option Mv} {g : Nat} (h : Canon S e n g) (s : Int) : S ⟨0, 0, s⟩ ↔ (g : Int) ∣ s := by
  constructor
  · intro hm
    obtain ⟨b, h2, h3⟩ := h.x0 hm rfl
    have : pow (n.getD one) b = one := by
      cases n with
      | none => exact pow_one_ b
      | some k =>
        have k0 := (h.no k rfl).2.1
        have : b * k.y = 0 := h2.symm
        rcases Int.mul_eq_zero.mp this with q | q
        · rw [q, pow_zero]
        · omega
    rw [this] at h3
    simpa [one] using h3
  · intro hs
    exact (h.gen _).mpr ⟨0, 0, by rw [led_a0, pow_zero]; rfl, by rw [led_a0, pow_zero]; rfl, by rw [led_a0, pow_zero]; simpa [one] using hs⟩
theorem red_eq {g : Nat} {s t : Int} (hd : (g : Int) ∣ s - t) (hs : g ≠ 0 → 0 ≤ s ∧ s < g) (ht : g ≠ 0 → 0 ≤ t ∧ t < g) : s = t := by
  obtain ⟨k, hk⟩ := hd
  by_cases h : g = 0
  · subst h; simp at hk; omega
  · obtain ⟨s0, s1⟩ := hs h
    obtain ⟨t0, t1⟩ := ht h
    have hk0 : k = 0 := by
      rcases Int.lt_trichotomy k 0 with q | q | q
      · have : (g : Int) * k ≤ (g : Int) * (-1) := Int.mul_le_mul_of_nonneg_left (by omega) (by omega)
        omega
      · exact q
      · have : (g : Int) * 1 ≤ (g : Int) * k := Int.mul_le_mul_of_nonneg_left (by omega) (by omega)
        omega
    subst hk0
    omega
theorem dvd_pos_eq {x y a b : Int} (hx : 0 < x) (hy : 0 < y) (h : x = a * y) (h' : y = b * x) : a = 1 := by
  have ha : 0 < a := by
    rcases Int.lt_or_le 0 a with q | q
    · exact q
    · have := Int.mul_nonpos_of_nonpos_of_nonneg q (Int.le_of_lt hy)
      omega
  have hb : 0 < b := by
    rcases Int.lt_or_le 0 b with q | q
    · exact q
    · have := Int.mul_nonpos_of_nonpos_of_nonneg q (Int.le_of_lt hx)
      omega
  have h1 : 1 * y ≤ a * y := Int.mul_le_mul_of_nonneg_right (by omega) (by omega)
  have h2 : 1 * x ≤ b * x := Int.mul_le_mul_of_nonneg_right (by omega) (by omega)
  have : x = y := by omega
  rw [this] at h
  have h3 : (a - 1) * y = 0 := by grind
  rcases Int.mul_eq_zero.mp h3 with q | q
  · omega
  · omega
theorem Canon.g_eq {S : Mv → Prop} {e n e' n' : Option Mv} {g g' : Nat} (h : Canon S e n g) (h' : Canon S e' n' g') : g = g' := by
  have h1 := (h'.z g).mp ((h.z g).mpr ⟨1, by simp⟩)
  have h2 := (h.z g').mp ((h'.z g').mpr ⟨1, by simp⟩)
  exact Nat.dvd_antisymm (Int.natCast_dvd_natCast.mp h2) (Int.natCast_dvd_natCast.mp h1)
theorem Canon.n_some {S : Mv → Prop} {e n e' n' : Option Mv} {g g' : Nat} (h : Canon S e n g) (h' : Canon S e' n' g') {k : Mv} (hk : n = some k) : ∃ k' b, n' = some k' ∧ k.y = b * k'.y ∧ (g' : Int) ∣ k.s - (pow k' b).s := by
  subst hk
  have sk : S k := by have := h.led_in 0 1; rw [led_01] at this; exact this
  have k0 := h.no k rfl
  obtain ⟨b, h1, h2⟩ := h'.x0 sk k0.1
  cases n' with
  | none => simp [one] at h1; omega
  | some k' => exact ⟨k', b, rfl, h1, h2⟩
theorem Canon.n_eq {S : Mv → Prop} {e n e' n' : Option Mv} {g g' : Nat} (h : Canon S e n g) (h' : Canon S e' n' g') : n = n' := by
  have eg := h.g_eq h'
  subst eg
  cases n with
  | none =>
    cases n' with
    | none => rfl
    | some k' =>
      obtain ⟨k, _, e, _⟩ := h'.n_some h rfl
      cases e
  | some k =>
    obtain ⟨k', b, e1, y1, s1⟩ := h.n_some h' rfl
    subst e1
    obtain ⟨k2, b2, e2, y2, s2⟩ := h'.n_some h rfl
    cases e2
    have p := h.no k rfl
    have p' := h'.no k' rfl
    have b1 := dvd_pos_eq p.2.1 p'.2.1 y1 y2
    subst b1
    rw [pow_one] at s1
    congr 1
    exact Mv.ext' (by rw [p.1, p'.1]) (by simpa using y1) (red_eq s1 p.2.2 p'.2.2)
theorem Canon.e_some {S : Mv → Prop} {e n e' n' : Option Mv} {g g' : Nat} (h : Canon S e n g) (h' : Canon S e' n' g') {m : Mv} (hm : e = some m) : ∃ m' a b, e' = some m' ∧ m.x = a * m'.x ∧ m.y = a * m'.y + b * (n'.getD one).y ∧ (g' : Int) ∣ m.s - (led e' n' a b).s := by
  subst hm
  have sm : S m := by have := h.led_in 1 0; rw [led_10] at this; exact this
  have m0 := (h.eo m rfl).1
  obtain ⟨a, b, h1, h2, h3⟩ := (h'.gen m).mp sm
  rw [led_x, h'.n0] at h1
  cases e' with
  | none => simp [one] at h1; omega
  | some m' => exact ⟨m', a, b, rfl, by simpa using h1, h2, h3⟩
theorem Canon.e_eq {S : Mv → Prop} {e n e' n' : Option Mv} {g g' : Nat} (h : Canon S e n g) (h' : Canon S e' n' g') : e = e' := by
  have eg := h.g_eq h'
  subst eg
  have en := h.n_eq h'
  subst en
  cases e with
  | none =>
    cases e' with
    | none => rfl
    | some k' =>
      obtain ⟨k, _, _, e, _⟩ := h'.e_some h rfl
      cases e
  | some m =>
    obtain ⟨m', a, b, e1, x1, y1, s1⟩ := h.e_some h' rfl
    subst e1
    obtain ⟨m2, a2, b2, e2, x2, y2, s2⟩ := h'.e_some h rfl
    cases e2
    have p := h.eo m rfl
    have p' := h'.eo m' rfl
    have a1 := dvd_pos_eq p.1 p'.1 x1 x2
    subst a1
    have hb : b * (n.getD one).y = 0 ∧ led (some m') n 1 b = m' := by
      cases n with
      | none =>
        refine ⟨by simp [one], ?_⟩
        unfold led
        show mul (pow m' 1) (pow one b) = m'
        rw [pow_one_, pow_one, mul_one]
      | some k =>
        have k0 := (h.no k rfl).2.1
        have q := h.eno m k rfl rfl
        have q' := h'.eno m' k rfl rfl
        have y1 : m.y = 1 * m'.y + b * k.y := y1
        have b0 : b = 0 := by
          rcases Int.lt_trichotomy b 0 with z | z | z
          · have : b * k.y ≤ (-1) * k.y := Int.mul_le_mul_of_nonneg_right (by omega) (by omega)
            omega
          · exact z
          · have : 1 * k.y ≤ b * k.y := Int.mul_le_mul_of_nonneg_right (by omega) (by omega)
            omega
        subst b0
        refine ⟨by simp, ?_⟩
        rw [led_10]
        rfl
    rw [hb.2] at s1
    rw [hb.1] at y1
    congr 1
    exact Mv.ext' (by simpa using x1) (by simpa using y1) (red_eq s1 p.2 p'.2)
theorem Canon.same {S S' : Mv → Prop} {e n e' n' : Option Mv} {g g' : Nat} (h : Canon S e n g) (h' : Canon S' e' n' g') : (e = e' ∧ n = n' ∧ g = g') ↔ ∀ m, S m ↔ S' m := by
  constructor
  · rintro ⟨rfl, rfl, rfl⟩ m
    rw [h.gen, h'.gen]
  · intro hs
    have h2 : Canon S e' n' g' := ⟨fun m => (hs m).trans (h'.gen m), h'.eo, h'.no, h'.eno⟩
    exact ⟨h.e_eq h2, h.n_eq h2, h.g_eq h2⟩
end FM

set_option Elab.async false
set_option linter.all false
set_option maxRecDepth 100000
namespace FM
/-- what a form tells -/
def Told (e n : Option Mv) (g : Nat) (m : Mv) : Prop := ∃ a b, m.x = (led e n a b).x ∧ m.y = (led e n a b).y ∧ (g : Int) ∣ m.s - (led e n a b).s
theorem led_mul {e n : Option Mv} (hn : (n.getD one).x = 0) (a b a' b' : Int) : (mul (led e n a b) (led e n a' b')).s - (led e n (a + a') (b + b')).s = -(a' * b) * ((e.getD one).x * (n.getD one).y) := by
  have ht := tri_add a a'
  simp only [led, mul, pow, hn, ht]
  grind
theorem led_xy_add {e n : Option Mv} (a b a' b' : Int) : (led e n (a + a') (b + b')).x = (led e n a b).x + (led e n a' b').x ∧ (led e n (a + a') (b + b')).y = (led e n a b).y + (led e n a' b').y := by
  simp only [led_x, led_y]
  constructor <;> grind
theorem led_00 {e n : Option Mv} : led e n 0 0 = one := by rw [led_a0, pow_zero]
theorem Told.grp {e n : Option Mv} {g : Nat} (hn : (n.getD one).x = 0) (hg : (g : Int) ∣ (e.getD one).x * (n.getD one).y) : Grp (Told e n g) := by
  refine ⟨⟨0, 0, by rw [led_00], by rw [led_00], by rw [led_00]; simp⟩, ?_, ?_⟩
  · rintro m m' ⟨a, b, h1, h2, h3⟩ ⟨a', b', h1', h2', h3'⟩
    obtain ⟨x1, x2⟩ := led_xy_add (e := e) (n := n) a b a' b'
    refine ⟨a + a', b + b', by rw [x1, ← h1, ← h1']; rfl, by rw [x2, ← h2, ← h2']; rfl, ?_⟩
    have h := led_mul (e := e) hn a b a' b'
    obtain ⟨p, hp⟩ := h3
    obtain ⟨p', hp'⟩ := h3'
    obtain ⟨q, hq⟩ := hg
    rw [hq] at h
    refine ⟨p + p' - (a' * b) * q, ?_⟩
    simp only [mul] at h ⊢
    rw [← h1, ← h2'] at h
    grind
  · rintro m ⟨a, b, h1, h2, h3⟩
    have h := led_mul (e := e) hn a b (-a) (-b)
    rw [show a + -a = 0 by omega, show b + -b = 0 by omega, led_00] at h
    have e1 : (led e n (-a) (-b)).x = -m.x := by rw [h1]; simp only [led_x]; grind
    have e2 : (led e n (-a) (-b)).y = -m.y := by rw [h2]; simp only [led_y]; grind
    refine ⟨-a, -b, by rw [e1]; rfl, by rw [e2]; rfl, ?_⟩
    obtain ⟨p, hp⟩ := h3
    obtain ⟨q, hq⟩ := hg
    rw [hq] at h
    refine ⟨-p - a * b * q, ?_⟩
    simp only [mul, inv, one] at h ⊢
    rw [← h1, e2] at h
    grind
theorem gen_z {ms : List Mv} {x : Int} (h : Gen ms ⟨0, 0, x⟩) (c : Int) : Gen ms ⟨0, 0, c * x⟩ := by
  have := (Gen.grp ms).pow h c
  have e : pow ⟨0, 0, x⟩ c = ⟨0, 0, c * x⟩ := by refine Mv.ext' ?_ ?_ ?_ <;> simp [pow]
  rwa [e] at this
theorem Told.le {ms : List Mv} {e n : Option Mv} {g : Nat} (he : Gen ms (e.getD one)) (hn : Gen ms (n.getD one)) (hg : Gen ms ⟨0, 0, g⟩) {m : Mv} (h : Told e n g m) : Gen ms m := by
  obtain ⟨a, b, h1, h2, q, h3⟩ := h
  have G := Gen.grp ms
  have hl : Gen ms (led e n a b) := G.m _ _ (G.pow he a) (G.pow hn b)
  have := G.m _ _ hl (gen_z hg q)
  have e1 : mul (led e n a b) ⟨0, 0, q * g⟩ = m := by refine Mv.ext' ?_ ?_ ?_ <;> simp only [mul] <;> grind
  rwa [e1] at this
theorem Told.e {e n : Option Mv} {g : Nat} : Told e n g (e.getD one) := ⟨1, 0, by rw [led_10], by rw [led_10], by rw [led_10]; simp⟩
theorem Told.n {e n : Option Mv} {g : Nat} : Told e n g (n.getD one) := ⟨0, 1, by rw [led_01], by rw [led_01], by rw [led_01]; simp⟩
theorem Told.z {e n : Option Mv} {g : Nat} {s : Int} (h : (g : Int) ∣ s) : Told e n g ⟨0, 0, s⟩ := ⟨0, 0, by rw [led_00]; rfl, by rw [led_00]; rfl, by rw [led_00]; simpa [one] using h⟩
/-! ### how great the numbers of a form are -/
def Le3 (B : Nat) (m : Mv) : Prop := m.x.natAbs ≤ B ∧ m.y.natAbs ≤ B ∧ m.s.natAbs ≤ B
theorem all_grp {ms : List Mv} {P : Mv → Prop} (g : Grp P) {m : Mv} (h : Gen ms m) (hn : ¬ P m) : ∃ b ∈ ms, ¬ P b := by
  apply Classical.byContradiction
  intro z
  apply hn
  refine Gen.le g (fun b hb => ?_) h
  apply Classical.byContradiction
  intro z2
  exact z ⟨b, hb, z2⟩
theorem grp_x : Grp fun m => m.x = 0 := ⟨rfl, fun a b h h' => by simp [mul, h, h'], fun a h => by simp [inv, h]⟩
theorem grp_xy : Grp fun m => m.x = 0 ∧ m.y = 0 := ⟨⟨rfl, rfl⟩, fun a b h h' => by simp [mul, h.1, h.2, h'.1, h'.2], fun a h => by simp [inv, h.1, h.2]⟩
theorem grp_one : Grp fun m => m.x = 0 ∧ m.y = 0 ∧ m.s = 0 := ⟨⟨rfl, rfl, rfl⟩, fun a b h h' => by simp [mul, h.1, h.2, h'.1, h'.2], fun a h => by simp [inv, h.1, h.2]⟩
theorem grp_gap (c : Mv) : Grp fun m => gap c m = 0 := ⟨by simp [gap, one], fun a b h h' => by simp only [gap, mul] at *; grind, fun a h => by simp only [gap, inv] at *; grind⟩
theorem abs_mul_le {a x : Int} {B : Nat} (ha : a ≠ 0) (h : (a * x).natAbs ≤ B) : x.natAbs ≤ B := by
  rw [Int.natAbs_mul] at h
  have : 1 ≤ a.natAbs := by omega
  have := Nat.mul_le_mul_right x.natAbs this
  omega
theorem abs_mul_le' {a x : Int} {B : Nat} (hx : x ≠ 0) (h : (a * x).natAbs ≤ B) : a.natAbs ≤ B := by
  rw [Int.mul_comm] at h
  exact abs_mul_le hx h
theorem abs_sub_mul {a b c d : Int} {A C : Nat} (ha : a.natAbs ≤ A) (hb : b.natAbs ≤ C) (hc : c.natAbs ≤ A) (hd : d.natAbs ≤ C) : (a * b - c * d).natAbs ≤ 2 * (A * C) := by
  have h1 : (a * b).natAbs ≤ A * C := by rw [Int.natAbs_mul]; exact Nat.mul_le_mul ha hb
  have h2 : (c * d).natAbs ≤ A * C := by rw [Int.natAbs_mul]; exact Nat.mul_le_mul hc hd
  omega
theorem Canon.ex_le {ms : List Mv} {e n : Option Mv} {g B : Nat} (h : Canon (Gen ms) e n g) (hB : ∀ b ∈ ms, Le3 B b) {m : Mv} (he : e = some m) : m.x.natAbs ≤ B := by
  have hm : Gen ms m := by have := h.led_in 1 0; rw [led_10, he] at this; exact this
  obtain ⟨b, hb, b0⟩ := all_grp grp_x hm (by have := (h.eo m he).1; omega)
  obtain ⟨a, c, h1, _, _⟩ := (h.gen b).mp (Gen.of hb)
  rw [led_x, h.n0, he] at h1
  have h1 : b.x = a * m.x := by simpa using h1
  have a0 : a ≠ 0 := fun z => b0 (by rw [h1, z]; simp)
  exact abs_mul_le a0 (by rw [← h1]; exact (hB b hb).1)
theorem Canon.ny_le {ms : List Mv} {e n : Option Mv} {g B : Nat} (h : Canon (Gen ms) e n g) (hB : ∀ b ∈ ms, Le3 B b) {k : Mv} (hn : n = some k) : k.y.natAbs ≤ 2 * (B * B) + B := by
  have hk : Gen ms k := by have := h.led_in 0 1; rw [led_01, hn] at this; exact this
  have k0 := (h.no k hn).2.1
  have kx := (h.no k hn).1
  by_cases hg : ∃ b ∈ ms, ∃ c ∈ ms, gap b c ≠ 0
  · obtain ⟨b, hb, c, hc, hbc⟩ := hg
    have G := Gen.grp ms
    have hm := G.m _ _ (G.pow (Gen.of hb) c.x) (G.pow (Gen.of hc) (-b.x))
    obtain ⟨j, h2, _⟩ := h.x0 hm (by simp only [mul, pow]; grind)
    rw [hn] at h2
    have h2 : c.x * b.y - b.x * c.y = j * k.y := by simp only [mul, pow, Option.getD_some] at h2; grind
    have j0 : j ≠ 0 := fun z => hbc (by rw [z] at h2; simp only [gap]; grind)
    have := abs_mul_le j0 (B := 2 * (B * B)) (by rw [← h2]; exact abs_sub_mul (hB c hc).1 (hB b hb).2.1 (hB b hb).1 (hB c hc).2.1)
    omega
  · have hz : ∀ b ∈ ms, ∀ c ∈ ms, gap b c = 0 := fun b hb c hc => by
      apply Classical.byContradiction
      intro z
      exact hg ⟨b, hb, c, hc, z⟩
    have hz2 : ∀ b ∈ ms, ∀ m, Gen ms m → gap b m = 0 := fun b hb m hm => Gen.le (grp_gap b) (hz b hb) hm
    cases he : e with
    | none =>
      obtain ⟨b, hb, b0⟩ := all_grp grp_xy hk (by omega)
      obtain ⟨a, c, h1, h2, _⟩ := (h.gen b).mp (Gen.of hb)
      rw [led_x, h.n0, he] at h1
      rw [led_y, he, hn] at h2
      have h1 : b.x = 0 := by simpa [one] using h1
      have h2 : b.y = c * k.y := by simpa [one] using h2
      have c0 : c ≠ 0 := fun z => b0 ⟨h1, by rw [h2, z]; simp⟩
      have := abs_mul_le c0 (by rw [← h2]; exact (hB b hb).2.1)
      omega
    | some m =>
      have hm : Gen ms m := by have := h.led_in 1 0; rw [led_10, he] at this; exact this
      have hm2 : ∀ b ∈ ms, gap k b = 0 := fun b hb => by have := hz2 b hb k hk; simp only [gap] at *; omega
      have : gap k m = 0 := Gen.le (grp_gap k) hm2 hm
      have m0 := (h.eo m he).1
      simp only [gap, kx] at this
      have : m.x * k.y = 0 := by omega
      rcases Int.mul_eq_zero.mp this with q | q <;> omega
/-- what is told along one line -/
structure Line (S : Mv → Prop) (v : Mv) (g : Nat) : Prop where
  vS : S v
  nz : ¬ (v.x = 0 ∧ v.y = 0)
  at_ : ∀ m, S m → ∃ a, m.x = a * v.x ∧ m.y = a * v.y ∧ (g : Int) ∣ m.s - (pow v a).s
  z : S ⟨0, 0, g⟩
  zd : ∀ s, S ⟨0, 0, s⟩ → (g : Int) ∣ s
def lv (m : Mv) : Int := 2 * m.s - m.x * m.y
theorem lv_pow (m : Mv) (k : Int) : lv (pow m k) = k * lv m := by
  have := tri2 k
  simp only [lv, pow]
  grind
theorem lv_mul {m k : Mv} (h : gap m k = 0) : lv (mul m k) = lv m + lv k := by
  simp only [lv, mul, gap] at *
  grind
theorem lv_le {m : Mv} {B : Nat} (h : Le3 B m) : (lv m).natAbs ≤ 2 * B + B * B := by
  have h1 : (m.x * m.y).natAbs ≤ B * B := by rw [Int.natAbs_mul]; exact Nat.mul_le_mul h.1 h.2.1
  have := h.2.2
  unfold lv
  omega
theorem line_k {v m : Mv} {a : Int} {B : Nat} (nz : ¬ (v.x = 0 ∧ v.y = 0)) (h1 : m.x = a * v.x) (h2 : m.y = a * v.y) (h : Le3 B m) : a.natAbs ≤ B := by
  by_cases hx : v.x = 0
  · have hy : v.y ≠ 0 := fun z => nz ⟨hx, z⟩
    exact abs_mul_le' hy (by rw [← h2]; exact h.2.1)
  · exact abs_mul_le' hx (by rw [← h1]; exact h.1)
theorem Line.b0 {ms : List Mv} {v : Mv} {g B : Nat} (h : Line (Gen ms) v g) (hB : ∀ b ∈ ms, Le3 B b) : ∃ b ∈ ms, ∃ a, a ≠ 0 ∧ b.x = a * v.x ∧ b.y = a * v.y ∧ (g : Int) ∣ b.s - (pow v a).s := by
  obtain ⟨b, hb, b0⟩ := all_grp grp_xy h.vS h.nz
  obtain ⟨a, h1, h2, h3⟩ := h.at_ b (Gen.of hb)
  exact ⟨b, hb, a, fun z => b0 ⟨by rw [h1, z]; simp, by rw [h2, z]; simp⟩, h1, h2, h3⟩
theorem Line.xy_le {ms : List Mv} {v : Mv} {g B : Nat} (h : Line (Gen ms) v g) (hB : ∀ b ∈ ms, Le3 B b) : v.x.natAbs ≤ B ∧ v.y.natAbs ≤ B := by
  obtain ⟨b, hb, a, a0, h1, h2, _⟩ := h.b0 hB
  exact ⟨abs_mul_le a0 (by rw [← h1]; exact (hB b hb).1), abs_mul_le a0 (by rw [← h2]; exact (hB b hb).2.1)⟩
theorem line_grp {v : Mv} {a0 l0 : Int} (nz : ¬ (v.x = 0 ∧ v.y = 0)) : Grp fun m => ∃ k, m.x = k * v.x ∧ m.y = k * v.y ∧ a0 * lv m = k * l0 := by
  refine ⟨⟨0, by simp [one], by simp [one], by simp [lv, one]⟩, ?_, ?_⟩
  · rintro m m' ⟨k, h1, h2, h3⟩ ⟨k', h1', h2', h3'⟩
    have hg : gap m m' = 0 := by simp only [gap, h1, h2, h1', h2']; grind
    refine ⟨k + k', by simp only [mul, h1, h1']; grind, by simp only [mul, h2, h2']; grind, ?_⟩
    rw [lv_mul hg]
    grind
  · rintro m ⟨k, h1, h2, h3⟩
    refine ⟨-k, by simp only [inv, h1]; grind, by simp only [inv, h2]; grind, ?_⟩
    have e : lv (inv m) = - lv m := by simp only [lv, inv]; grind
    rw [e]
    grind
theorem Line.g_le {ms : List Mv} {v : Mv} {g B : Nat} (h : Line (Gen ms) v g) (hB : ∀ b ∈ ms, Le3 B b) : g ≤ 2 * (B * (2 * B + B * B)) := by
  obtain ⟨b, hb, a, a0, h1, h2, _⟩ := h.b0 hB
  by_cases hg0 : g = 0
  · omega
  have G := Gen.grp ms
  by_cases hc : ∀ c ∈ ms, ∃ k, c.x = k * v.x ∧ c.y = k * v.y ∧ a * lv c = k * lv b
  · exfalso
    obtain ⟨k, k1, k2, k3⟩ := Gen.le (line_grp h.nz) hc h.z
    have k1 : k * v.x = 0 := k1.symm
    have k2 : k * v.y = 0 := k2.symm
    have k0 : k = 0 := by
      apply Classical.byContradiction
      intro z
      exact h.nz ⟨(Int.mul_eq_zero.mp k1).resolve_left z, (Int.mul_eq_zero.mp k2).resolve_left z⟩
    rw [k0] at k3
    have : a * (2 * (g : Int)) = 0 := by simpa [lv] using k3
    rcases Int.mul_eq_zero.mp this with q | q <;> omega
  · have : ∃ c ∈ ms, ¬ ∃ k, c.x = k * v.x ∧ c.y = k * v.y ∧ a * lv c = k * lv b := by
      apply Classical.byContradiction
      intro z
      apply hc
      intro c hcm
      apply Classical.byContradiction
      intro z2
      exact z ⟨c, hcm, z2⟩
    obtain ⟨c, hcm, hcn⟩ := this
    obtain ⟨k, k1, k2, _⟩ := h.at_ c (Gen.of hcm)
    have hm := G.m _ _ (G.pow (Gen.of hb) k) (G.pow (Gen.of hcm) (-a))
    have hgap : gap (pow b k) (pow c (-a)) = 0 := by simp only [gap, pow, h1, h2, k1, k2]; grind
    have hl : lv (mul (pow b k) (pow c (-a))) = k * lv b - a * lv c := by rw [lv_mul hgap, lv_pow, lv_pow]; grind
    have hx : (mul (pow b k) (pow c (-a))).x = 0 := by simp only [mul, pow, h1, k1]; grind
    have hy : (mul (pow b k) (pow c (-a))).y = 0 := by simp only [mul, pow, h2, k2]; grind
    have he : mul (pow b k) (pow c (-a)) = ⟨0, 0, (mul (pow b k) (pow c (-a))).s⟩ := Mv.ext' hx hy rfl
    rw [he] at hm
    have hd := h.zd _ hm
    unfold lv at hl
    rw [hx] at hl
    have h2s : 2 * (mul (pow b k) (pow c (-a))).s = k * lv b - a * lv c := by unfold lv; omega
    have hne : k * lv b - a * lv c ≠ 0 := fun z => hcn ⟨k, k1, k2, by omega⟩
    have hle := abs_sub_mul (line_k h.nz k1 k2 (hB c hcm)) (lv_le (hB b hb)) (line_k h.nz h1 h2 (hB b hb)) (lv_le (hB c hcm))
    rw [← h2s] at hle hne
    generalize (mul (pow b k) (pow c (-a))).s = t at *
    have t0 : t ≠ 0 := fun z => hne (by rw [z]; simp)
    have := Nat.le_of_dvd (show 0 < t.natAbs by omega) (by have := Int.natAbs_dvd_natAbs.mpr hd; simpa using this : g ∣ t.natAbs)
    omega
theorem Line.s_le {ms : List Mv} {v : Mv} {B : Nat} (h : Line (Gen ms) v 0) (hB : ∀ b ∈ ms, Le3 B b) : v.s.natAbs ≤ 2 * B + 2 * (B * B) := by
  obtain ⟨b, hb, a, a0, h1, h2, h3⟩ := h.b0 hB
  have hs : b.s = (pow v a).s := by
    have := Int.zero_dvd.mp (by simpa using h3)
    omega
  have e : b = pow v a := Mv.ext' h1 h2 hs
  have hl : lv b = a * lv v := by rw [e, lv_pow]
  have := abs_mul_le a0 (by rw [← hl]; exact lv_le (hB b hb))
  obtain ⟨hx, hy⟩ := h.xy_le hB
  have hxy : (v.x * v.y).natAbs ≤ B * B := by rw [Int.natAbs_mul]; exact Nat.mul_le_mul hx hy
  unfold lv at this
  omega
theorem Canon.line_e {S : Mv → Prop} {e n : Option Mv} {g : Nat} (h : Canon S e n g) {m : Mv} (he : e = some m) (hn : n = none) : Line S m g := by
  have h1 : ∀ a b, led e n a b = pow m a := fun a b => by
    rw [he, hn]
    unfold led
    show mul (pow m a) (pow one b) = _
    rw [pow_one_, mul_one]
  refine ⟨by have := h.led_in 1 0; rw [h1, pow_one] at this; exact this, fun z => by have := (h.eo m he).1; omega, fun x hx => ?_, (h.z _).mpr ⟨1, by simp⟩, fun s hs => (h.z s).mp hs⟩
  obtain ⟨a, b, h2, h3, h4⟩ := (h.gen x).mp hx
  rw [h1] at h2 h3 h4
  exact ⟨a, h2, h3, h4⟩
theorem Canon.line_n {S : Mv → Prop} {e n : Option Mv} {g : Nat} (h : Canon S e n g) {m : Mv} (he : e = none) (hn : n = some m) : Line S m g := by
  have h1 : ∀ a b, led e n a b = pow m b := fun a b => by
    rw [he, hn]
    unfold led
    show mul (pow one a) (pow m b) = _
    rw [pow_one_, one_mul]
  refine ⟨by have := h.led_in 0 1; rw [h1, pow_one] at this; exact this, fun z => by have := (h.no m hn).2.1; omega, fun x hx => ?_, (h.z _).mpr ⟨1, by simp⟩, fun s hs => (h.z s).mp hs⟩
  obtain ⟨a, b, h2, h3, h4⟩ := (h.gen x).mp hx
  rw [h1] at h2 h3 h4
  exact ⟨b, h2, h3, h4⟩
theorem Canon.gap_dvd {S : Mv → Prop} {e n : Option Mv} {g : Nat} (h : Canon S e n g) (G : Grp S) {m k : Mv} (he : e = some m) (hn : n = some k) : (g : Int) ∣ m.x * k.y := by
  have hm : S m := by have := h.led_in 1 0; rw [led_10, he] at this; exact this
  have hk : S k := by have := h.led_in 0 1; rw [led_01, hn] at this; exact this
  have kx := (h.no k hn).1
  have := G.m _ _ (G.m _ _ hm hk) (G.m _ _ (G.i _ hm) (G.i _ hk))
  have e1 : mul (mul m k) (mul (inv m) (inv k)) = ⟨0, 0, m.x * k.y⟩ := by refine Mv.ext' ?_ ?_ ?_ <;> simp only [mul, inv, kx] <;> grind
  rw [e1] at this
  exact (h.z _).mp this
theorem pow_le {B : Nat} (h1 : 1 ≤ B) : B ≤ B * B ∧ B * B ≤ B * (B * B) ∧ 1 ≤ B * B ∧ 1 ≤ B * (B * B) := by
  have a1 := Nat.mul_le_mul_left B h1
  have a2 := Nat.mul_le_mul_left (B * B) h1
  have e1 : B * B * B = B * (B * B) := Nat.mul_assoc ..
  omega
/-- the numbers of a form of buttons of at most B -/
theorem Canon.size {ms : List Mv} {e n : Option Mv} {g B : Nat} (h : Canon (Gen ms) e n g) (h1 : 1 ≤ B) (hB : ∀ b ∈ ms, Le3 B b) :
    (∀ m, e = some m → Le3 (10 * (B * (B * B))) m) ∧ (∀ k, n = some k → Le3 (10 * (B * (B * B))) k) ∧ g ≤ 10 * (B * (B * B)) := by
  obtain ⟨p1, p2, p3, p4⟩ := pow_le h1
  have e1 : B * (2 * B + B * B) = 2 * (B * B) + B * (B * B) := by rw [Nat.mul_add]; congr 1; rw [Nat.mul_left_comm]
  have hg : g ≤ 10 * (B * (B * B)) := by
    cases he : e with
    | none =>
      cases hn : n with
      | none =>
        by_cases g0 : g = 0
        · omega
        · have hz : Gen ms ⟨0, 0, g⟩ := (h.z _).mpr ⟨1, by simp⟩
          obtain ⟨b, hb, b0⟩ := all_grp grp_one hz (by simp; omega)
          obtain ⟨a, c, h2, h3, h4⟩ := (h.gen b).mp (Gen.of hb)
          have : led e n a c = one := by rw [he, hn]; unfold led; show mul (pow one a) (pow one c) = one; rw [pow_one_, pow_one_, one_mul]
          rw [this] at h2 h3 h4
          have s0 : b.s ≠ 0 := fun z => b0 ⟨h2, h3, z⟩
          have hd : g ∣ b.s.natAbs := by
            have h5 : (g : Int) ∣ b.s := by simpa [one] using h4
            have := Int.natAbs_dvd_natAbs.mpr h5
            simpa using this
          have := Nat.le_of_dvd (by omega) hd
          have := (hB b hb).2.2
          omega
      | some k =>
        have := (h.line_n he hn).g_le hB
        rw [e1] at this
        omega
    | some m =>
      cases hn : n with
      | none =>
        have := (h.line_e he hn).g_le hB
        rw [e1] at this
        omega
      | some k =>
        have hd := h.gap_dvd (Gen.grp ms) he hn
        have m0 := (h.eo m he).1
        have k0 := (h.no k hn).2.1
        have hpos : 0 < m.x * k.y := Int.mul_pos m0 k0
        have hd2 : g ∣ (m.x * k.y).natAbs := by
          have := Int.natAbs_dvd_natAbs.mpr hd
          simpa using this
        have h5 := Nat.le_of_dvd (by omega) hd2
        rw [Int.natAbs_mul] at h5
        have h6 := Nat.mul_le_mul (h.ex_le hB he) (h.ny_le hB hn)
        have e2 : B * (2 * (B * B) + B) = 2 * (B * (B * B)) + B * B := by rw [Nat.mul_add, Nat.mul_left_comm]
        omega
  refine ⟨fun m he => ?_, fun k hn => ?_, hg⟩
  · have hx := h.ex_le hB he
    cases hn : n with
    | none =>
      have L := h.line_e he hn
      obtain ⟨_, hy⟩ := L.xy_le hB
      refine ⟨by omega, by omega, ?_⟩
      by_cases g0 : g = 0
      · rw [g0] at L
        have := L.s_le hB
        omega
      · have := (h.eo m he).2 g0
        omega
    | some k =>
      have hk := h.ny_le hB hn
      have hy := h.eno m k he hn
      refine ⟨by omega, by omega, ?_⟩
      by_cases g0 : g = 0
      · exfalso
        have hd := h.gap_dvd (Gen.grp ms) he hn
        rw [g0] at hd
        have hd : m.x * k.y = 0 := Int.zero_dvd.mp (by simpa using hd)
        have m0 := (h.eo m he).1
        have k0 := (h.no k hn).2.1
        have hpos : 0 < m.x * k.y := Int.mul_pos m0 k0
        omega
      · have := (h.eo m he).2 g0
        omega
  · have hk := h.ny_le hB hn
    have hx := (h.no k hn).1
    refine ⟨by omega, by omega, ?_⟩
    by_cases g0 : g = 0
    · cases he : e with
      | none =>
        have L := h.line_n he hn
        rw [g0] at L
        have := L.s_le hB
        omega
      | some m =>
        exfalso
        have hd := h.gap_dvd (Gen.grp ms) he hn
        rw [g0] at hd
        have hd : m.x * k.y = 0 := Int.zero_dvd.mp (by simpa using hd)
        have m0 := (h.eo m he).1
        have k0 := (h.no k hn).2.1
        have hpos : 0 < m.x * k.y := Int.mul_pos m0 k0
        omega
    · have := (h.no k hn).2.2 g0
      omega
theorem Told.shift {e n : Option Mv} {g : Nat} {m m' : Mv} (h : Told e n g m) (hx : m'.x = m.x) (hy : m'.y = m.y) (hs : (g : Int) ∣ m'.s - m.s) : Told e n g m' := by
  obtain ⟨a, b, h1, h2, p, h3⟩ := h
  obtain ⟨q, hq⟩ := hs
  exact ⟨a, b, by rw [hx, h1], by rw [hy, h2], p + q, by grind⟩
end FM

set_option Elab.async false
set_option linter.all false
set_option maxRecDepth 100000
set_option maxHeartbeats 400000
/-! FT: texts of ints, read back -/
namespace FT
open PySem PySem.Spec PyProof.Rows L2 Ar TL
/-! ### rules -/
end FT

set_option Elab.async false
set_option linter.all false
set_option maxRecDepth 100000
set_option maxHeartbeats 0
namespace A10
open PySem PySem.Spec PyProof.Rows L2 Ar
section
abbrev top (i : Nat) : Stmt := PySem.Challenge.pw_arealots_k10_whole_direct_walks_in_order.main.body.getD i (.Pass ⟨0, 0, 0, 0⟩)
abbrev s__law_well : Stmt := top 29
abbrev s_is_walk : Stmt := top 19
abbrev s_then_move : Stmt := top 16
abbrev s_walk_move : Stmt := top 20
abbrev s_walked : Stmt := top 24
abbrev s_areas_of : Stmt := top 21
abbrev s_direct_count : Stmt := top 22
abbrev s_is_integer : Stmt := top 10
abbrev s_is_move : Stmt := top 14
abbrev s_check_move : Stmt := top 15
abbrev s_check_direct : Stmt := top 23
abbrev s_direct_walks : Stmt := top 25
abbrev s_is_count : Stmt := top 11
abbrev s_direct_walk : Stmt := top 26
abbrev s_place_of : Stmt := top 27
abbrev s__law_dip : Stmt := top 30
abbrev s__law_one_of : Stmt := top 31
abbrev s__law_step : Stmt := top 32
abbrev s__law_led : Stmt := top 33
abbrev s__law_stroll : Stmt := top 34
abbrev s__law_direct : Stmt := top 35
abbrev s__law_right : Stmt := top 37
abbrev s_law : Stmt := top 38
abbrev s__law_tried : Stmt := top 36
def tabE : List (Str × Option Str) := [("InvalidIndex", some "given"), ("NoWalk", none)]
def catE (y x : Str) : Bool := decide (x = y ∨ x = exBase y)
abbrev tPK (K : PySem.W.Frag) : Str → Addr := fun x => (He.cT K (x, none)).2
def su__law_tried_1 (y : Str) (a dd : Addr) : DS := dRet (dTup (daCons (dC (.str "index")) (daCons (dXf "given" a dd (dVar 1)) (daNil))))
def sr__law_tried_1 (y : Str) (e : Option (Str × D)) (μ : Mu) : R D := match e with
  | some (f, d) => (su__law_tried_1 y 0 0 ((List.replicate 2 none).set 1 (some (.exn 0 0 f d))) μ).fin
  | none => .stk
theorem hsu__law_tried_1 (y f : Str) (h : (y, some f) ∈ tabE) (a dd : Addr) (d : D) (μ : Mu) : su__law_tried_1 y a dd ((List.replicate 2 none).set 1 (some (.exn a dd f d))) μ = rtS (sr__law_tried_1 y (some (f, d)) μ) := by
  simp only [tabE, List.mem_cons, Prod.mk.injEq, Option.some.injEq, List.not_mem_nil, or_false, reduceCtorEq, and_false] at h
  obtain ⟨rfl, rfl⟩ := h
  all_goals (unfold sr__law_tried_1 su__law_tried_1; simp only [dRet, dLst, dTup, dFn, daCons, daNil, dC, R.bind, xf_at (show 1 < (List.replicate 2 (none : Option D)).length by decide)]; generalize orC (orC fRepr fReprE) fReprD = g; cases g μ [d] <;> simp [R.of, R.thenS, rtS, R.nox, RS.fin])
def su__law_tried_0 (y : Str) (a dd : Addr) : DS := dRet (dC (.str "none"))
def sr__law_tried_0 (y : Str) (_ : Option (Str × D)) (μ : Mu) : R D := (su__law_tried_0 y 0 0 (List.replicate 2 none) μ).fin
theorem hsu__law_tried_0 (y : Str) (a dd : Addr) (e : Option (Str × D)) (μ : Mu) : su__law_tried_0 y a dd (List.replicate 2 none) μ = rtS (sr__law_tried_0 y e μ) := by
  unfold sr__law_tried_0 su__law_tried_0
  rfl
@[irreducible] def dB__law_tried (ac : DE) : DS := dTryH (fun d _ μ => .rt d μ) catE tabE [⟨"NoWalk", none, su__law_tried_0, sr__law_tried_0⟩, ⟨"InvalidIndex", some 1, su__law_tried_1, sr__law_tried_1⟩] (ac)
def res__law_tried (r : R D) : R D := (dB__law_tried (fun _ _ => r) (List.replicate 2 none) []).fin
@[irreducible] def m__law_well : Fn := dDef 2 5 (dSeq (dSet 2 (dIf (dTest (dBin fLt (dVar 1) (dFn fLen (daCons (dVar 0) (daNil))))) (dBin fIx (dVar 0) (dVar 1)) (dBin fAdd (dBin fMul (dC (.int 13)) (dVar 1)) (dC (.int 6))))) (dSeq (dSet 3 (dBin fAdd (dC (.int 50021)) (dBin fMul (dC (.int 6007)) (dVar 1)))) (dSeq (dFor (diSeq (dBin fAdd (dSl (dVar 0) (dNoPart) (dPart (dC (.int 5)))) (dLst (daCons (dVar 2) (daNil))))) (dgName 4) (dSet 3 (dBin fModI (dFn fInt (daCons (dBin fAdd (dBin fAdd (dBin fMul (dVar 3) (dC (.int 24611))) (dBin fMul (dVar 4) (dC (.int 7)))) (dC (.int 307))) (daNil))) (dC (.int 2147483399))))) (dRet (dLstM (daCons (dIf (dOr (dTest (dBin fLt (dVar 2) (dC (.int 0)))) (dTest (dBin fGe (dVar 2) (dBin fPowI (dC (.int 10)) (dC (.int 18)))))) (dFn fAbs (daCons (dVar 2) (daNil))) (dC (.int 0))) (daCons (dVar 3) (daCons (dC (.int 0)) (daNil)))))))))
@[irreducible] def m_is_walk : Fn := dDef 2 3 (dRet (dAndV (dFn fIsa (daCons (dVar 0) (daCons (dC (.ty "str")) (daNil)))) (dFn fAll (daCons (dLcF finL [2] (diSeq (dVar 0)) (dgName 2) (dYes) (dBin (fIn false) (dVar 2) (dVar 1))) (daNil)))))
@[irreducible] def m_then_move : Fn := dDef 2 2 (dRet (dTup (daCons (dBin fAdd (dBin fIx (dVar 0) (dC (.int 0))) (dBin fIx (dVar 1) (dC (.int 0)))) (daCons (dBin fAdd (dBin fIx (dVar 0) (dC (.int 1))) (dBin fIx (dVar 1) (dC (.int 1)))) (daCons (dBin fAdd (dBin fAdd (dBin fIx (dVar 0) (dC (.int 2))) (dBin fIx (dVar 1) (dC (.int 2)))) (dBin fMul (dBin fIx (dVar 0) (dC (.int 0))) (dBin fIx (dVar 1) (dC (.int 1))))) (daNil))))))
@[irreducible] def m_walk_move : Fn := dDef 1 3 (dSeq (dSet 1 (dC (.tup [.int 0, .int 0, .int 0]))) (dSeq (dFor (diSeq (dVar 0)) (dgName 2) (dSet 1 (dCall m_then_move (daCons (dVar 1) (daCons (dKIx [("e", .tup [.int 1, .int 0, .int 0]), ("n", .tup [.int 0, .int 1, .int 0]), ("w", .tup [.int (-1), .int 0, .int 0]), ("s", .tup [.int 0, .int (-1), .int 0])] (dVar 2)) (daNil)))))) (dRet (dVar 1))))
@[irreducible] def m_walked : Fn := dDef 1 1 (dSeq (dIfS (dNot (dTru (dCall m_is_walk (daCons (dVar 0) (daCons (dC (.str "enws")) (daNil)))))) (dNever) (dsNext)) (dRet (dCall m_walk_move (daCons (dVar 0) (daNil)))))
@[irreducible] def m_areas_of : Fn := dDef 2 9 (dSeq (dSet 2 (dLcF finL [5] (diRange1 (daCons (dBin fAdd (dVar 1) (dC (.int 1))) (daNil))) (dgName 5) (dYes) (dLst (daCons (dC (.int 1)) (daNil))))) (dSeq (dFor (diRange2 (daCons (dC (.int 1)) (daCons (dBin fAdd (dVar 0) (dC (.int 1))) (daNil)))) (dgName 3) (dSeq (dSet 4 (dLstM (daCons (dLst (daCons (dC (.int 1)) (daNil))) (daNil)))) (dSeq (dFor (diRange2 (daCons (dC (.int 1)) (daCons (dBin fAdd (dVar 1) (dC (.int 1))) (daNil)))) (dgName 5) (dSeq (dSet 6 (dMulM (dLst (daCons (dC (.int 0)) (daNil))) (dBin fAdd (dBin fMul (dVar 3) (dVar 5)) (dC (.int 1))))) (dSeq (dFor (diEnum (daCons (dBin fIx (dVar 2) (dVar 5)) (daNil))) (dgTup 2 (dgCons (dgName 7) (dgCons (dgName 8) (dgNil)))) (dAugS (dVar 6) (dBin fAdd (dVar 7) (dVar 5)) fAddI (dVar 8))) (dSeq (dFor (diEnum (daCons (dBin fIx (dVar 4) (dBin fSubI (dVar 5) (dC (.int 1)))) (daNil))) (dgTup 2 (dgCons (dgName 7) (dgCons (dgName 8) (dgNil)))) (dAugS (dVar 6) (dVar 7) fAddI (dVar 8))) (dDrop (dAppend (dVar 4) (dVar 6))))))) (dSet 2 (dVar 4))))) (dRet (dBin fIx (dVar 2) (dVar 1)))))
@[irreducible] def m_direct_count : Fn := dDef 1 4 (dSeq (dAsg (dVar 0) (dgTup 3 (dgCons (dgName 1) (dgCons (dgName 2) (dgCons (dgName 3) (dgNil)))))) (dSeq (dIfS (dOr (dTest (dBin fLt (dVar 1) (dC (.int 0)))) (dOr (dTest (dBin fLt (dVar 2) (dC (.int 0)))) (dNot (dTest (dCmp2 fLe fLe (dC (.int 0)) (dVar 3) (dBin fMul (dVar 1) (dVar 2))))))) (dRet (dC (.int 0))) (dsNext)) (dRet (dBin fIx (dCall m_areas_of (daCons (dVar 1) (daCons (dVar 2) (daNil)))) (dVar 3)))))
@[irreducible] def m_is_integer : Fn := dDef 1 1 (dRet (dAndV (dFn fIsa (daCons (dVar 0) (daCons (dC (.ty "int")) (daNil)))) (dNotV (dFn fIsa (daCons (dVar 0) (daCons (dC (.ty "bool")) (daNil)))))))
@[irreducible] def m_is_move : Fn := dDef 1 2 (dRet (dAndV (dFn fIsa (daCons (dVar 0) (daCons (dC (.ty "tuple")) (daNil)))) (dAndV (dBin fEq (dFn fLen (daCons (dVar 0) (daNil))) (dC (.int 3))) (dFn fAll (daCons (dLcF finL [1] (diSeq (dVar 0)) (dgName 1) (dYes) (dCall m_is_integer (daCons (dVar 1) (daNil)))) (daNil))))))
@[irreducible] def m_check_move : Fn := dDef 1 1 (dIfS (dNot (dTru (dCall m_is_move (daCons (dVar 0) (daNil))))) (dNever) (dsNext))
@[irreducible] def m_check_direct : Fn := dDef 1 1 (dSeq (dDrop (dCall m_check_move (daCons (dVar 0) (daNil)))) (dIfS (dAnd (dTest (dBin fGe (dBin fIx (dVar 0) (dC (.int 0))) (dC (.int 0)))) (dAnd (dTest (dBin fGe (dBin fIx (dVar 0) (dC (.int 1))) (dC (.int 0)))) (dTest (dBin fGt (dBin fAdd (dBin fIx (dVar 0) (dC (.int 0))) (dBin fIx (dVar 0) (dC (.int 1)))) (dC (.int 24)))))) (dNever) (dsNext)))
@[irreducible] def m_direct_walks : Fn := dDef 1 1 (dSeq (dDrop (dCall m_check_direct (daCons (dVar 0) (daNil)))) (dRet (dCall m_direct_count (daCons (dVar 0) (daNil)))))
@[irreducible] def m_is_count : Fn := dDef 1 1 (dRet (dAndV (dCall m_is_integer (daCons (dVar 0) (daNil))) (dBin fGe (dVar 0) (dC (.int 0)))))
@[irreducible] noncomputable def m_direct_walk : Fn := dDef 2 9 (dSeq (dDrop (dCall m_check_direct (daCons (dVar 0) (daNil)))) (dSeq (dSet 2 (dCall m_direct_count (daCons (dVar 0) (daNil)))) (dSeq (dIfS (dTest (dBin fEq (dVar 2) (dC (.int 0)))) (dRaise0 "NoWalk") (dsNext)) (dSeq (dIfS (dOr (dNot (dTru (dCall m_is_count (daCons (dVar 1) (daNil))))) (dTest (dBin fGe (dVar 1) (dVar 2)))) (dRaise "InvalidIndex" "given" (daCons (dVar 1) (daNil))) (dsNext)) (dSeq (dAsg (dVar 0) (dgTup 3 (dgCons (dgName 3) (dgCons (dgName 4) (dgCons (dgName 5) (dgNil)))))) (dSeq (dPar 6 7 (daCons (dC (.str "")) (daCons (dVar 1) (daNil)))) (dSeq (dWhile (dTest (dBin fGt (dBin fAdd (dVar 3) (dVar 4)) (dC (.int 0)))) (dSeq (dSet 8 (dCall m_direct_count (daCons (dTup (daCons (dBin fSubI (dVar 3) (dC (.int 1))) (daCons (dVar 4) (daCons (dBin fSubI (dVar 5) (dVar 4)) (daNil))))) (daNil)))) (dIfS (dTest (dBin fLt (dVar 7) (dVar 8))) (dPar3 6 3 5 (daCons (dBin fAdd (dVar 6) (dC (.str "e"))) (daCons (dBin fSubI (dVar 3) (dC (.int 1))) (daCons (dBin fSubI (dVar 5) (dVar 4)) (daNil))))) (dPar3 6 4 7 (daCons (dBin fAdd (dVar 6) (dC (.str "n"))) (daCons (dBin fSubI (dVar 4) (dC (.int 1))) (daCons (dBin fSubI (dVar 7) (dVar 8)) (daNil)))))))) (dRet (dVar 6)))))))))
@[irreducible] def m_place_of : Fn := dDef 1 7 (dSeq (dIfS (dOr (dNot (dTru (dCall m_is_walk (daCons (dVar 0) (daCons (dC (.str "en")) (daNil)))))) (dTest (dBin fGt (dFn fLen (daCons (dVar 0) (daNil))) (dC (.int 24))))) (dNever) (dsNext)) (dSeq (dAsg (dCall m_walk_move (daCons (dVar 0) (daNil))) (dgTup 3 (dgCons (dgName 1) (dgCons (dgName 2) (dgCons (dgName 3) (dgNil)))))) (dSeq (dSet 4 (dC (.int 0))) (dSeq (dFor (diSeq (dVar 0)) (dgName 5) (dSeq (dSet 6 (dCall m_direct_count (daCons (dTup (daCons (dBin fSubI (dVar 1) (dC (.int 1))) (daCons (dVar 2) (daCons (dBin fSubI (dVar 3) (dVar 2)) (daNil))))) (daNil)))) (dIfS (dTest (dBin fEq (dVar 5) (dC (.str "e")))) (dPar 1 3 (daCons (dBin fSubI (dVar 1) (dC (.int 1))) (daCons (dBin fSubI (dVar 3) (dVar 2)) (daNil)))) (dPar 2 4 (daCons (dBin fSubI (dVar 2) (dC (.int 1))) (daCons (dBin fAdd (dVar 4) (dVar 6)) (daNil))))))) (dRet (dVar 4))))))
@[irreducible] def m__law_dip : Fn := dDef 2 4 (dSeq (dAsg (dBin fAdd (dBin fIx (dVar 0) (dC (.int 2))) (dC (.int 1))) (dgSub (dVar 0) (dC (.int 2)))) (dSeq (dIfS (dTest (dBin fGt (dBin fIx (dVar 0) (dC (.int 0))) (dC (.int 0)))) (dSeq (dAsg (dFn fDivmod (daCons (dBin fIx (dVar 0) (dC (.int 0))) (daCons (dVar 1) (daNil)))) (dgTup 2 (dgCons (dgSub (dVar 0) (dC (.int 0))) (dgCons (dgName 2) (dgNil))))) (dRet (dVar 2))) (dsNext)) (dSeq (dSet 3 (dBin fAdd (dC (.int 20011)) (dBin fMul (dC (.int 2)) (dBin fIx (dVar 0) (dC (.int 2)))))) (dSeq (dAsg (dBin fModI (dFn fInt (daCons (dBin fAdd (dBin fAdd (dBin fMul (dBin fIx (dVar 0) (dC (.int 1))) (dVar 3)) (dBin fMul (dC (.int 70001)) (dBin fIx (dVar 0) (dC (.int 2))))) (dC (.int 1))) (daNil))) (dC (.int 2147483399))) (dgSub (dVar 0) (dC (.int 1)))) (dRet (dBin fModI (dFn fInt (daCons (dBin fDivI (dBin fIx (dVar 0) (dC (.int 1))) (dC (.int 640))) (daNil))) (dVar 1)))))))
@[irreducible] def m__law_one_of : Fn := dDef 2 2 (dRet (dBin fIx (dVar 1) (dCall m__law_dip (daCons (dVar 0) (daCons (dFn fLen (daCons (dVar 1) (daNil))) (daNil))))))
@[irreducible] def m__law_step : Fn := dDef 2 5 (dSeq (dAsg (dVar 0) (dgTup 3 (dgCons (dgName 2) (dgCons (dgName 3) (dgCons (dgName 4) (dgNil)))))) (dSeq (dIfS (dTest (dBin fEq (dVar 1) (dC (.str "e")))) (dRet (dTup (daCons (dBin fAdd (dVar 2) (dC (.int 1))) (daCons (dVar 3) (daCons (dVar 4) (daNil)))))) (dsNext)) (dSeq (dIfS (dTest (dBin fEq (dVar 1) (dC (.str "w")))) (dRet (dTup (daCons (dBin fSubI (dVar 2) (dC (.int 1))) (daCons (dVar 3) (daCons (dVar 4) (daNil)))))) (dsNext)) (dRet (dIf (dTest (dBin fEq (dVar 1) (dC (.str "n")))) (dTup (daCons (dVar 2) (daCons (dBin fAdd (dVar 3) (dC (.int 1))) (daCons (dBin fAdd (dVar 4) (dVar 2)) (daNil))))) (dTup (daCons (dVar 2) (daCons (dBin fSubI (dVar 3) (dC (.int 1))) (daCons (dBin fSubI (dVar 4) (dVar 2)) (daNil))))))))))
@[irreducible] def m__law_led : Fn := dDef 1 3 (dSeq (dSet 1 (dTup (daCons (dC (.int 0)) (daCons (dC (.int 0)) (daCons (dC (.int 0)) (daNil)))))) (dSeq (dFor (diSeq (dVar 0)) (dgName 2) (dSet 1 (dCall m__law_step (daCons (dVar 1) (daCons (dVar 2) (daNil)))))) (dRet (dVar 1))))
@[irreducible] def m__law_stroll : Fn := dDef 3 4 (dRet (dStrM fJoin (dC (.str "")) (dLcF finL [3] (diRange1 (daCons (dCall m__law_dip (daCons (dVar 0) (daCons (dBin fAdd (dVar 2) (dC (.int 1))) (daNil)))) (daNil))) (dgName 3) (dYes) (dCall m__law_one_of (daCons (dVar 0) (daCons (dVar 1) (daNil)))))))
@[irreducible] def m__law_direct : Fn := dDef 2 9 (dSeq (dSet 2 (dLst (daCons (dTup (daCons (dC (.str "")) (daCons (dC (.int 0)) (daCons (dC (.int 0)) (daNil))))) (daNil)))) (dSeq (dFor (diRange1 (daCons (dBin fAdd (dVar 0) (dVar 1)) (daNil))) (dgName 3) (dSeq (dSet 4 (dLstM (daNil))) (dSeq (dFor (diSeq (dVar 2)) (dgTup 3 (dgCons (dgName 5) (dgCons (dgName 6) (dgCons (dgName 7) (dgNil))))) (dSeq (dIfS (dTest (dBin fLt (dVar 6) (dVar 0))) (dDrop (dAppend (dVar 4) (dTup (daCons (dBin fAdd (dVar 5) (dC (.str "e"))) (daCons (dBin fAdd (dVar 6) (dC (.int 1))) (daCons (dVar 7) (daNil))))))) (dsNext)) (dIfS (dTest (dBin fLt (dVar 7) (dVar 1))) (dDrop (dAppend (dVar 4) (dTup (daCons (dBin fAdd (dVar 5) (dC (.str "n"))) (daCons (dVar 6) (daCons (dBin fAdd (dVar 7) (dC (.int 1))) (daNil))))))) (dsNext)))) (dSet 2 (dVar 4))))) (dRet (dLcF finL [8] (diSeq (dVar 2)) (dgName 8) (dYes) (dBin fIx (dVar 8) (dC (.int 0)))))))
@[irreducible] noncomputable def m__law_right (tP : Str → Addr) : Fn := dDef 1 12 (dSeq (dFor (diRange1 (daCons (dC (.int 3)) (daNil))) (dgName 1) (dSeq (dPar 2 3 (daCons (dCall m__law_dip (daCons (dVar 0) (daCons (dC (.int 6)) (daNil)))) (daCons (dCall m__law_dip (daCons (dVar 0) (daCons (dC (.int 5)) (daNil)))) (daNil)))) (dSeq (dAsg (dTup (daCons (dCall m__law_direct (daCons (dVar 2) (daCons (dVar 3) (daNil)))) (daCons (dCall m__law_led (daCons (dCall m__law_one_of (daCons (dVar 0) (daCons (dCall m__law_direct (daCons (dVar 2) (daCons (dVar 3) (daNil)))) (daNil)))) (daNil))) (daNil)))) (dgTup 2 (dgCons (dgName 4) (dgCons (dgName 5) (dgNil))))) (dSeq (dSet 6 (dLcF finL [9] (diSeq (dVar 4)) (dgName 9) (dTest (dBin fEq (dCall m__law_led (daCons (dVar 9) (daNil))) (dVar 5))) (dVar 9))) (dSeq (dIfS (dTest (dBin fNe (dVar 6) (dFn fSortS (daCons (dVar 6) (daNil))))) (dRet (dC (.bl false))) (dsNext)) (dSeq (dFor (diRange1 (daCons (dFn fLen (daCons (dVar 6) (daNil))) (daNil))) (dgName 7) (dSeq (dIfS (dTest (dBin fNe (dLst (daCons (dCall m_direct_walk (daCons (dVar 5) (daCons (dVar 7) (daNil)))) (daCons (dCallK 0 2 [1, 0] m_direct_walk daNil (daCons (dVar 7) (daCons (dVar 5) (daNil)))) (daNil)))) (dLst (daCons (dBin fIx (dVar 6) (dVar 7)) (daCons (dBin fIx (dVar 6) (dVar 7)) (daNil)))))) (dRet (dC (.bl false))) (dsNext)) (dIfS (dTest (dBin fNe (dFn (orC (orC fRepr fReprE) fReprD) (daCons (dLst (daCons (dCall m_place_of (daCons (dBin fIx (dVar 6) (dVar 7)) (daNil))) (daCons (dCallK 0 1 [0] m_place_of daNil (daCons (dBin fIx (dVar 6) (dVar 7)) (daNil))) (daNil)))) (daNil))) (dFn (orC (orC fRepr fReprE) fReprD) (daCons (dLst (daCons (dVar 7) (daCons (dVar 7) (daNil)))) (daNil))))) (dRet (dC (.bl false))) (dsNext)))) (dSeq (dIfS (dTest (dBin fNe (dLamR 0 (tP "_law_right") (("_law_right" : Str) ++ ".<locals>." ++ "<lambda>") res__law_tried (dCall m_direct_walk (daCons (dVar 5) (daCons (dFn fLen (daCons (dVar 6) (daNil))) (daNil))))) (dTup (daCons (dC (.str "index")) (daCons (dFn fLen (daCons (dVar 6) (daNil))) (daNil)))))) (dRet (dC (.bl false))) (dsNext)) (dFor (diSeq (dLst (daCons (dTup (daCons (dVar 2) (daCons (dVar 3) (daCons (dBin fAdd (dBin fMul (dVar 2) (dVar 3)) (dC (.int 1))) (daNil))))) (daCons (dTup (daCons (dVar 2) (daCons (dVar 3) (daCons (dUn fNeg (dC (.int 1))) (daNil))))) (daCons (dTup (daCons (dVar 2) (daCons (dUn fNeg (dC (.int 1))) (daCons (dC (.int 0)) (daNil))))) (daCons (dTup (daCons (dUn fNeg (dC (.int 1))) (daCons (dVar 3) (daCons (dC (.int 0)) (daNil))))) (daNil))))))) (dgName 8) (dIfS (dTest (dBin fNe (dLamR 0 (tP "_law_right") (("_law_right" : Str) ++ ".<locals>." ++ "<lambda>") res__law_tried (dCall m_direct_walk (daCons (dVar 8) (daCons (dC (.int 0)) (daNil))))) (dC (.str "none")))) (dRet (dC (.bl false))) (dsNext)))))))))) (dSeq (dSet 9 (dCall m__law_stroll (daCons (dVar 0) (daCons (dCall m__law_one_of (daCons (dVar 0) (daCons (dLst (daCons (dC (.str "en")) (daCons (dC (.str "een")) (daCons (dC (.str "enn")) (daNil))))) (daNil)))) (daCons (dC (.int 24)) (daNil)))))) (dSeq (dAsg (dTup (daCons (dCall m_walked (daCons (dVar 9) (daNil))) (daCons (dCall m_place_of (daCons (dVar 9) (daNil))) (daNil)))) (dgTup 2 (dgCons (dgName 5) (dgCons (dgName 10) (dgNil))))) (dSeq (dIfS (dOr (dTest (dBin fNe (dCall m_direct_walk (daCons (dVar 5) (daCons (dVar 10) (daNil)))) (dVar 9))) (dTest (dInRg true (dVar 10) (dCall m_direct_walks (daCons (dVar 5) (daNil)))))) (dRet (dC (.bl false))) (dsNext)) (dSeq (dSet 11 (dCall m__law_dip (daCons (dVar 0) (daCons (dCall m_direct_walks (daCons (dVar 5) (daNil))) (daNil))))) (dRet (dAndV (dBin fEq (dCall m_place_of (daCons (dCall m_direct_walk (daCons (dVar 5) (daCons (dVar 11) (daNil)))) (daNil))) (dVar 11)) (dBin fEq (dCall m_walked (daCons (dCall m_direct_walk (daCons (dVar 5) (daCons (dVar 11) (daNil)))) (daNil))) (dVar 5)))))))))
@[irreducible] noncomputable def m_law (tP : Str → Addr) : Fn := dDef 1 2 (dRet (dFn fAll (daCons (dLcF finL [1] (diRange1 (daCons (dFn fMax (daCons (dC (.int 2)) (daCons (dFn fMin (daCons (dFn fLen (daCons (dVar 0) (daNil))) (daCons (dC (.int 5)) (daNil)))) (daNil)))) (daNil))) (dgName 1) (dYes) (dCall (m__law_right tP) (daCons (dCall m__law_well (daCons (dVar 0) (daCons (dVar 1) (daNil)))) (daNil)))) (daNil))))
end
end A10

set_option Elab.async false
set_option linter.all false
set_option maxRecDepth 100000
set_option maxHeartbeats 1000000
set_option exponentiation.threshold 10000
namespace A10
open PySem PySem.Spec PyProof.Rows L2 Ar
local macro_rules | `(tactic| simp_arith) => `(tactic| simp -implicitDefEqProofs only [↓ok_ok, ↓ok_stk, ↓ok_exc, ↓ok_bind, ↓ok_nox, ↓ok_of, ↓ok_lenO, ↓ok_propO, ↓ok_txtO, ↓ok_clsM, ↓ok_tupRg, ↓ok_lstRg, ↓oko_some, ↓oko_none, ↓oko_ite, ↓oko_map, ↓ok_ite, ↓oks_nx, ↓oks_stk, ↓oks_exc, ↓oks_bk, ↓oks_ct, ↓oks_rt, ↓oks_then, ↓oks_thenN, ↓ok_var0, ↓ok_varS, ↓ok_c, ↓ok_bin, ↓ok_un, ↓okb, ↓ok_test, ↓ok_tru, ↓ok_and, ↓ok_or, ↓ok_not, ↓ok_andV, ↓ok_orV, ↓ok_notV, ↓ok_if, ↓ok_ifT, ↓ok_fld, ↓ok_slt, ↓o_slt0, ↓ok_make, ↓ok_makeS, ↓o_isaC, ↓o_isn_ins, ↓o_is_ins, ↓ok_izip, ↓zipR_ll, ↓zipR_tl, ↓zipR_tt, ↓o_parts, ↓o_shares, ↓o_east, ↓o_north, ↓o_rests, zip2, zip3, ↓ok_nil, ↓ok_cons, ↓ok_star, ↓seqA_tup, ↓seqA_lst, ↓ok_revL, ↓ok_revLM, ↓ok_cmp2, ↓ok_tup, ↓ok_lst, ↓ok_lstM, ↓ok_fn, ↓ok_call, ↓ok_callK, ↓ok_noPart, ↓oki, ↓ok_part, ↓ok_sl, ↓oks_next, ↓oks_seq, ↓oks_drop, ↓oks_ret, ↓oks_retN, ↓oks_break, ↓oks_cont, ↓oks_never, ↓oks_if, ↓oks_try, ↓oks_asg, ↓oks_set, ↓ok_gName, ↓ok_gNil, ↓ok_gCons, ↓ok_gTup, ↓ok_gUnl, ↓ok_gSub, ↓okl2, ↓okl3, ↓oks_par, ↓oks_par3, ↓okv0, ↓okvS, ↓oks_aug, ↓ok_append, ↓ok_extend, ↓seqL_lst, ↓ok_strM, ↓ok_def, ↓ok_iSeq, ↓oki1, ↓oki2, ↓ok_range1, ↓ok_range2, ↓oks_for, ↓ok_lc, ↓ok_finL, ↓ok_finM, ↓ok_yes, ↓setg0, ↓setgS, ↓unsetg0, ↓unsetgS, ↓wipeg0, ↓wipegS, ↓initg0, ↓initgN, ↓initgS, ↓lenis0, ↓lenisS, ↓lenle0, ↓lenleS, ↓seqI_lst, ↓seqIE_lst, ↓seqIE_tup, ↓seqIE_scr, ↓seqI_str, ↓okt, ↓ok_kIx, ↓ok_kGet, ↓ok_revS, ↓okd, ↓ok_dGet, ↓o_mulS, ↓seqI_tup, ↓seqI_scr, ↓o_ne_mv, ↓o_eq_mv, ↓ok_enum, ↓okl1, ↓o_mul_rep, ↓o_mul_iiF, cut_2of3, ↓o_ne_2, ↓o_eq_2, ↓o_ne_bb, ↓o_eq_bb, ↓o_tru_b, ↓o_tru_i, ↓o_tru_t, ↓o_tru_l, ↓o_tru_n, ↓o_isn_non, ↓o_isn_int, ↓o_isn_tup, ↓o_isn_lst, ↓o_isn_str, ↓o_is_non, ↓o_is_int, ↓o_is_tup, ↓o_is_lst, ↓o_is_str, ↓o_eq_ii, ↓o_ne_ii, ↓o_add_ii, ↓o_sub_ii, ↓o_mul_ii, ↓o_div_ii, ↓o_mod_ii, ↓o_lt_ii, ↓o_le_ii, ↓o_gt_ii, ↓o_ge_ii, ↓o_add_tt, ↓o_add_ll, ↓o_add_ss, ↓o_divmod_ii, ↓o_neg_i, ↓o_int_i, ↓o_abs_i, ↓o_max_ii, ↓o_max1_3, ↓o_min1_3, ↓o_min_ii, ↓o_len_tup, ↓o_len_lst, ↓o_len_scr, ↓o_slc_lst, ↓o_slc_scr, ↓o_slc_tup, ↓o_tuple_lst, ↓o_tuple_tup, ↓o_tuple_scr, ↓o_list_tup, ↓o_list_lst, ↓o_bool_b, ↓o_isa_int_int, ↓o_isa_int_bool, ↓o_isa_int_tup, ↓o_isa_int_str, ↓o_isa_int_lst, ↓o_isa_bl_int, ↓o_isa_bl_bool, ↓o_isa_tup_tup, ↓o_isa_tup_int, ↓o_isa_tup_lst, ↓o_isa_tup_str, ↓o_isa_str_str, ↓o_isa_str_int, ↓o_isa_str_tup, ↓o_isa_lst_lst, ↓o_isa_lst_tup, ↓o_isa_lst_int, ↓o_isa_non_int, ↓o_isa_non_tup, ↓o_sum_3, ↓o_all_3, ↓o_atI_0, ↓o_atI_1, ↓o_atI_2, ↓o_atI_3, ↓o_atI_4, ↓o_atI_5, ↓o_ixN_30, ↓o_ixN_31, ↓o_ixN_32, ↓o_fix_tup, ↓o_fix_lst, ↓o_fix_scr, ↓o_pow_6, ↓o_pow_18, pick_0, pick_01, pick_10, pick_012, pick_021, pick_102, pick_120, pick_201, pick_210, eq_self, List.cons_append, List.nil_append, List.append_nil, List.set_set, List.set_cons_zero, List.set_cons_succ, List.length_cons, List.length_nil, Nat.zero_add, Nat.reduceAdd, Nat.reduceLeDiff, castN, natabsN, mulOkL, mulOkR, Bool.true_or, Nat.reducePow, Nat.reduceLT, ne_eq, not_true_eq_false, not_false_eq_true, rng_3, rng_2, Int.reduceEq, Int.reduceLT, Int.reduceLE, Int.reduceAdd, Int.reduceSub, Int.reduceMul, Int.reduceNeg, true_and, and_true, if_true, if_false, Bool.false_eq_true, Bool.true_eq_false, decide_true, decide_false, Bool.not_true, Bool.not_false, Bool.and_true, Bool.true_and, Bool.and_false, Bool.false_and])
local macro_rules | `(tactic| simp_arith [$ts,*]) => `(tactic| simp -implicitDefEqProofs only [↓ok_ok, ↓ok_stk, ↓ok_exc, ↓ok_bind, ↓ok_nox, ↓ok_of, ↓ok_lenO, ↓ok_propO, ↓ok_txtO, ↓ok_clsM, ↓ok_tupRg, ↓ok_lstRg, ↓oko_some, ↓oko_none, ↓oko_ite, ↓oko_map, ↓ok_ite, ↓oks_nx, ↓oks_stk, ↓oks_exc, ↓oks_bk, ↓oks_ct, ↓oks_rt, ↓oks_then, ↓oks_thenN, ↓ok_var0, ↓ok_varS, ↓ok_c, ↓ok_bin, ↓ok_un, ↓okb, ↓ok_test, ↓ok_tru, ↓ok_and, ↓ok_or, ↓ok_not, ↓ok_andV, ↓ok_orV, ↓ok_notV, ↓ok_if, ↓ok_ifT, ↓ok_fld, ↓ok_slt, ↓o_slt0, ↓ok_make, ↓ok_makeS, ↓o_isaC, ↓o_isn_ins, ↓o_is_ins, ↓ok_izip, ↓zipR_ll, ↓zipR_tl, ↓zipR_tt, ↓o_parts, ↓o_shares, ↓o_east, ↓o_north, ↓o_rests, zip2, zip3, ↓ok_nil, ↓ok_cons, ↓ok_star, ↓seqA_tup, ↓seqA_lst, ↓ok_revL, ↓ok_revLM, ↓ok_cmp2, ↓ok_tup, ↓ok_lst, ↓ok_lstM, ↓ok_fn, ↓ok_call, ↓ok_callK, ↓ok_noPart, ↓oki, ↓ok_part, ↓ok_sl, ↓oks_next, ↓oks_seq, ↓oks_drop, ↓oks_ret, ↓oks_retN, ↓oks_break, ↓oks_cont, ↓oks_never, ↓oks_if, ↓oks_try, ↓oks_asg, ↓oks_set, ↓ok_gName, ↓ok_gNil, ↓ok_gCons, ↓ok_gTup, ↓ok_gUnl, ↓ok_gSub, ↓okl2, ↓okl3, ↓oks_par, ↓oks_par3, ↓okv0, ↓okvS, ↓oks_aug, ↓ok_append, ↓ok_extend, ↓seqL_lst, ↓ok_strM, ↓ok_def, ↓ok_iSeq, ↓oki1, ↓oki2, ↓ok_range1, ↓ok_range2, ↓oks_for, ↓ok_lc, ↓ok_finL, ↓ok_finM, ↓ok_yes, ↓setg0, ↓setgS, ↓unsetg0, ↓unsetgS, ↓wipeg0, ↓wipegS, ↓initg0, ↓initgN, ↓initgS, ↓lenis0, ↓lenisS, ↓lenle0, ↓lenleS, ↓seqI_lst, ↓seqIE_lst, ↓seqIE_tup, ↓seqIE_scr, ↓seqI_str, ↓okt, ↓ok_kIx, ↓ok_kGet, ↓ok_revS, ↓okd, ↓ok_dGet, ↓o_mulS, ↓seqI_tup, ↓seqI_scr, ↓o_ne_mv, ↓o_eq_mv, ↓ok_enum, ↓okl1, ↓o_mul_rep, ↓o_mul_iiF, cut_2of3, ↓o_ne_2, ↓o_eq_2, ↓o_ne_bb, ↓o_eq_bb, ↓o_tru_b, ↓o_tru_i, ↓o_tru_t, ↓o_tru_l, ↓o_tru_n, ↓o_isn_non, ↓o_isn_int, ↓o_isn_tup, ↓o_isn_lst, ↓o_isn_str, ↓o_is_non, ↓o_is_int, ↓o_is_tup, ↓o_is_lst, ↓o_is_str, ↓o_eq_ii, ↓o_ne_ii, ↓o_add_ii, ↓o_sub_ii, ↓o_mul_ii, ↓o_div_ii, ↓o_mod_ii, ↓o_lt_ii, ↓o_le_ii, ↓o_gt_ii, ↓o_ge_ii, ↓o_add_tt, ↓o_add_ll, ↓o_add_ss, ↓o_divmod_ii, ↓o_neg_i, ↓o_int_i, ↓o_abs_i, ↓o_max_ii, ↓o_max1_3, ↓o_min1_3, ↓o_min_ii, ↓o_len_tup, ↓o_len_lst, ↓o_len_scr, ↓o_slc_lst, ↓o_slc_scr, ↓o_slc_tup, ↓o_tuple_lst, ↓o_tuple_tup, ↓o_tuple_scr, ↓o_list_tup, ↓o_list_lst, ↓o_bool_b, ↓o_isa_int_int, ↓o_isa_int_bool, ↓o_isa_int_tup, ↓o_isa_int_str, ↓o_isa_int_lst, ↓o_isa_bl_int, ↓o_isa_bl_bool, ↓o_isa_tup_tup, ↓o_isa_tup_int, ↓o_isa_tup_lst, ↓o_isa_tup_str, ↓o_isa_str_str, ↓o_isa_str_int, ↓o_isa_str_tup, ↓o_isa_lst_lst, ↓o_isa_lst_tup, ↓o_isa_lst_int, ↓o_isa_non_int, ↓o_isa_non_tup, ↓o_sum_3, ↓o_all_3, ↓o_atI_0, ↓o_atI_1, ↓o_atI_2, ↓o_atI_3, ↓o_atI_4, ↓o_atI_5, ↓o_ixN_30, ↓o_ixN_31, ↓o_ixN_32, ↓o_fix_tup, ↓o_fix_lst, ↓o_fix_scr, ↓o_pow_6, ↓o_pow_18, pick_0, pick_01, pick_10, pick_012, pick_021, pick_102, pick_120, pick_201, pick_210, eq_self, List.cons_append, List.nil_append, List.append_nil, List.set_set, List.set_cons_zero, List.set_cons_succ, List.length_cons, List.length_nil, Nat.zero_add, Nat.reduceAdd, Nat.reduceLeDiff, castN, natabsN, mulOkL, mulOkR, Bool.true_or, Nat.reducePow, Nat.reduceLT, ne_eq, not_true_eq_false, not_false_eq_true, rng_3, rng_2, Int.reduceEq, Int.reduceLT, Int.reduceLE, Int.reduceAdd, Int.reduceSub, Int.reduceMul, Int.reduceNeg, true_and, and_true, if_true, if_false, Bool.false_eq_true, Bool.true_eq_false, decide_true, decide_false, Bool.not_true, Bool.not_false, Bool.and_true, Bool.true_and, Bool.and_false, Bool.false_and, $ts,*])
theorem dip_spec {n : Nat} {μ : Mu} {s : Int} {Q : D → Mu → Prop} (h : Wl n μ) (h0 : 0 < s) (h1 : s < 1073741824) (q : ∀ d μ', Wl n μ' → Gr n μ μ' → 0 ≤ d → d < s → Q (.int d) μ') : Ok (m__law_dip [.loc n, .int s] μ) Q := by
  obtain ⟨a, b, c, ha, hb, hb2, e⟩ := h
  have e1 := fun o => set_new (o := o) e
  unfold m__law_dip
  simp_arith [↓o_fix_loc e, ↓o_place e, ↓o_fix_loc (e1 _), ↓o_place (e1 _)]
  by_cases hp : 0 < a
  · rw [if_pos (decide_eq_true hp)]
    exact ⟨⟨h0, fdOk_small (by omega) (by omega)⟩, q _ _ ⟨_, _, _, Int.ediv_nonneg ha (by omega), hb, hb2, e1 _⟩ Gr.set (Int.emod_nonneg _ (by omega)) (Int.emod_lt_of_pos _ h0)⟩
  · rw [if_neg (by simpa using hp)]
    have m1 : ∀ x : Int, 0 ≤ x.fmod 2147483399 ∧ x.fmod 2147483399 < 2147483399 := fun x => ⟨Int.fmod_nonneg_of_pos _ (by decide), Int.fmod_lt_of_pos _ (by decide)⟩
    refine ⟨mul_l (by omega), by decide, by omega, q _ _ ⟨_, _, _, ha, (m1 _).1, (m1 _).2, e1 _⟩ Gr.set (Int.fmod_nonneg_of_pos _ h0) (Int.fmod_lt_of_pos _ h0)⟩
theorem well_spec {ns : List Int} {t : Int} {μ : Mu} {Q : D → Mu → Prop} (h0 : 0 ≤ t) (hn : ns.length ≤ 63) (q : ∀ μ', Wl μ.length μ' → Gr μ.length μ μ' → Q (.loc μ.length) μ') : Ok (m__law_well [.scr (ns.map .int), .int t] μ) Q := by
  have hl : (cutL (List.map D.int ns) none (some 5)).length ≤ 999999 := by
    have := cut_len (xs := List.map D.int ns) (lo := none) (hi := some 5)
    rw [List.length_map] at this
    omega
  have items : ∀ z : Int, ∀ d ∈ cutL (List.map D.int ns) none (some 5) ++ [D.int z], ∃ i, d = D.int i := fun z d hd => by
    rcases List.mem_append.mp hd with h | h
    · exact int_mem (cut_mem h)
    · exact ⟨z, by simpa using h⟩
  unfold m__law_well
  simp_arith [List.length_map]
  by_cases ht : t < ns.length
  · obtain ⟨z, hz⟩ := int_at h0 ht
    rw [if_pos (decide_eq_true ht), hz]
    simp only [oko_some]
    refine ⟨hl, ?_⟩
    refine oks_forInv (fun pre rest Γ μ' => μ' = μ ∧ (∀ d ∈ rest, ∃ i, d = D.int i) ∧ (pre ++ rest ≠ []) ∧ ∃ x y, Γ = [some (D.scr (ns.map D.int)), some (D.int t), some (D.int z), some (D.int x), y] ∧ (pre = [] ∨ 0 ≤ x ∧ x < 2147483399)) _ [] _ _ ⟨rfl, items _, by simp, _, _, rfl, .inl rfl⟩ ?_ ?_
    · rintro pre d rest Γ μ' ⟨rfl, hi, hne, x, y, rfl, hx⟩
      obtain ⟨i, rfl⟩ := hi d List.mem_cons_self
      simp_arith
      exact ⟨fun d hd => hi d (List.mem_cons_of_mem _ hd), by simp, _, _, rfl, .inr (mod_p _)⟩
    · rintro pre Γ μ' ⟨rfl, hi, hne, x, y, rfl, hx⟩
      have hx : 0 ≤ x ∧ x < 2147483399 := by
        rcases hx with h | h
        · exact absurd h (by simpa using hne)
        · exact h
      simp_arith
      have fin : ∀ a : Int, 0 ≤ a → Q (D.loc (List.length μ')) (μ' ++ [MO.lst [D.int a, D.int x, D.int 0]]) := fun a ha => q _ ⟨a, x, 0, ha, hx.1, hx.2, app_new⟩ Gr.app
      repeat' split
      all_goals exact fin _ (by first | omega | decide)
  · rw [if_neg (by simpa using ht)]
    refine ⟨hl, ?_⟩
    generalize 13 * t + 6 = z
    refine oks_forInv (fun pre rest Γ μ' => μ' = μ ∧ (∀ d ∈ rest, ∃ i, d = D.int i) ∧ (pre ++ rest ≠ []) ∧ ∃ x y, Γ = [some (D.scr (ns.map D.int)), some (D.int t), some (D.int z), some (D.int x), y] ∧ (pre = [] ∨ 0 ≤ x ∧ x < 2147483399)) _ [] _ _ ⟨rfl, items _, by simp, _, _, rfl, .inl rfl⟩ ?_ ?_
    · rintro pre d rest Γ μ' ⟨rfl, hi, hne, x, y, rfl, hx⟩
      obtain ⟨i, rfl⟩ := hi d List.mem_cons_self
      simp_arith
      exact ⟨fun d hd => hi d (List.mem_cons_of_mem _ hd), by simp, _, _, rfl, .inr (mod_p _)⟩
    · rintro pre Γ μ' ⟨rfl, hi, hne, x, y, rfl, hx⟩
      have hx : 0 ≤ x ∧ x < 2147483399 := by
        rcases hx with h | h
        · exact absurd h (by simpa using hne)
        · exact h
      simp_arith
      have fin : ∀ a : Int, 0 ≤ a → Q (D.loc (List.length μ')) (μ' ++ [MO.lst [D.int a, D.int x, D.int 0]]) := fun a ha => q _ ⟨a, x, 0, ha, hx.1, hx.2, app_new⟩ Gr.app
      repeat' split
      all_goals exact fin _ (by first | omega | decide)

inductive Let where | e | n | w | s
  deriving DecidableEq
def Let.c : Let → Nat
  | .e => 101
  | .n => 110
  | .w => 119
  | .s => 115
def word (ls : List Let) : Str := ⟨(ls.map Let.c).toArray⟩
def chD (l : Let) : D := .str ⟨#[l.c]⟩
theorem word_items (ls : List Let) : ((word ls).cps.toList.map fun c => D.str ⟨#[c]⟩) = ls.map chD := by
  unfold word chD
  simp
theorem word_len (ls : List Let) : (word ls).length = ls.length := by
  unfold word Str.length
  simp
theorem word_app (a b : List Let) : word a ++ word b = word (a ++ b) := by
  unfold word
  rw [List.map_append]
  show (⟨(a.map Let.c).toArray ++ (b.map Let.c).toArray⟩ : Str) = _
  simp
abbrev mv (t : Int × Int × Int) : D := .tup [.int t.1, .int t.2.1, .int t.2.2]
def tmv (p q : Int × Int × Int) : Int × Int × Int := (p.1 + q.1, p.2.1 + q.2.1, p.2.2 + q.2.2 + p.1 * q.2.1)
/-- small enough to be multiplied -/
def Sm (B : Nat) (t : Int × Int × Int) : Prop := t.1.natAbs ≤ B ∧ t.2.1.natAbs ≤ B
theorem Sm.mul {A B : Nat} {p q : Int × Int × Int} (h : Sm A p) (h2 : Sm B q) (ha : A < LIM) (hb : B < LIM) : mulOk p.1 q.2.1 = true := mul_lim (Nat.lt_of_le_of_lt h.1 ha) (Nat.lt_of_le_of_lt h2.2 hb)
theorem Sm.add {A B : Nat} {p q : Int × Int × Int} (h : Sm A p) (h2 : Sm B q) : Sm (A + B) (tmv p q) := ⟨Nat.le_trans (Int.natAbs_add_le _ _) (Nat.add_le_add h.1 h2.1), Nat.le_trans (Int.natAbs_add_le _ _) (Nat.add_le_add h.2 h2.2)⟩
theorem Sm.mono {A B : Nat} {p : Int × Int × Int} (h : Sm A p) (hl : A ≤ B) : Sm B p := ⟨Nat.le_trans h.1 hl, Nat.le_trans h.2 hl⟩
theorem Sm.zero : Sm 0 (0, 0, 0) := ⟨by decide, by decide⟩
theorem tmv_assoc (p q r : Int × Int × Int) : tmv (tmv p q) r = tmv p (tmv q r) := by
  unfold tmv
  simp only [Prod.mk.injEq, Int.add_mul, Int.mul_add]
  omega
theorem tmv_zero (p : Int × Int × Int) : tmv p (0, 0, 0) = p := by
  unfold tmv
  simp only [Int.mul_zero, Int.add_zero]
theorem zero_tmv (p : Int × Int × Int) : tmv (0, 0, 0) p = p := by
  unfold tmv
  simp only [Int.zero_mul, Int.add_zero, Int.zero_add]
def fold (ts : List (Int × Int × Int)) : Int × Int × Int := ts.foldl tmv (0, 0, 0)
theorem foldl_from (ts : List (Int × Int × Int)) : ∀ p, ts.foldl tmv p = tmv p (fold ts) := by
  induction ts with
  | nil => intro p; exact (tmv_zero p).symm
  | cons t ts ih =>
    intro p
    show ts.foldl tmv (tmv p t) = tmv p (ts.foldl tmv (tmv (0, 0, 0) t))
    rw [ih, ih (tmv (0, 0, 0) t), zero_tmv, tmv_assoc]
theorem fold_app (ts us : List (Int × Int × Int)) : fold (ts ++ us) = tmv (fold ts) (fold us) := by
  unfold fold
  rw [List.foldl_append, foldl_from us]
  rfl
theorem fold_one (t : Int × Int × Int) : fold [t] = t := zero_tmv t
theorem fold_sm {B : Nat} : ∀ ts : List (Int × Int × Int), (∀ t ∈ ts, Sm B t) → Sm (ts.length * B) (fold ts)
  | [], _ => by rw [List.length_nil, Nat.zero_mul]; exact Sm.zero
  | t :: ts, h => by
    have e : fold (t :: ts) = tmv t (fold ts) := by
      have := fold_app [t] ts
      rw [fold_one] at this
      exact this
    rw [e, List.length_cons, Nat.add_mul, Nat.one_mul, Nat.add_comm]
    exact (h t List.mem_cons_self).add (fold_sm ts fun t ht => h t (List.mem_cons_of_mem _ ht))
theorem isint_spec {i : Int} {μ : Mu} {Q : D → Mu → Prop} (q : Q (.bl true) μ) : Ok (m_is_integer [.int i] μ) Q := by
  unfold m_is_integer
  simp_arith
  exact q
theorem ismove_spec {t : Int × Int × Int} {μ : Mu} {Q : D → Mu → Prop} (q : Q (.bl true) μ) : Ok (m_is_move [mv t] μ) Q := by
  unfold m_is_move
  simp_arith [↓ok_lcConsY, ↓ok_lcNil]
  refine isint_spec ?_
  refine isint_spec ?_
  refine isint_spec ?_
  simp_arith
  exact q
theorem check_spec {t : Int × Int × Int} {μ : Mu} {Q : D → Mu → Prop} (q : Q .non μ) : Ok (m_check_move [mv t] μ) Q := by
  unfold m_check_move
  simp_arith
  refine ismove_spec ?_
  try simp_arith
  exact q
theorem tm_spec {p t : Int × Int × Int} {μ : Mu} {Q : D → Mu → Prop} (h : mulOk p.1 t.2.1 = true) (q : Q (mv (tmv p t)) μ) : Ok (m_then_move [mv p, mv t] μ) Q := by
  unfold m_then_move
  simp_arith
  exact ⟨h, q⟩
def mvL : Let → Int × Int × Int
  | .e => (1, 0, 0)
  | .n => (0, 1, 0)
  | .w => (-1, 0, 0)
  | .s => (0, -1, 0)
def way (ls : List Let) : Int × Int × Int := fold (ls.map mvL)
theorem iswalk_spec {ls : List Let} {μ : Mu} {Q : D → Mu → Prop} (hl : ls.length ≤ 1000) (q : Q (.bl true) μ) : Ok (m_is_walk [.str (word ls), .str "enws"] μ) Q := by
  unfold m_is_walk
  simp_arith [word_items]
  refine ⟨by rw [List.length_map]; omega, ?_⟩
  refine (ok_lcInv (fun acc rest μ' => μ' = μ ∧ (∀ d ∈ acc, d = D.bl true) ∧ ∀ d ∈ rest, ∃ l, d = chD l) _ [] _ ⟨rfl, fun d hd => (by cases hd), fun d hd => (by obtain ⟨l, _, e⟩ := List.mem_map.mp hd; exact ⟨l, e.symm⟩)⟩ ?_).mono fun ys μ2 hy => ?_
  · rintro acc d rest μ' ⟨rfl, ha, hr⟩
    obtain ⟨l, rfl⟩ := hr d List.mem_cons_self
    have e : fIn false μ' (chD l) (.str "enws") = some (.bl true) := by cases l <;> rfl
    simp_arith [e]
    refine ⟨fun d hd => ?_, fun d hd => hr d (List.mem_cons_of_mem _ hd)⟩
    rcases List.mem_append.mp hd with z | z
    · exact ha d z
    · exact List.mem_singleton.mp z
  · obtain ⟨rfl, h2, h3⟩ := hy
    exact all_true h2 q
theorem mvL_sm (l : Let) : Sm 1 (mvL l) := by cases l <;> exact ⟨by decide, by decide⟩
theorem walkmove_spec {ls : List Let} {μ : Mu} {Q : D → Mu → Prop} (hl : ls.length ≤ 1000) (q : Q (mv (way ls)) μ) : Ok (m_walk_move [.str (word ls)] μ) Q := by
  unfold m_walk_move
  simp_arith [word_items]
  refine oks_forInv (fun pre rest Γ μ' => μ' = μ ∧ ∃ (us vs : List Let) (x : Option D), ls = us ++ vs ∧ rest = vs.map chD ∧ Γ = [some (.str (word ls)), some (mv (way us)), x]) _ [] _ _ ⟨rfl, [], ls, none, rfl, rfl, rfl⟩ ?_ ?_
  · rintro pre d rest Γ μ' ⟨rfl, us, vs, x, hls, hr, rfl⟩
    cases vs with
    | nil => cases hr
    | cons l vs =>
      cases hr
      have hul : us.length ≤ 1000 := by rw [hls, List.length_append] at hl; omega
      have hu : Sm (us.length * 1) (way us) := by
        have := fold_sm (B := 1) (us.map mvL) fun t ht => by obtain ⟨l, _, e⟩ := List.mem_map.mp ht; rw [← e]; exact mvL_sm l
        rwa [List.length_map] at this
      have lk : ([("e", .tup [.int 1, .int 0, .int 0]), ("n", .tup [.int 0, .int 1, .int 0]), ("w", .tup [.int (-1), .int 0, .int 0]), ("s", .tup [.int 0, .int (-1), .int 0])] : List (Str × D)).lookup ⟨#[l.c]⟩ = some (mv (mvL l)) := by cases l <;> rfl
      unfold chD
      simp_arith
      rw [lk]
      have b1 : us.length * 1 < LIM := by have := B_LIM; have : 1 ≤ B30 := by unfold B30; exact Nat.one_le_pow _ _ (by decide)
                                          omega
      have b2 : 1 < LIM := by have := B_LIM; have : 1 ≤ B30 := by unfold B30; exact Nat.one_le_pow _ _ (by decide)
                              omega
      refine tm_spec (hu.mul (mvL_sm l) b1 b2) ?_
      try simp_arith
      have e3 : way (us ++ [l]) = tmv (way us) (mvL l) := by
        unfold way
        rw [List.map_append, fold_app, List.map_singleton, fold_one]
      exact ⟨us ++ [l], vs, _, by rw [hls, List.append_assoc]; rfl, rfl, by rw [e3]⟩
  · rintro pre Γ μ' ⟨rfl, us, vs, x, hls, hr, rfl⟩
    have hv : vs = [] := by
      cases vs with
      | nil => rfl
      | cons _ _ => cases hr
    subst hv
    rw [List.append_nil] at hls
    subst hls
    simp_arith
    exact q
theorem walked_spec {ls : List Let} {μ : Mu} {Q : D → Mu → Prop} (hl : ls.length ≤ 1000) (q : Q (mv (way ls)) μ) : Ok (m_walked [.str (word ls)] μ) Q := by
  unfold m_walked
  simp_arith
  refine iswalk_spec hl ?_
  try simp_arith
  exact walkmove_spec hl q
theorem way_snoc (us : List Let) (l : Let) : way (us ++ [l]) = tmv (way us) (mvL l) := by
  unfold way
  rw [List.map_append, fold_app, List.map_singleton, fold_one]
theorem way_app (a b : List Let) : way (a ++ b) = tmv (way a) (way b) := by
  unfold way
  rw [List.map_append, fold_app]
def isEN : Let → Bool
  | .e => true
  | .n => true
  | _ => false
theorem isen_spec {ls : List Let} {μ : Mu} {Q : D → Mu → Prop} (hl : ls.length ≤ 1000) (he : ∀ l ∈ ls, isEN l = true) (q : Q (.bl true) μ) : Ok (m_is_walk [.str (word ls), .str "en"] μ) Q := by
  unfold m_is_walk
  simp_arith [word_items]
  refine ⟨by rw [List.length_map]; omega, ?_⟩
  refine (ok_lcInv (fun acc rest μ' => μ' = μ ∧ (∀ d ∈ acc, d = D.bl true) ∧ ∀ d ∈ rest, ∃ l, isEN l = true ∧ d = chD l) _ [] _ ⟨rfl, fun d hd => (by cases hd), fun d hd => (by obtain ⟨l, m, e⟩ := List.mem_map.mp hd; exact ⟨l, he l m, e.symm⟩)⟩ ?_).mono fun ys μ2 hy => ?_
  · rintro acc d rest μ' ⟨rfl, ha, hr⟩
    obtain ⟨l, hl, rfl⟩ := hr d List.mem_cons_self
    have e : fIn false μ' (chD l) (.str "en") = some (.bl true) := by cases l <;> first | rfl | cases hl
    simp_arith [e]
    refine ⟨fun d hd => ?_, fun d hd => hr d (List.mem_cons_of_mem _ hd)⟩
    rcases List.mem_append.mp hd with z | z
    · exact ha d z
    · exact List.mem_singleton.mp z
  · obtain ⟨rfl, h2, h3⟩ := hy
    exact all_true h2 q
theorem eq_ee {μ : Mu} : fEq μ (chD .e) (.str (Str.ofString "e")) = some (.bl true) := by
  show some (D.bl ((⟨#[101]⟩ : Str) == Str.ofString "e")) = _
  rw [show ((⟨#[101]⟩ : Str) == Str.ofString "e") = true from by decide +kernel]
theorem eq_ne {μ : Mu} : fEq μ (chD .n) (.str (Str.ofString "e")) = some (.bl false) := by
  show some (D.bl ((⟨#[110]⟩ : Str) == Str.ofString "e")) = _
  rw [show ((⟨#[110]⟩ : Str) == Str.ofString "e") = false from by decide +kernel]
end A10

set_option Elab.async false
set_option linter.all false
set_option maxRecDepth 100000
set_option maxHeartbeats 1000000
namespace A10
open PySem PySem.Spec PyProof.Rows L2 Ar
/-! direct walks to a place that sweep an area, in order -/
def own : Nat → Nat → Nat → Int → List (List Let)
  | 0, x, y, a => if x = 0 ∧ y = 0 ∧ a = 0 then [[]] else []
  | n + 1, x, y, a => (match x with | 0 => [] | x + 1 => (own n x y (a - (y : Nat))).map (Let.e :: ·)) ++ (match y with | 0 => [] | y + 1 => (own n x y a).map (Let.n :: ·))
def O (x y : Nat) (a : Int) : List (List Let) := own (x + y) x y a
def oE (x y : Nat) (a : Int) : List (List Let) := match x with | 0 => [] | x + 1 => O x y (a - (y : Nat))
def oN (x y : Nat) (a : Int) : List (List Let) := match y with | 0 => [] | y + 1 => O x y a
theorem O_00 (a : Int) : O 0 0 a = if a = 0 then [[]] else [] := by simp [O, own]
theorem O_step {x y : Nat} (h : 0 < x + y) (a : Int) : O x y a = (oE x y a).map (Let.e :: ·) ++ (oN x y a).map (Let.n :: ·) := by
  obtain ⟨n, hn⟩ : ∃ n, x + y = n + 1 := ⟨x + y - 1, by omega⟩
  unfold O
  rw [hn]
  unfold own oE oN O
  congr 1
  · cases x with
    | zero => rfl
    | succ x => rw [show n = x + y from by omega]
  · cases y with
    | zero => rfl
    | succ y => rw [show n = x + y from by omega]
def cnt (x y : Nat) (a : Int) : Nat := (O x y a).length
theorem cnt_step {x y : Nat} (h : 0 < x + y) (a : Int) : cnt x y a = (oE x y a).length + (oN x y a).length := by
  unfold cnt
  rw [O_step h, List.length_append, List.length_map, List.length_map]
/-- what is proved of the walks step by step -/
theorem O_ind {P : Nat → Nat → Int → List Let → Prop} (h0 : P 0 0 0 []) (hE : ∀ x y a w, w ∈ O x y (a - (y : Nat)) → P x y (a - (y : Nat)) w → P (x + 1) y a (.e :: w)) (hN : ∀ x y a w, w ∈ O x y a → P x y a w → P x (y + 1) a (.n :: w)) :
    ∀ (n x y : Nat) (a : Int) (w : List Let), x + y = n → w ∈ O x y a → P x y a w
  | 0, x, y, a, w, hn, hw => by
    obtain ⟨rfl, rfl⟩ : x = 0 ∧ y = 0 := ⟨by omega, by omega⟩
    rw [O_00] at hw
    split at hw
    · rename_i h
      subst h
      rw [List.mem_singleton] at hw
      subst hw
      exact h0
    · cases hw
  | n + 1, x, y, a, w, hn, hw => by
    rw [O_step (by omega)] at hw
    rcases List.mem_append.mp hw with hw | hw
    · obtain ⟨v, hv, rfl⟩ := List.mem_map.mp hw
      cases x with
      | zero => cases hv
      | succ x => exact hE x y a v hv (O_ind h0 hE hN n x y _ v (by omega) hv)
    · obtain ⟨v, hv, rfl⟩ := List.mem_map.mp hw
      cases y with
      | zero => cases hv
      | succ y => exact hN x y a v hv (O_ind h0 hE hN n x y _ v (by omega) hv)
theorem way_e1 (w : List Let) : way (.e :: w) = ((way w).1 + 1, (way w).2.1, (way w).2.2 + (way w).2.1) := by
  rw [show (Let.e :: w) = [.e] ++ w from rfl, way_app]
  show tmv (1, 0, 0) (way w) = _
  unfold tmv
  simp only [Prod.mk.injEq]
  refine ⟨by omega, by omega, by omega⟩
theorem way_n1 (w : List Let) : way (.n :: w) = ((way w).1, (way w).2.1 + 1, (way w).2.2) := by
  rw [show (Let.n :: w) = [.n] ++ w from rfl, way_app]
  show tmv (0, 1, 0) (way w) = _
  unfold tmv
  simp only [Prod.mk.injEq]
  refine ⟨by omega, by omega, by omega⟩
theorem O_way {x y : Nat} {a : Int} {w : List Let} (h : w ∈ O x y a) : way w = ((x : Int), (y : Int), a) := by
  refine O_ind (P := fun x y a w => way w = ((x : Int), (y : Int), a)) rfl (fun x y a w _ h => ?_) (fun x y a w _ h => ?_) _ x y a w rfl h
  · rw [way_e1, h]
    simp only [Prod.mk.injEq]
    refine ⟨by omega, trivial, by omega⟩
  · rw [way_n1, h]
    simp only [Prod.mk.injEq]
    refine ⟨trivial, by omega, trivial⟩
theorem O_en {x y : Nat} {a : Int} {w : List Let} (h : w ∈ O x y a) : ∀ l ∈ w, isEN l = true := by
  refine O_ind (P := fun _ _ _ w => ∀ l ∈ w, isEN l = true) (fun l hl => by cases hl) (fun x y a w _ h l hl => ?_) (fun x y a w _ h l hl => ?_) _ x y a w rfl h
  · rcases List.mem_cons.mp hl with rfl | hl
    · rfl
    · exact h l hl
  · rcases List.mem_cons.mp hl with rfl | hl
    · rfl
    · exact h l hl
theorem O_len {x y : Nat} {a : Int} {w : List Let} (h : w ∈ O x y a) : w.length = x + y := by
  refine O_ind (P := fun x y _ w => w.length = x + y) rfl (fun x y a w _ h => ?_) (fun x y a w _ h => ?_) _ x y a w rfl h
  · rw [List.length_cons, h]; omega
  · rw [List.length_cons, h]; omega
theorem O_rng {x y : Nat} {a : Int} {w : List Let} (h : w ∈ O x y a) : 0 ≤ a ∧ a ≤ ((x * y : Nat) : Int) := by
  refine O_ind (P := fun x y a _ => 0 ≤ a ∧ a ≤ ((x * y : Nat) : Int)) ⟨by decide, by decide⟩ (fun x y a w _ h => ?_) (fun x y a w _ h => ?_) _ x y a w rfl h
  · rw [Nat.succ_mul]
    omega
  · rw [Nat.mul_succ]
    omega
theorem cnt_out {x y : Nat} {a : Int} (h : a < 0 ∨ ((x * y : Nat) : Int) < a) : cnt x y a = 0 := by
  unfold cnt
  cases e : O x y a with
  | nil => rfl
  | cons w l =>
    have := O_rng (x := x) (y := y) (a := a) (w := w) (by rw [e]; exact List.mem_cons_self)
    omega
theorem mem_O : ∀ w : List Let, (∀ l ∈ w, isEN l = true) → ∃ (x y : Nat) (a : Int), way w = ((x : Int), (y : Int), a) ∧ w ∈ O x y a
  | [], _ => ⟨0, 0, 0, rfl, by rw [O_00]; simp⟩
  | l :: w, h => by
    obtain ⟨x, y, a, h1, h2⟩ := mem_O w fun l hl => h l (List.mem_cons_of_mem _ hl)
    have hl := h l List.mem_cons_self
    cases l with
    | e =>
      refine ⟨x + 1, y, a + y, by rw [way_e1, h1]; rfl, ?_⟩
      rw [O_step (by omega)]
      refine List.mem_append_left _ (List.mem_map.mpr ⟨w, ?_, rfl⟩)
      show w ∈ O x y (a + y - (y : Nat))
      rw [Int.add_sub_cancel]
      exact h2
    | n =>
      refine ⟨x, y + 1, a, by rw [way_n1, h1]; rfl, ?_⟩
      rw [O_step (by omega)]
      exact List.mem_append_right _ (List.mem_map.mpr ⟨w, h2, rfl⟩)
    | w => cases hl
    | s => cases hl
theorem cnt_x0 : ∀ x : Nat, cnt x 0 0 = 1
  | 0 => rfl
  | x + 1 => by
    rw [cnt_step (by omega)]
    show (O x 0 (0 - (0 : Nat))).length + 0 = 1
    exact cnt_x0 x
theorem cnt_0y : ∀ y : Nat, cnt 0 y 0 = 1
  | 0 => rfl
  | y + 1 => by
    rw [cnt_step (by omega)]
    show 0 + (O 0 y 0).length = 1
    rw [Nat.zero_add]
    exact cnt_0y y
/-- the walk with an index, step by step -/
theorem get_step {x y k : Nat} {a : Int} {w : List Let} (h : (O x y a)[k]? = some w) (hp : 0 < x + y) :
    (∃ x' v, x = x' + 1 ∧ w = .e :: v ∧ k < (oE x y a).length ∧ (O x' y (a - (y : Nat)))[k]? = some v) ∨ (∃ y' v, y = y' + 1 ∧ w = .n :: v ∧ (oE x y a).length ≤ k ∧ (O x y' a)[k - (oE x y a).length]? = some v) := by
  rw [O_step hp] at h
  by_cases hk : k < (oE x y a).length
  · left
    rw [List.getElem?_append_left (by rw [List.length_map]; exact hk), List.getElem?_map] at h
    cases x with
    | zero => cases hk
    | succ x =>
      cases e : (oE (x + 1) y a)[k]? with
      | none => rw [e] at h; cases h
      | some v =>
        rw [e] at h
        exact ⟨x, v, rfl, (Option.some.inj h).symm, hk, e⟩
  · right
    rw [List.getElem?_append_right (by rw [List.length_map]; omega), List.length_map, List.getElem?_map] at h
    cases y with
    | zero => cases h
    | succ y =>
      cases e : (oN x (y + 1) a)[k - (oE x (y + 1) a).length]? with
      | none => rw [e] at h; cases h
      | some v =>
        rw [e] at h
        exact ⟨y, v, rfl, (Option.some.inj h).symm, by omega, e⟩
theorem get_end {k : Nat} {a : Int} {w : List Let} (h : (O 0 0 a)[k]? = some w) : w = [] ∧ k = 0 := by
  rw [O_00] at h
  split at h
  · cases k with
    | zero => exact ⟨(Option.some.inj h).symm, rfl⟩
    | succ k => cases h
  · cases h
/-! in order as texts -/
theorem O_sorted : ∀ (n x y : Nat) (a : Int), x + y = n → (O x y a).Pairwise fun u v => ltCps (v.map Let.c) (u.map Let.c) = false
  | 0, x, y, a, hn => by
    obtain ⟨rfl, rfl⟩ : x = 0 ∧ y = 0 := ⟨by omega, by omega⟩
    rw [O_00]
    split
    · exact List.pairwise_singleton _ _
    · exact .nil
  | n + 1, x, y, a, hn => by
    rw [O_step (by omega)]
    refine List.pairwise_append.mpr ⟨?_, ?_, ?_⟩
    · refine List.pairwise_map.mpr ?_
      cases x with
      | zero => exact .nil
      | succ x =>
        refine (O_sorted n x y (a - (y : Nat)) (by omega)).imp fun h => ?_
        show (decide (101 < 101) || ((101 : Nat) == 101 && _)) = false
        simp only [h]
        rfl
    · refine List.pairwise_map.mpr ?_
      cases y with
      | zero => exact .nil
      | succ y =>
        refine (O_sorted n x y a (by omega)).imp fun h => ?_
        show (decide (110 < 110) || ((110 : Nat) == 110 && _)) = false
        simp only [h]
        rfl
    · intro u hu v hv
      obtain ⟨u, _, rfl⟩ := List.mem_map.mp hu
      obtain ⟨v, _, rfl⟩ := List.mem_map.mp hv
      rfl
theorem sorted_O (x y : Nat) (a : Int) : sortedS ((O x y a).map word) = true := by
  refine sortedS_of_pairwise _ (List.pairwise_map.mpr ((O_sorted _ x y a rfl).imp fun h => ?_))
  unfold word
  exact h
theorem small_O {x y : Nat} (hx : x ≤ 5) (hy : y ≤ 4) (a : Int) : (O x y a).length < 64 := by
  by_cases h : a < 0 ∨ ((x * y : Nat) : Int) < a
  · have := cnt_out h
    unfold cnt at this
    omega
  · have hm : x * y ≤ 5 * 4 := Nat.mul_le_mul hx hy
    obtain ⟨b, rfl⟩ : ∃ b : Nat, a = b := ⟨a.toNat, by omega⟩
    have key : ∀ x < 6, ∀ y < 5, ∀ b < 21, (O x y ((b : Nat) : Int)).length < 64 := by decide +kernel
    exact key x (by omega) y (by omega) b (by omega)
/-! all direct walks to a place -/
def dirs : Nat → Nat → Nat → List (List Let)
  | 0, x, y => if x = 0 ∧ y = 0 then [[]] else []
  | n + 1, x, y => (match x with | 0 => [] | x + 1 => (dirs n x y).map (Let.e :: ·)) ++ (match y with | 0 => [] | y + 1 => (dirs n x y).map (Let.n :: ·))
def A (x y : Nat) : List (List Let) := dirs (x + y) x y
def aE (x y : Nat) : List (List Let) := match x with | 0 => [] | x + 1 => A x y
def aN (x y : Nat) : List (List Let) := match y with | 0 => [] | y + 1 => A x y
theorem A_step {x y : Nat} (h : 0 < x + y) : A x y = (aE x y).map (Let.e :: ·) ++ (aN x y).map (Let.n :: ·) := by
  obtain ⟨n, hn⟩ : ∃ n, x + y = n + 1 := ⟨x + y - 1, by omega⟩
  unfold A
  rw [hn]
  unfold dirs aE aN A
  congr 1
  · cases x with
    | zero => rfl
    | succ x => rw [show n = x + y from by omega]
  · cases y with
    | zero => rfl
    | succ y => rw [show n = x + y from by omega]
theorem A_filter : ∀ (n x y : Nat) (a : Int), x + y = n → ((A x y).filter fun w => decide (way w = ((x : Int), (y : Int), a))) = O x y a
  | 0, x, y, a, hn => by
    obtain ⟨rfl, rfl⟩ : x = 0 ∧ y = 0 := ⟨by omega, by omega⟩
    rw [O_00]
    show ([[]] : List (List Let)).filter _ = _
    have e : way [] = (0, 0, 0) := rfl
    by_cases h : a = 0
    · subst h
      rw [if_pos rfl, List.filter_cons_of_pos (by rw [e]; rfl)]
      rfl
    · rw [if_neg h, List.filter_cons_of_neg (by rw [e]; simp; exact fun z => h z.symm)]
      rfl
  | n + 1, x, y, a, hn => by
    rw [O_step (by omega), A_step (by omega), List.filter_append, List.filter_map, List.filter_map]
    congr 1
    · cases x with
      | zero => rfl
      | succ x =>
        show ((A x y).filter _).map _ = (O x y _).map _
        rw [← A_filter n x y _ (by omega)]
        congr 1
        refine List.filter_congr fun w _ => ?_
        show decide (way (.e :: w) = _) = _
        rw [way_e1]
        refine decide_eq_decide.mpr ?_
        obtain ⟨p, q, r⟩ := way w
        simp only [Prod.mk.injEq]
        omega
    · cases y with
      | zero => rfl
      | succ y =>
        show ((A x y).filter _).map _ = (O x y _).map _
        rw [← A_filter n x y _ (by omega)]
        congr 1
        refine List.filter_congr fun w _ => ?_
        show decide (way (.n :: w) = _) = _
        rw [way_n1]
        refine decide_eq_decide.mpr ?_
        obtain ⟨p, q, r⟩ := way w
        simp only [Prod.mk.injEq]
        omega
theorem A_ne : ∀ (n x y : Nat), x + y = n → A x y ≠ []
  | 0, x, y, hn => by
    obtain ⟨rfl, rfl⟩ : x = 0 ∧ y = 0 := ⟨by omega, by omega⟩
    simp [A, dirs]
  | n + 1, x, y, hn => by
    rw [A_step (by omega)]
    intro h
    obtain ⟨h1, h2⟩ := List.append_eq_nil_iff.mp h
    cases x with
    | succ x => exact A_ne n x y (by omega) (List.map_eq_nil_iff.mp h1)
    | zero =>
      cases y with
      | succ y => exact A_ne n 0 y (by omega) (List.map_eq_nil_iff.mp h2)
      | zero => omega
theorem A_mem : ∀ (n x y : Nat) (w : List Let), x + y = n → w ∈ A x y → (∀ l ∈ w, isEN l = true) ∧ w.length = x + y ∧ ∃ a, way w = ((x : Int), (y : Int), a)
  | 0, x, y, w, hn, hw => by
    obtain ⟨rfl, rfl⟩ : x = 0 ∧ y = 0 := ⟨by omega, by omega⟩
    have hw : w ∈ ([[]] : List (List Let)) := hw
    rw [List.mem_singleton] at hw
    subst hw
    exact ⟨fun l hl => (by cases hl), rfl, 0, rfl⟩
  | n + 1, x, y, w, hn, hw => by
    rw [A_step (by omega)] at hw
    rcases List.mem_append.mp hw with hw | hw
    · obtain ⟨v, hv, rfl⟩ := List.mem_map.mp hw
      cases x with
      | zero => cases hv
      | succ x =>
        obtain ⟨h1, h2, a, h3⟩ := A_mem n x y v (by omega) hv
        refine ⟨fun l hl => ?_, by rw [List.length_cons, h2]; omega, a + y, by rw [way_e1, h3]; rfl⟩
        rcases List.mem_cons.mp hl with rfl | hl
        · rfl
        · exact h1 l hl
    · obtain ⟨v, hv, rfl⟩ := List.mem_map.mp hw
      cases y with
      | zero => cases hv
      | succ y =>
        obtain ⟨h1, h2, a, h3⟩ := A_mem n x y v (by omega) hv
        refine ⟨fun l hl => ?_, by rw [List.length_cons, h2]; omega, a, by rw [way_n1, h3]; rfl⟩
        rcases List.mem_cons.mp hl with rfl | hl
        · rfl
        · exact h1 l hl
/-! the law's own way: prefixes, each made longer -/
abbrev Px := List Let × Nat × Nat
def stepP (x y : Nat) (p : Px) : List Px := (if p.2.1 < x then [(p.1 ++ [.e], p.2.1 + 1, p.2.2)] else []) ++ (if p.2.2 < y then [(p.1 ++ [.n], p.2.1, p.2.2 + 1)] else [])
def pre (x y : Nat) : Nat → List Px
  | 0 => [([], 0, 0)]
  | k + 1 => (pre x y k).flatMap (stepP x y)
theorem pre_mem {x y : Nat} : ∀ (k : Nat) (p : Px), p ∈ pre x y k → p.2.1 + p.2.2 = k ∧ p.2.1 ≤ x ∧ p.2.2 ≤ y ∧ p.1.length = k
  | 0, p, h => by
    rw [show pre x y 0 = [([], 0, 0)] from rfl, List.mem_singleton] at h
    subst h
    exact ⟨rfl, Nat.zero_le _, Nat.zero_le _, rfl⟩
  | k + 1, p, h => by
    obtain ⟨q, hq, hp⟩ := List.mem_flatMap.mp h
    obtain ⟨h1, h2, h3, h4⟩ := pre_mem k q hq
    unfold stepP at hp
    rcases List.mem_append.mp hp with hp | hp
    · split at hp
      · rw [List.mem_singleton] at hp
        subst hp
        exact ⟨by show q.2.1 + 1 + q.2.2 = _; omega, by show q.2.1 + 1 ≤ x; omega, h3, by show (q.1 ++ [Let.e]).length = _; rw [List.length_append, List.length_singleton, h4]⟩
      · cases hp
    · split at hp
      · rw [List.mem_singleton] at hp
        subst hp
        exact ⟨by show q.2.1 + (q.2.2 + 1) = _; omega, h2, by show q.2.2 + 1 ≤ y; omega, by show (q.1 ++ [Let.n]).length = _; rw [List.length_append, List.length_singleton, h4]⟩
      · cases hp
theorem pre_len {x y : Nat} : ∀ k : Nat, (pre x y k).length ≤ 2 ^ k
  | 0 => Nat.le_refl _
  | k + 1 => by
    have ih := pre_len (x := x) (y := y) k
    rw [show pre x y (k + 1) = (pre x y k).flatMap (stepP x y) from rfl, Nat.pow_succ]
    have : ∀ l : List Px, (l.flatMap (stepP x y)).length ≤ l.length * 2 := fun l => by
      induction l with
      | nil => exact Nat.le_refl _
      | cons p l ih =>
        rw [List.flatMap_cons, List.length_append, List.length_cons]
        have : (stepP x y p).length ≤ 2 := by
          unfold stepP
          split <;> split <;> simp
        omega
    have := this (pre x y k)
    omega
def ext (x y : Nat) (p : Px) : List (List Let) := (A (x - p.2.1) (y - p.2.2)).map (p.1 ++ ·)
theorem ext_step {x y : Nat} {p : Px} (h1 : p.2.1 ≤ x) (h2 : p.2.2 ≤ y) (h : p.2.1 + p.2.2 < x + y) : (stepP x y p).flatMap (ext x y) = ext x y p := by
  obtain ⟨w, e, n⟩ := p
  simp only at h1 h2 h
  show _ = (A (x - e) (y - n)).map (w ++ ·)
  rw [A_step (by omega), List.map_append, List.map_map, List.map_map]
  unfold stepP
  rw [List.flatMap_append]
  congr 1
  · by_cases he : e < x
    · rw [if_pos he, List.flatMap_cons, List.flatMap_nil, List.append_nil]
      obtain ⟨k, hk⟩ : ∃ k, x - e = k + 1 := ⟨x - e - 1, by omega⟩
      rw [hk]
      show (A (x - (e + 1)) (y - n)).map _ = (A k (y - n)).map _
      rw [show x - (e + 1) = k from by omega]
      refine List.map_congr_left fun v _ => ?_
      show (w ++ [Let.e]) ++ v = w ++ (Let.e :: v)
      rw [List.append_assoc]
      rfl
    · rw [if_neg he, show x - e = 0 from by omega]
      rfl
  · by_cases hn : n < y
    · rw [if_pos hn, List.flatMap_cons, List.flatMap_nil, List.append_nil]
      obtain ⟨k, hk⟩ : ∃ k, y - n = k + 1 := ⟨y - n - 1, by omega⟩
      rw [hk]
      show (A (x - e) (y - (n + 1))).map _ = (A (x - e) k).map _
      rw [show y - (n + 1) = k from by omega]
      refine List.map_congr_left fun v _ => ?_
      show (w ++ [Let.n]) ++ v = w ++ (Let.n :: v)
      rw [List.append_assoc]
      rfl
    · rw [if_neg hn, show y - n = 0 from by omega]
      rfl
theorem pre_ext {x y : Nat} : ∀ k : Nat, k ≤ x + y → (pre x y k).flatMap (ext x y) = A x y
  | 0, _ => by
    show (ext x y ([], 0, 0)) ++ [] = _
    rw [List.append_nil]
    unfold ext
    simp
  | k + 1, hk => by
    rw [← pre_ext k (by omega), show pre x y (k + 1) = (pre x y k).flatMap (stepP x y) from rfl, List.flatMap_assoc]
    have : ∀ l : List Px, (∀ p ∈ l, p ∈ pre x y k) → (l.flatMap fun p => (stepP x y p).flatMap (ext x y)) = l.flatMap (ext x y) := fun l => by
      induction l with
      | nil => intro _; rfl
      | cons p l ih =>
        intro hl
        rw [List.flatMap_cons, List.flatMap_cons, ih fun q hq => hl q (List.mem_cons_of_mem _ hq)]
        obtain ⟨h1, h2, h3, _⟩ := pre_mem k p (hl p List.mem_cons_self)
        rw [ext_step h2 h3 (by omega)]
    exact this _ fun _ h => h
theorem pre_all (x y : Nat) : (pre x y (x + y)).map (·.1) = A x y := by
  rw [← pre_ext (x := x) (y := y) (x + y) (Nat.le_refl _)]
  have : ∀ l : List Px, (∀ p ∈ l, p ∈ pre x y (x + y)) → l.map (·.1) = l.flatMap (ext x y) := fun l => by
    induction l with
    | nil => intro _; rfl
    | cons p l ih =>
      intro hl
      rw [List.map_cons, List.flatMap_cons, ih fun q hq => hl q (List.mem_cons_of_mem _ hq)]
      obtain ⟨h1, h2, h3, _⟩ := pre_mem _ p (hl p List.mem_cons_self)
      have e : ext x y p = [p.1] := by
        unfold ext
        rw [show x - p.2.1 = 0 from by omega, show y - p.2.2 = 0 from by omega]
        simp [A, dirs]
      rw [e]
      rfl
  exact this _ fun _ h => h
end A10

set_option Elab.async false
set_option linter.all false
set_option maxRecDepth 100000
set_option maxHeartbeats 4000000
set_option exponentiation.threshold 10000
namespace A10
open PySem PySem.Spec PyProof.Rows L2 Ar
/-! rows of counts -/
structure Rk (s v : Nat) (r : List Int) : Prop where
  len : r.length = s * v + 1
  val : ∀ i, i ≤ s * v → r[i]? = some ((cnt s v (i : Nat) : Nat) : Int)
def addL : List Int → Nat → List Int → List Int
  | cur, _, [] => cur
  | cur, k, v :: r => addL (cur.set k (cur.getD k 0 + v)) (k + 1) r
theorem addL_len : ∀ (r cur : List Int) (k : Nat), (addL cur k r).length = cur.length
  | [], cur, k => rfl
  | v :: r, cur, k => by rw [addL, addL_len r, List.length_set]
theorem addL_out : ∀ (r cur : List Int) (k j : Nat), (j < k ∨ k + r.length ≤ j) → (addL cur k r)[j]? = cur[j]?
  | [], cur, k, j, h => rfl
  | v :: r, cur, k, j, h => by
    rw [List.length_cons] at h
    rw [addL, addL_out r _ (k + 1) j (by omega), List.getElem?_set_ne (by omega)]
theorem addL_in : ∀ (r cur : List Int) (k i : Nat) (a b : Int), r[i]? = some a → cur[k + i]? = some b → (addL cur k r)[k + i]? = some (b + a)
  | [], cur, k, i, a, b, h, _ => by simp at h
  | v :: r, cur, k, 0, a, b, h, hc => by
    have hl := (List.getElem?_eq_some_iff.mp hc).1
    rw [List.getElem?_cons_zero] at h
    cases h
    rw [addL, addL_out r _ (k + 1) (k + 0) (by omega), Nat.add_zero, List.getElem?_set_self (by omega)]
    rw [Nat.add_zero] at hc
    rw [List.getD_eq_getElem?_getD, hc]
    rfl
  | v :: r, cur, k, i + 1, a, b, h, hc => by
    rw [List.getElem?_cons_succ] at h
    rw [addL, show k + (i + 1) = (k + 1) + i from by omega]
    refine addL_in r _ (k + 1) i a b h ?_
    rw [List.getElem?_set_ne (by omega), show (k + 1) + i = k + (i + 1) from by omega]
    exact hc
/-- one row from the row of the side before and the row below -/
theorem rk_next {s u : Nat} {r1 r2 : List Int} (h1 : Rk s (u + 1) r1) (h2 : Rk (s + 1) u r2) : Rk (s + 1) (u + 1) (addL (addL (List.replicate ((s + 1) * (u + 1) + 1) 0) (u + 1) r1) 0 r2) := by
  have e1 : (s + 1) * (u + 1) = s * (u + 1) + (u + 1) := Nat.succ_mul s (u + 1)
  have e2 : (s + 1) * (u + 1) = (s + 1) * u + (s + 1) := Nat.mul_succ (s + 1) u
  have l1 := h1.len
  have l2 := h2.len
  have hc : ∀ i : Int, cnt (s + 1) (u + 1) i = cnt s (u + 1) (i - ((u + 1 : Nat) : Int)) + cnt (s + 1) u i := fun i => cnt_step (by omega) i
  have o1 : ∀ i : Int, i < 0 ∨ ((s * (u + 1) : Nat) : Int) < i → cnt s (u + 1) i = 0 := fun i h => cnt_out h
  have o2 : ∀ i : Int, i < 0 ∨ (((s + 1) * u : Nat) : Int) < i → cnt (s + 1) u i = 0 := fun i h => cnt_out h
  have v1 := h1.val
  have v2 := h2.val
  refine ⟨by rw [addL_len, addL_len, List.length_replicate], ?_⟩
  generalize hn : (s + 1) * (u + 1) = n at *
  generalize hp : s * (u + 1) = p at *
  generalize hq : (s + 1) * u = q at *
  have z : ∀ j, j ≤ n → (List.replicate (n + 1) (0 : Int))[j]? = some 0 := fun j hj => by
    rw [List.getElem?_replicate, if_pos (by omega)]
  intro i hi
  have a1 : (addL (List.replicate (n + 1) 0) (u + 1) r1)[i]? = some ((cnt s (u + 1) ((i : Nat) - ((u + 1 : Nat) : Int)) : Nat) : Int) := by
    by_cases hu : i < u + 1
    · rw [addL_out _ _ _ _ (.inl hu), z i hi, o1 _ (.inl (by omega))]
      rfl
    · obtain ⟨k, rfl⟩ : ∃ k, i = (u + 1) + k := ⟨i - (u + 1), by omega⟩
      have := addL_in r1 (List.replicate (n + 1) 0) (u + 1) k _ 0 (v1 k (by omega)) (z _ (by omega))
      rw [this, show (((u + 1 + k : Nat) : Int) - ((u + 1 : Nat) : Int)) = (k : Int) from by omega, Int.zero_add]
  rw [hc]
  by_cases hi2 : i ≤ q
  · have := addL_in r2 (addL (List.replicate (n + 1) 0) (u + 1) r1) 0 i _ _ (v2 i hi2) (by rw [Nat.zero_add]; exact a1)
    rw [Nat.zero_add] at this
    rw [this]
    rfl
  · rw [o2 ((i : Nat) : Int) (.inr (by omega)), addL_out r2 _ _ _ (.inr (by omega)), a1]
    rfl
/-! the store -/
def Has (μ : Mu) (j : Nat) (ds : List D) : Prop := μ[j]? = some (.lst ds) ∨ μ[j]? = some (.frz ds)
theorem Has.lt {μ : Mu} {j : Nat} {ds : List D} (h : Has μ j ds) : j < μ.length := by rcases h with h | h <;> exact (List.getElem?_eq_some_iff.mp h).1
theorem Has.app {μ : Mu} {j : Nat} {ds : List D} {o : MO} (h : Has μ j ds) : Has (μ ++ [o]) j ds := h.imp app_old app_old
theorem Has.setN {μ : Mu} {j k : Nat} {ds : List D} {o : MO} (h : Has μ j ds) (hn : k ≠ j) : Has (μ.set k o) j ds := by
  rcases h with h | h
  · exact .inl (by rw [List.getElem?_set_ne hn]; exact h)
  · exact .inr (by rw [List.getElem?_set_ne hn]; exact h)
theorem Has.frz {μ : Mu} {j k : Nat} {ds es : List D} (h : Has μ j ds) (he : Has μ k es) : Has (μ.set k (.frz es)) j ds := by
  by_cases hk : k = j
  · subst hk
    have : es = ds := by
      rcases h with h | h <;> rcases he with he | he <;> rw [h] at he <;> cases he <;> rfl
    subst this
    exact .inr (List.getElem?_set_self h.lt)
  · exact h.setN hk
def iD (r : List Int) : List D := r.map .int
/-- a row: of n + 1 counts, as it stands -/
def RowA (b m4 : Nat) (μ : Mu) (d : D) (n v : Nat) : Prop := ∃ r, Rk n v r ∧ (d = .lst (iD r) ∨ ∃ j, d = .loc j ∧ b ≤ j ∧ j ≠ m4 ∧ Has μ j (iD r))
/-- what is passed on -/
structure Kx (b m4 : Nat) (μ μ' : Mu) : Prop where
  len : μ.length ≤ μ'.length
  low : ∀ j, j < b → μ'[j]? = μ[j]?
  has : ∀ j ds, j ≠ m4 → Has μ j ds → Has μ' j ds
theorem Kx.trans {b m4 : Nat} {μ1 μ2 μ3 : Mu} (h : Kx b m4 μ1 μ2) (k : Kx b m4 μ2 μ3) : Kx b m4 μ1 μ3 := ⟨Nat.le_trans h.len k.len, fun j hj => (k.low j hj).trans (h.low j hj), fun j ds hn hd => k.has j ds hn (h.has j ds hn hd)⟩
theorem RowA.kx {b m4 : Nat} {μ μ' : Mu} {d : D} {n v : Nat} (h : RowA b m4 μ d n v) (k : Kx b m4 μ μ') : RowA b m4 μ' d n v := by
  obtain ⟨r, hr, h | ⟨j, e, hb, hn, hh⟩⟩ := h
  · exact ⟨r, hr, .inl h⟩
  · exact ⟨r, hr, .inr ⟨j, e, hb, hn, k.has j _ hn hh⟩⟩
def Its (μ : Mu) (d : D) (xs : List D) : Prop := d = .lst xs ∨ ∃ m, d = .loc m ∧ Has μ m xs
theorem atI_some {xs : List D} {u : Nat} {d : D} (h : xs[u]? = some d) : atI xs (u : Int) = some d := by rw [Ar.atI_nat]; exact h
theorem seqA_has {μ : Mu} {m : Nat} {xs : List D} (h : Has μ m xs) : seqA μ (.loc m) = some xs := by
  unfold seqA seqL
  rcases h with h | h <;> simp only [h]
theorem fix_its {μ : Mu} {d : D} {xs : List D} {u : Nat} {x : D} (h : Its μ d xs) (hx : xs[u]? = some x) (P : D → Prop) : OkO (fIx μ d (.int (u : Int))) P = P x := by
  have e : fIx μ d (.int (u : Int)) = some x := by
    rcases h with rfl | ⟨m, rfl, hh⟩
    · show atI xs (u : Int) = some x
      exact atI_some hx
    · show (match seqA μ (.loc m) with | some ds => atI ds (u : Int) | none => none) = some x
      rw [seqA_has hh]
      exact atI_some hx
  rw [e]; rfl
theorem seq_has {μ : Mu} {m : Nat} {xs : List D} (h : Has μ m xs) {Q : List D → Mu → Prop} (q : ∀ μ', (μ' = μ ∨ μ' = μ.set m (.frz xs)) → Q xs μ') : Ok (seqIE (.loc m) μ) Q := by
  unfold seqIE seqI
  rcases h with h | h
  · simp only [h]; exact q _ (.inr rfl)
  · simp only [h]; exact q _ (.inl rfl)
theorem seq_row {b m4 n v : Nat} {μ : Mu} {d : D} (h : RowA b m4 μ d n v) {Q : List D → Mu → Prop} (q : ∀ r μ', Rk n v r → (μ' = μ ∨ ∃ j, b ≤ j ∧ j ≠ m4 ∧ d = .loc j ∧ Has μ j (iD r) ∧ μ' = μ.set j (.frz (iD r))) → Q (iD r) μ') : Ok (seqIE d μ) Q := by
  obtain ⟨r, hr, rfl | ⟨j, rfl, hb, hn, hh⟩⟩ := h
  · exact q r μ hr (.inl rfl)
  · exact seq_has hh fun μ' e => q r μ' hr (e.imp id fun e => ⟨j, hb, hn, rfl, hh, e⟩)
/-! an item of a list changed -/
theorem oks_augS {f k : Nat} {e1 e2 e3 : DE} {Γ : Gam} {μ : Mu} {cur : List Int} {v : Int} {N B C : Gam → Mu → Prop} {T : D → Mu → Prop} (h1 : e1 Γ μ = .ok (.loc f) μ) (h2 : e2 Γ μ = .ok (.int (k : Nat)) μ) (h3 : e3 Γ μ = .ok (.int v) μ) (em : μ[f]? = some (.lst (iD cur))) (hk : k < cur.length)
    (q : N Γ (μ.set f (.lst (iD (cur.set k (cur.getD k 0 + v)))))) : OkS (dAugS e1 e2 fAddI e3 Γ μ) N B C T := by
  have ea : atI (iD cur) ((k : Nat) : Int) = some (.int (cur.getD k 0)) := by
    rw [Ar.atI_nat]
    unfold iD
    rw [List.getElem?_map, List.getElem?_eq_getElem hk, List.getD_eq_getElem?_getD, List.getElem?_eq_getElem hk]
    rfl
  have ex : ixN (iD cur).length ((k : Nat) : Int) = some k := ixN_nat (by unfold iD; rw [List.length_map]; exact hk)
  have ef : ∀ a b : Int, fAddI μ (.int a) (.int b) = some (.int (a + b)) := fun _ _ => rfl
  have e : dAugS e1 e2 fAddI e3 Γ μ = .nx Γ (μ.set f (.lst (iD (cur.set k (cur.getD k 0 + v))))) := by
    unfold dAugS
    rw [h1]
    show ((e2 Γ μ).thenS _) = _
    rw [h2]
    show (match μ[f]? with | some (.lst ds) => _ | _ => _) = _
    rw [em]
    show (match atI (iD cur) ((k : Nat) : Int) with | some old => _ | none => _) = _
    rw [ea]
    show ((e3 Γ μ).thenS _) = _
    rw [h3]
    dsimp only [R.thenS]
    rw [ef]
    dsimp only [R.of, R.thenS]
    rw [em]
    dsimp only
    rw [ex]
    dsimp only
    unfold iD
    rw [List.map_set]
  rw [e]
  exact q
end A10

set_option Elab.async false
set_option linter.all false
set_option maxRecDepth 100000
set_option maxHeartbeats 4000000
set_option exponentiation.threshold 10000
namespace A10
open PySem PySem.Spec PyProof.Rows L2 Ar
local macro_rules | `(tactic| simp_arith) => `(tactic| simp -implicitDefEqProofs only [↓ok_ok, ↓ok_stk, ↓ok_exc, ↓ok_bind, ↓ok_nox, ↓ok_of, ↓ok_lenO, ↓ok_propO, ↓ok_txtO, ↓ok_clsM, ↓ok_tupRg, ↓ok_lstRg, ↓oko_some, ↓oko_none, ↓oko_ite, ↓oko_map, ↓ok_ite, ↓oks_nx, ↓oks_stk, ↓oks_exc, ↓oks_bk, ↓oks_ct, ↓oks_rt, ↓oks_then, ↓oks_thenN, ↓ok_var0, ↓ok_varS, ↓ok_c, ↓ok_bin, ↓ok_un, ↓okb, ↓ok_test, ↓ok_tru, ↓ok_and, ↓ok_or, ↓ok_not, ↓ok_andV, ↓ok_orV, ↓ok_notV, ↓ok_if, ↓ok_ifT, ↓ok_fld, ↓ok_slt, ↓o_slt0, ↓ok_make, ↓ok_makeS, ↓o_isaC, ↓o_isn_ins, ↓o_is_ins, ↓ok_izip, ↓zipR_ll, ↓zipR_tl, ↓zipR_tt, ↓o_parts, ↓o_shares, ↓o_east, ↓o_north, ↓o_rests, zip2, zip3, ↓ok_nil, ↓ok_cons, ↓ok_star, ↓seqA_tup, ↓seqA_lst, ↓ok_revL, ↓ok_revLM, ↓ok_cmp2, ↓ok_tup, ↓ok_lst, ↓ok_lstM, ↓ok_fn, ↓ok_call, ↓ok_callK, ↓ok_noPart, ↓oki, ↓ok_part, ↓ok_sl, ↓oks_next, ↓oks_seq, ↓oks_drop, ↓oks_ret, ↓oks_retN, ↓oks_break, ↓oks_cont, ↓oks_never, ↓oks_if, ↓oks_try, ↓oks_asg, ↓oks_set, ↓ok_gName, ↓ok_gNil, ↓ok_gCons, ↓ok_gTup, ↓ok_gUnl, ↓ok_gSub, ↓okl2, ↓okl3, ↓oks_par, ↓oks_par3, ↓okv0, ↓okvS, ↓oks_aug, ↓ok_append, ↓ok_extend, ↓seqL_lst, ↓ok_strM, ↓ok_def, ↓ok_iSeq, ↓oki1, ↓oki2, ↓ok_range1, ↓ok_range2, ↓oks_for, ↓ok_lc, ↓ok_finL, ↓ok_finM, ↓ok_yes, ↓setg0, ↓setgS, ↓unsetg0, ↓unsetgS, ↓wipeg0, ↓wipegS, ↓initg0, ↓initgN, ↓initgS, ↓lenis0, ↓lenisS, ↓lenle0, ↓lenleS, ↓seqI_lst, ↓seqIE_lst, ↓seqIE_tup, ↓seqIE_scr, ↓seqI_str, ↓okt, ↓ok_kIx, ↓ok_kGet, ↓ok_revS, ↓okd, ↓ok_dGet, ↓o_mulS, ↓seqI_tup, ↓seqI_scr, ↓o_ne_mv, ↓o_eq_mv, ↓ok_enum, ↓okl1, ↓o_mul_rep, ↓o_mul_iiF, cut_2of3, ↓o_ne_2, ↓o_eq_2, ↓o_ne_bb, ↓o_eq_bb, ↓o_tru_b, ↓o_tru_i, ↓o_tru_t, ↓o_tru_l, ↓o_tru_n, ↓o_isn_non, ↓o_isn_int, ↓o_isn_tup, ↓o_isn_lst, ↓o_isn_str, ↓o_is_non, ↓o_is_int, ↓o_is_tup, ↓o_is_lst, ↓o_is_str, ↓o_eq_ii, ↓o_ne_ii, ↓o_add_ii, ↓o_sub_ii, ↓o_mul_ii, ↓o_div_ii, ↓o_mod_ii, ↓o_lt_ii, ↓o_le_ii, ↓o_gt_ii, ↓o_ge_ii, ↓o_add_tt, ↓o_add_ll, ↓o_add_ss, ↓o_divmod_ii, ↓o_neg_i, ↓o_int_i, ↓o_abs_i, ↓o_max_ii, ↓o_max1_3, ↓o_min1_3, ↓o_min_ii, ↓o_len_tup, ↓o_len_lst, ↓o_len_scr, ↓o_slc_lst, ↓o_slc_scr, ↓o_slc_tup, ↓o_tuple_lst, ↓o_tuple_tup, ↓o_tuple_scr, ↓o_list_tup, ↓o_list_lst, ↓o_bool_b, ↓o_isa_int_int, ↓o_isa_int_bool, ↓o_isa_int_tup, ↓o_isa_int_str, ↓o_isa_int_lst, ↓o_isa_bl_int, ↓o_isa_bl_bool, ↓o_isa_tup_tup, ↓o_isa_tup_int, ↓o_isa_tup_lst, ↓o_isa_tup_str, ↓o_isa_str_str, ↓o_isa_str_int, ↓o_isa_str_tup, ↓o_isa_lst_lst, ↓o_isa_lst_tup, ↓o_isa_lst_int, ↓o_isa_non_int, ↓o_isa_non_tup, ↓o_sum_3, ↓o_all_3, ↓o_atI_0, ↓o_atI_1, ↓o_atI_2, ↓o_atI_3, ↓o_atI_4, ↓o_atI_5, ↓o_ixN_30, ↓o_ixN_31, ↓o_ixN_32, ↓o_fix_tup, ↓o_fix_lst, ↓o_fix_scr, ↓o_pow_6, ↓o_pow_18, pick_0, pick_01, pick_10, pick_012, pick_021, pick_102, pick_120, pick_201, pick_210, eq_self, List.cons_append, List.nil_append, List.append_nil, List.set_set, List.set_cons_zero, List.set_cons_succ, List.length_cons, List.length_nil, Nat.zero_add, Nat.reduceAdd, Nat.reduceLeDiff, castN, natabsN, mulOkL, mulOkR, Bool.true_or, Nat.reducePow, Nat.reduceLT, ne_eq, not_true_eq_false, not_false_eq_true, rng_3, rng_2, Int.reduceEq, Int.reduceLT, Int.reduceLE, Int.reduceAdd, Int.reduceSub, Int.reduceMul, Int.reduceNeg, true_and, and_true, if_true, if_false, Bool.false_eq_true, Bool.true_eq_false, decide_true, decide_false, Bool.not_true, Bool.not_false, Bool.and_true, Bool.true_and, Bool.and_false, Bool.false_and])
local macro_rules | `(tactic| simp_arith [$ts,*]) => `(tactic| simp -implicitDefEqProofs only [↓ok_ok, ↓ok_stk, ↓ok_exc, ↓ok_bind, ↓ok_nox, ↓ok_of, ↓ok_lenO, ↓ok_propO, ↓ok_txtO, ↓ok_clsM, ↓ok_tupRg, ↓ok_lstRg, ↓oko_some, ↓oko_none, ↓oko_ite, ↓oko_map, ↓ok_ite, ↓oks_nx, ↓oks_stk, ↓oks_exc, ↓oks_bk, ↓oks_ct, ↓oks_rt, ↓oks_then, ↓oks_thenN, ↓ok_var0, ↓ok_varS, ↓ok_c, ↓ok_bin, ↓ok_un, ↓okb, ↓ok_test, ↓ok_tru, ↓ok_and, ↓ok_or, ↓ok_not, ↓ok_andV, ↓ok_orV, ↓ok_notV, ↓ok_if, ↓ok_ifT, ↓ok_fld, ↓ok_slt, ↓o_slt0, ↓ok_make, ↓ok_makeS, ↓o_isaC, ↓o_isn_ins, ↓o_is_ins, ↓ok_izip, ↓zipR_ll, ↓zipR_tl, ↓zipR_tt, ↓o_parts, ↓o_shares, ↓o_east, ↓o_north, ↓o_rests, zip2, zip3, ↓ok_nil, ↓ok_cons, ↓ok_star, ↓seqA_tup, ↓seqA_lst, ↓ok_revL, ↓ok_revLM, ↓ok_cmp2, ↓ok_tup, ↓ok_lst, ↓ok_lstM, ↓ok_fn, ↓ok_call, ↓ok_callK, ↓ok_noPart, ↓oki, ↓ok_part, ↓ok_sl, ↓oks_next, ↓oks_seq, ↓oks_drop, ↓oks_ret, ↓oks_retN, ↓oks_break, ↓oks_cont, ↓oks_never, ↓oks_if, ↓oks_try, ↓oks_asg, ↓oks_set, ↓ok_gName, ↓ok_gNil, ↓ok_gCons, ↓ok_gTup, ↓ok_gUnl, ↓ok_gSub, ↓okl2, ↓okl3, ↓oks_par, ↓oks_par3, ↓okv0, ↓okvS, ↓oks_aug, ↓ok_append, ↓ok_extend, ↓seqL_lst, ↓ok_strM, ↓ok_def, ↓ok_iSeq, ↓oki1, ↓oki2, ↓ok_range1, ↓ok_range2, ↓oks_for, ↓ok_lc, ↓ok_finL, ↓ok_finM, ↓ok_yes, ↓setg0, ↓setgS, ↓unsetg0, ↓unsetgS, ↓wipeg0, ↓wipegS, ↓initg0, ↓initgN, ↓initgS, ↓lenis0, ↓lenisS, ↓lenle0, ↓lenleS, ↓seqI_lst, ↓seqIE_lst, ↓seqIE_tup, ↓seqIE_scr, ↓seqI_str, ↓okt, ↓ok_kIx, ↓ok_kGet, ↓ok_revS, ↓okd, ↓ok_dGet, ↓o_mulS, ↓seqI_tup, ↓seqI_scr, ↓o_ne_mv, ↓o_eq_mv, ↓ok_enum, ↓okl1, ↓o_mul_rep, ↓o_mul_iiF, cut_2of3, ↓o_ne_2, ↓o_eq_2, ↓o_ne_bb, ↓o_eq_bb, ↓o_tru_b, ↓o_tru_i, ↓o_tru_t, ↓o_tru_l, ↓o_tru_n, ↓o_isn_non, ↓o_isn_int, ↓o_isn_tup, ↓o_isn_lst, ↓o_isn_str, ↓o_is_non, ↓o_is_int, ↓o_is_tup, ↓o_is_lst, ↓o_is_str, ↓o_eq_ii, ↓o_ne_ii, ↓o_add_ii, ↓o_sub_ii, ↓o_mul_ii, ↓o_div_ii, ↓o_mod_ii, ↓o_lt_ii, ↓o_le_ii, ↓o_gt_ii, ↓o_ge_ii, ↓o_add_tt, ↓o_add_ll, ↓o_add_ss, ↓o_divmod_ii, ↓o_neg_i, ↓o_int_i, ↓o_abs_i, ↓o_max_ii, ↓o_max1_3, ↓o_min1_3, ↓o_min_ii, ↓o_len_tup, ↓o_len_lst, ↓o_len_scr, ↓o_slc_lst, ↓o_slc_scr, ↓o_slc_tup, ↓o_tuple_lst, ↓o_tuple_tup, ↓o_tuple_scr, ↓o_list_tup, ↓o_list_lst, ↓o_bool_b, ↓o_isa_int_int, ↓o_isa_int_bool, ↓o_isa_int_tup, ↓o_isa_int_str, ↓o_isa_int_lst, ↓o_isa_bl_int, ↓o_isa_bl_bool, ↓o_isa_tup_tup, ↓o_isa_tup_int, ↓o_isa_tup_lst, ↓o_isa_tup_str, ↓o_isa_str_str, ↓o_isa_str_int, ↓o_isa_str_tup, ↓o_isa_lst_lst, ↓o_isa_lst_tup, ↓o_isa_lst_int, ↓o_isa_non_int, ↓o_isa_non_tup, ↓o_sum_3, ↓o_all_3, ↓o_atI_0, ↓o_atI_1, ↓o_atI_2, ↓o_atI_3, ↓o_atI_4, ↓o_atI_5, ↓o_ixN_30, ↓o_ixN_31, ↓o_ixN_32, ↓o_fix_tup, ↓o_fix_lst, ↓o_fix_scr, ↓o_pow_6, ↓o_pow_18, pick_0, pick_01, pick_10, pick_012, pick_021, pick_102, pick_120, pick_201, pick_210, eq_self, List.cons_append, List.nil_append, List.append_nil, List.set_set, List.set_cons_zero, List.set_cons_succ, List.length_cons, List.length_nil, Nat.zero_add, Nat.reduceAdd, Nat.reduceLeDiff, castN, natabsN, mulOkL, mulOkR, Bool.true_or, Nat.reducePow, Nat.reduceLT, ne_eq, not_true_eq_false, not_false_eq_true, rng_3, rng_2, Int.reduceEq, Int.reduceLT, Int.reduceLE, Int.reduceAdd, Int.reduceSub, Int.reduceMul, Int.reduceNeg, true_and, and_true, if_true, if_false, Bool.false_eq_true, Bool.true_eq_false, decide_true, decide_false, Bool.not_true, Bool.not_false, Bool.and_true, Bool.true_and, Bool.and_false, Bool.false_and, $ts,*])
theorem set_same {μ : Mu} {f : Nat} {x : MO} (h : μ[f]? = some x) : μ.set f x = μ := by
  refine List.ext_getElem? fun j => ?_
  by_cases hj : f = j
  · subst hj
    rw [List.getElem?_set_self (List.getElem?_eq_some_iff.mp h).1, h]
  · rw [List.getElem?_set_ne hj]
theorem add1_lp {f u : Nat} {g0 g1 g2 g3 g4 : Option D} : ∀ (r : List Int) (k : Nat) (cur : List Int) {o7 o8 : Option D} {μ : Mu} {N B C : Gam → Mu → Prop} {T : D → Mu → Prop}, μ[f]? = some (.lst (iD cur)) → u + k + r.length ≤ cur.length →
    (∀ o7 o8, N [g0, g1, g2, g3, g4, some (.int (u : Nat)), some (.loc f), o7, o8] (μ.set f (.lst (iD (addL cur (u + k) r))))) →
    OkS (forL (dgTup 2 (dgCons (dgName 7) (dgCons (dgName 8) (dgNil)))) (dAugS (dVar 6) (dBin fAdd (dVar 7) (dVar 5)) fAddI (dVar 8)) (enumD k (iD r)) [g0, g1, g2, g3, g4, some (.int (u : Nat)), some (.loc f), o7, o8] μ) N B C T
  | [], k, cur, o7, o8, μ, N, B, C, T, em, hl, q => by
    have := q o7 o8
    rw [addL, set_same em] at this
    exact this
  | v :: r, k, cur, o7, o8, μ, N, B, C, T, em, hl, q => by
    rw [List.length_cons] at hl
    rw [show enumD k (iD (v :: r)) = .tup [.int k, .int v] :: enumD (k + 1) (iD r) from rfl, oks_forCons]
    simp_arith
    refine oks_augS (f := f) (k := u + k) (v := v) (cur := cur) rfl (by
      show R.ok (D.int ((k : Int) + (u : Int))) μ = _
      rw [show ((k : Int) + (u : Int)) = ((u + k : Nat) : Int) from by omega]) rfl em (by omega) ?_
    refine add1_lp r (k + 1) _ (List.getElem?_set_self (List.getElem?_eq_some_iff.mp em).1) (by rw [List.length_set]; omega) fun o7 o8 => ?_
    have := q o7 o8
    rw [addL] at this
    rw [List.set_set]
    exact this
theorem add2_lp {f : Nat} {g0 g1 g2 g3 g4 g5 : Option D} : ∀ (r : List Int) (k : Nat) (cur : List Int) {o7 o8 : Option D} {μ : Mu} {N B C : Gam → Mu → Prop} {T : D → Mu → Prop}, μ[f]? = some (.lst (iD cur)) → k + r.length ≤ cur.length →
    (∀ o7 o8, N [g0, g1, g2, g3, g4, g5, some (.loc f), o7, o8] (μ.set f (.lst (iD (addL cur k r))))) →
    OkS (forL (dgTup 2 (dgCons (dgName 7) (dgCons (dgName 8) (dgNil)))) (dAugS (dVar 6) (dVar 7) fAddI (dVar 8)) (enumD k (iD r)) [g0, g1, g2, g3, g4, g5, some (.loc f), o7, o8] μ) N B C T
  | [], k, cur, o7, o8, μ, N, B, C, T, em, hl, q => by
    have := q o7 o8
    rw [addL, set_same em] at this
    exact this
  | v :: r, k, cur, o7, o8, μ, N, B, C, T, em, hl, q => by
    rw [List.length_cons] at hl
    rw [show enumD k (iD (v :: r)) = .tup [.int k, .int v] :: enumD (k + 1) (iD r) from rfl, oks_forCons]
    simp_arith
    refine oks_augS (f := f) (k := k) (v := v) (cur := cur) rfl rfl rfl em (by omega) ?_
    refine add2_lp r (k + 1) _ (List.getElem?_set_self (List.getElem?_eq_some_iff.mp em).1) (by rw [List.length_set]; omega) fun o7 o8 => ?_
    have := q o7 o8
    rw [addL] at this
    rw [List.set_set]
    exact this
abbrev CB : DS := (dSeq (dSet 6 (dMulM (dLst (daCons (dC (.int 0)) (daNil))) (dBin fAdd (dBin fMul (dVar 3) (dVar 5)) (dC (.int 1))))) (dSeq (dFor (diEnum (daCons (dBin fIx (dVar 2) (dVar 5)) (daNil))) (dgTup 2 (dgCons (dgName 7) (dgCons (dgName 8) (dgNil)))) (dAugS (dVar 6) (dBin fAdd (dVar 7) (dVar 5)) fAddI (dVar 8))) (dSeq (dFor (diEnum (daCons (dBin fIx (dVar 4) (dBin fSubI (dVar 5) (dC (.int 1)))) (daNil))) (dgTup 2 (dgCons (dgName 7) (dgCons (dgName 8) (dgNil)))) (dAugS (dVar 6) (dVar 7) fAddI (dVar 8))) (dDrop (dAppend (dVar 4) (dVar 6))))))
abbrev OB : DS := (dSeq (dSet 4 (dLstM (daCons (dLst (daCons (dC (.int 1)) (daNil))) (daNil)))) (dSeq (dFor (diRange2 (daCons (dC (.int 1)) (daCons (dBin fAdd (dVar 1) (dC (.int 1))) (daNil)))) (dgName 5) (dSeq (dSet 6 (dMulM (dLst (daCons (dC (.int 0)) (daNil))) (dBin fAdd (dBin fMul (dVar 3) (dVar 5)) (dC (.int 1))))) (dSeq (dFor (diEnum (daCons (dBin fIx (dVar 2) (dVar 5)) (daNil))) (dgTup 2 (dgCons (dgName 7) (dgCons (dgName 8) (dgNil)))) (dAugS (dVar 6) (dBin fAdd (dVar 7) (dVar 5)) fAddI (dVar 8))) (dSeq (dFor (diEnum (daCons (dBin fIx (dVar 4) (dBin fSubI (dVar 5) (dC (.int 1)))) (daNil))) (dgTup 2 (dgCons (dgName 7) (dgCons (dgName 8) (dgNil)))) (dAugS (dVar 6) (dVar 7) fAddI (dVar 8))) (dDrop (dAppend (dVar 4) (dVar 6))))))) (dSet 2 (dVar 4))))
theorem dg2 {n : Nat} (h : n ≤ 30) : Dg 2 (n : Int) := by
  show ((n : Int)).natAbs < 16 ^ 2
  omega
theorem RowA.lt {b m4 n v j : Nat} {μ : Mu} (h : RowA b m4 μ (.loc j) n v) : j < μ.length := by
  obtain ⟨r, hr, h | ⟨k, e, _, _, hh⟩⟩ := h
  · cases h
  · cases e; exact hh.lt
theorem Kx.refl {b m4 : Nat} {μ : Mu} : Kx b m4 μ μ := ⟨Nat.le_refl _, fun _ _ => rfl, fun _ _ _ h => h⟩
theorem Kx.app {b m4 : Nat} {μ0 μ : Mu} {o : MO} (h : Kx b m4 μ0 μ) (hb : b ≤ μ.length) : Kx b m4 μ0 (μ ++ [o]) := ⟨Nat.le_trans h.len (by simp), fun j hj => by rw [List.getElem?_append_left (by omega)]; exact h.low j hj, fun j ds hn hd => (h.has j ds hn hd).app⟩
theorem Kx.setF {b m4 f : Nat} {μ0 μ : Mu} {o : MO} (h : Kx b m4 μ0 μ) (hf : μ0.length ≤ f) (hb : b ≤ f) : Kx b m4 μ0 (μ.set f o) := ⟨by rw [List.length_set]; exact h.len, fun j hj => by rw [List.getElem?_set_ne (by omega)]; exact h.low j hj, fun j ds hn hd => (h.has j ds hn hd).setN (by have := hd.lt; omega)⟩
theorem Kx.frz {b m4 j : Nat} {μ0 μ : Mu} {es : List D} (h : Kx b m4 μ0 μ) (hh : Has μ j es) (hb : b ≤ j) : Kx b m4 μ0 (μ.set j (.frz es)) := ⟨by rw [List.length_set]; exact h.len, fun i hi => by rw [List.getElem?_set_ne (by omega)]; exact h.low i hi, fun i ds hn hd => (h.has i ds hn hd).frz hh⟩
theorem Kx.setM {b m4 : Nat} {μ0 μ : Mu} {o : MO} (h : Kx b m4 μ0 μ) (hb : b ≤ m4) : Kx b m4 μ0 (μ.set m4 o) := ⟨by rw [List.length_set]; exact h.len, fun i hi => by rw [List.getElem?_set_ne (by omega)]; exact h.low i hi, fun i ds hn hd => (h.has i ds hn hd).setN (Ne.symm hn)⟩
theorem cell {b m4 s u : Nat} {g0 g1 g6 g7 g8 : Option D} {d2 dx dy : D} {xs ys : List D} {μ : Mu} {N B C : Gam → Mu → Prop} {T : D → Mu → Prop} (hs : s ≤ 25) (hu : u ≤ 25) (hb : b ≤ m4)
    (h2 : d2 = .lst xs ∨ ∃ m, d2 = .loc m ∧ b ≤ m ∧ m ≠ m4 ∧ Has μ m xs) (hx : xs[u + 1]? = some dx) (rx : RowA b m4 μ dx s (u + 1)) (em : μ[m4]? = some (.lst ys)) (hy : ys[u]? = some dy) (hl : ys.length ≤ 1000) (ry : RowA b m4 μ dy (s + 1) u)
    (q : ∀ μ' f g6 g7 g8, Kx b m4 μ μ' → μ'[m4]? = some (.lst (ys ++ [.loc f])) → RowA b m4 μ' (.loc f) (s + 1) (u + 1) → N [g0, g1, some d2, some (.int ((s + 1 : Nat) : Int)), some (.loc m4), some (.int ((u + 1 : Nat) : Int)), g6, g7, g8] μ') :
    OkS (CB [g0, g1, some d2, some (.int ((s + 1 : Nat) : Int)), some (.loc m4), some (.int ((u + 1 : Nat) : Int)), g6, g7, g8] μ) N B C T := by
  have i2 : Its (μ ++ [.lst (iD (List.replicate ((s + 1) * (u + 1) + 1) 0))]) d2 xs := by
    rcases h2 with h | ⟨m, h, _, _, hh⟩
    · exact .inl h
    · exact .inr ⟨m, h, hh.app⟩
  have m1 := (dg2 (n := s + 1) (by omega)).ok (dg2 (n := u + 1) (by omega)) (by decide) (by decide)
  unfold CB
  simp_arith [↓ok_mulM]
  refine ⟨m1, ?_⟩
  have hn : (s + 1) * (u + 1) ≤ 26 * 26 := Nat.mul_le_mul (by omega) (by omega)
  have hk : ((s + 1 : Nat) : Int) * ((u + 1 : Nat) : Int) + 1 = (((s + 1) * (u + 1) + 1 : Nat) : Int) := by
    rw [show (((s + 1) * (u + 1) + 1 : Nat) : Int) = (((s + 1) * (u + 1) : Nat) : Int) + 1 from rfl, Int.natCast_mul]
  have hz : (List.replicate ((s + 1) * (u + 1) + 1) [D.int 0]).flatten = iD (List.replicate ((s + 1) * (u + 1) + 1) 0) := by
    unfold iD
    rw [List.map_replicate]
    generalize (s + 1) * (u + 1) + 1 = k
    induction k with
    | zero => rfl
    | succ k ih => rw [List.replicate_succ, List.flatten_cons, ih, List.replicate_succ]; rfl
  have e1 : (s + 1) * (u + 1) = s * (u + 1) + (u + 1) := Nat.succ_mul s (u + 1)
  have e2 : (s + 1) * (u + 1) = (s + 1) * u + (s + 1) := Nat.mul_succ (s + 1) u
  rw [hk]
  refine ⟨_, _, rfl, rfl, ⟨by omega, by rw [Int.toNat_natCast, List.length_singleton]; omega⟩, ?_⟩
  rw [Int.toNat_natCast, hz]
  have hm := (List.getElem?_eq_some_iff.mp em).1
  have kA : Kx b m4 μ (μ ++ [.lst (iD (List.replicate ((s + 1) * (u + 1) + 1) 0))]) := Kx.refl.app (by omega)
  refine (fix_its i2 hx _).mpr ?_
  refine seq_row (rx.kx kA) fun r1 μ2 k1 h2' => ?_
  have pf : μ2[μ.length]? = some (.lst (iD (List.replicate ((s + 1) * (u + 1) + 1) 0))) ∧ μ2[m4]? = some (.lst ys) ∧ Kx b m4 μ μ2 ∧ μ2.length = μ.length + 1 := by
    rcases h2' with rfl | ⟨j, hbj, hnj, rfl, hh, rfl⟩
    · exact ⟨by simp, app_old em, kA, by simp⟩
    · have := rx.lt
      exact ⟨by rw [List.getElem?_set_ne (by omega)]; simp, by rw [List.getElem?_set_ne hnj]; exact app_old em, kA.frz hh hbj, by simp⟩
  obtain ⟨pf, pm, kB, lB⟩ := pf
  refine add1_lp (f := μ.length) (u := u + 1) r1 0 _ pf (by rw [k1.len, List.length_replicate]; omega) fun o7 o8 => ?_
  have kC : ∀ o, Kx b m4 μ (μ2.set μ.length o) := fun o => kB.setF (Nat.le_refl _) (by omega)
  have pm3 : ∀ o, (μ2.set μ.length o)[m4]? = some (.lst ys) := fun o => by rw [List.getElem?_set_ne (by omega)]; exact pm
  have pf3 : ∀ o, (μ2.set μ.length o)[μ.length]? = some o := fun o => List.getElem?_set_self (by omega)
  have l3 : ∀ o, (μ2.set μ.length o).length = μ.length + 1 := fun o => by rw [List.length_set]; exact lB
  have kC := kC (.lst (iD (addL (List.replicate ((s + 1) * (u + 1) + 1) 0) (u + 1 + 0) r1)))
  have pm3 := pm3 (.lst (iD (addL (List.replicate ((s + 1) * (u + 1) + 1) 0) (u + 1 + 0) r1)))
  have pf3 := pf3 (.lst (iD (addL (List.replicate ((s + 1) * (u + 1) + 1) 0) (u + 1 + 0) r1)))
  have l3 := l3 (.lst (iD (addL (List.replicate ((s + 1) * (u + 1) + 1) 0) (u + 1 + 0) r1)))
  generalize μ2.set μ.length (.lst (iD (addL (List.replicate ((s + 1) * (u + 1) + 1) 0) (u + 1 + 0) r1))) = μ3 at *
  simp_arith
  rw [show ((u + 1 : Nat) : Int) - 1 = (u : Int) from by omega]
  refine (fix_its (.inr ⟨m4, rfl, .inl pm3⟩) hy _).mpr ?_
  refine seq_row (ry.kx kC) fun r2 μ4 k2 h4 => ?_
  have pg : μ4[μ.length]? = some (.lst (iD (addL (List.replicate ((s + 1) * (u + 1) + 1) 0) (u + 1 + 0) r1))) ∧ μ4[m4]? = some (.lst ys) ∧ Kx b m4 μ μ4 ∧ μ4.length = μ.length + 1 := by
    rcases h4 with rfl | ⟨j, hbj, hnj, rfl, hh, rfl⟩
    · exact ⟨pf3, pm3, kC, l3⟩
    · have := ry.lt
      exact ⟨by rw [List.getElem?_set_ne (by omega)]; exact pf3, by rw [List.getElem?_set_ne hnj]; exact pm3, kC.frz hh hbj, by rw [List.length_set]; exact l3⟩
  obtain ⟨pf4, pm4, kD, l4⟩ := pg
  refine add2_lp (f := μ.length) r2 0 _ pf4 (by rw [k2.len, addL_len, List.length_replicate]; omega) fun o7 o8 => ?_
  have rk := rk_next k1 k2
  rw [show u + 1 + 0 = u + 1 from rfl]
  have kE := fun o => kD.setF (f := μ.length) (o := o) (Nat.le_refl _) (by omega)
  have pm5 : ∀ o, (μ4.set μ.length o)[m4]? = some (.lst ys) := fun o => by rw [List.getElem?_set_ne (by omega)]; exact pm4
  have pf5 : ∀ o, (μ4.set μ.length o)[μ.length]? = some o := fun o => List.getElem?_set_self (by omega)
  simp_arith [↓o_place (pm5 _)]
  refine ⟨by omega, q _ μ.length _ _ _ ((kE _).setM hb) (List.getElem?_set_self (by rw [List.length_set, l4]; omega)) ⟨_, rk, .inr ⟨μ.length, rfl, by omega, by omega, .inl ?_⟩⟩⟩
  rw [List.getElem?_set_ne (by omega)]
  exact pf5 _
end A10

set_option Elab.async false
set_option linter.all false
set_option maxRecDepth 100000
set_option maxHeartbeats 4000000
set_option exponentiation.threshold 10000
namespace A10
open PySem PySem.Spec PyProof.Rows L2 Ar
local macro_rules | `(tactic| simp_arith) => `(tactic| simp -implicitDefEqProofs only [↓ok_ok, ↓ok_stk, ↓ok_exc, ↓ok_bind, ↓ok_nox, ↓ok_of, ↓ok_lenO, ↓ok_propO, ↓ok_txtO, ↓ok_clsM, ↓ok_tupRg, ↓ok_lstRg, ↓oko_some, ↓oko_none, ↓oko_ite, ↓oko_map, ↓ok_ite, ↓oks_nx, ↓oks_stk, ↓oks_exc, ↓oks_bk, ↓oks_ct, ↓oks_rt, ↓oks_then, ↓oks_thenN, ↓ok_var0, ↓ok_varS, ↓ok_c, ↓ok_bin, ↓ok_un, ↓okb, ↓ok_test, ↓ok_tru, ↓ok_and, ↓ok_or, ↓ok_not, ↓ok_andV, ↓ok_orV, ↓ok_notV, ↓ok_if, ↓ok_ifT, ↓ok_fld, ↓ok_slt, ↓o_slt0, ↓ok_make, ↓ok_makeS, ↓o_isaC, ↓o_isn_ins, ↓o_is_ins, ↓ok_izip, ↓zipR_ll, ↓zipR_tl, ↓zipR_tt, ↓o_parts, ↓o_shares, ↓o_east, ↓o_north, ↓o_rests, zip2, zip3, ↓ok_nil, ↓ok_cons, ↓ok_star, ↓seqA_tup, ↓seqA_lst, ↓ok_revL, ↓ok_revLM, ↓ok_cmp2, ↓ok_tup, ↓ok_lst, ↓ok_lstM, ↓ok_fn, ↓ok_call, ↓ok_callK, ↓ok_noPart, ↓oki, ↓ok_part, ↓ok_sl, ↓oks_next, ↓oks_seq, ↓oks_drop, ↓oks_ret, ↓oks_retN, ↓oks_break, ↓oks_cont, ↓oks_never, ↓oks_if, ↓oks_try, ↓oks_asg, ↓oks_set, ↓ok_gName, ↓ok_gNil, ↓ok_gCons, ↓ok_gTup, ↓ok_gUnl, ↓ok_gSub, ↓okl2, ↓okl3, ↓oks_par, ↓oks_par3, ↓okv0, ↓okvS, ↓oks_aug, ↓ok_append, ↓ok_extend, ↓seqL_lst, ↓ok_strM, ↓ok_def, ↓ok_iSeq, ↓oki1, ↓oki2, ↓ok_range1, ↓ok_range2, ↓oks_for, ↓ok_lc, ↓ok_finL, ↓ok_finM, ↓ok_yes, ↓setg0, ↓setgS, ↓unsetg0, ↓unsetgS, ↓wipeg0, ↓wipegS, ↓initg0, ↓initgN, ↓initgS, ↓lenis0, ↓lenisS, ↓lenle0, ↓lenleS, ↓seqI_lst, ↓seqIE_lst, ↓seqIE_tup, ↓seqIE_scr, ↓seqI_str, ↓okt, ↓ok_kIx, ↓ok_kGet, ↓ok_revS, ↓okd, ↓ok_dGet, ↓o_mulS, ↓seqI_tup, ↓seqI_scr, ↓o_ne_mv, ↓o_eq_mv, ↓ok_enum, ↓okl1, ↓o_mul_rep, ↓o_mul_iiF, cut_2of3, ↓o_ne_2, ↓o_eq_2, ↓o_ne_bb, ↓o_eq_bb, ↓o_tru_b, ↓o_tru_i, ↓o_tru_t, ↓o_tru_l, ↓o_tru_n, ↓o_isn_non, ↓o_isn_int, ↓o_isn_tup, ↓o_isn_lst, ↓o_isn_str, ↓o_is_non, ↓o_is_int, ↓o_is_tup, ↓o_is_lst, ↓o_is_str, ↓o_eq_ii, ↓o_ne_ii, ↓o_add_ii, ↓o_sub_ii, ↓o_mul_ii, ↓o_div_ii, ↓o_mod_ii, ↓o_lt_ii, ↓o_le_ii, ↓o_gt_ii, ↓o_ge_ii, ↓o_add_tt, ↓o_add_ll, ↓o_add_ss, ↓o_divmod_ii, ↓o_neg_i, ↓o_int_i, ↓o_abs_i, ↓o_max_ii, ↓o_max1_3, ↓o_min1_3, ↓o_min_ii, ↓o_len_tup, ↓o_len_lst, ↓o_len_scr, ↓o_slc_lst, ↓o_slc_scr, ↓o_slc_tup, ↓o_tuple_lst, ↓o_tuple_tup, ↓o_tuple_scr, ↓o_list_tup, ↓o_list_lst, ↓o_bool_b, ↓o_isa_int_int, ↓o_isa_int_bool, ↓o_isa_int_tup, ↓o_isa_int_str, ↓o_isa_int_lst, ↓o_isa_bl_int, ↓o_isa_bl_bool, ↓o_isa_tup_tup, ↓o_isa_tup_int, ↓o_isa_tup_lst, ↓o_isa_tup_str, ↓o_isa_str_str, ↓o_isa_str_int, ↓o_isa_str_tup, ↓o_isa_lst_lst, ↓o_isa_lst_tup, ↓o_isa_lst_int, ↓o_isa_non_int, ↓o_isa_non_tup, ↓o_sum_3, ↓o_all_3, ↓o_atI_0, ↓o_atI_1, ↓o_atI_2, ↓o_atI_3, ↓o_atI_4, ↓o_atI_5, ↓o_ixN_30, ↓o_ixN_31, ↓o_ixN_32, ↓o_fix_tup, ↓o_fix_lst, ↓o_fix_scr, ↓o_pow_6, ↓o_pow_18, pick_0, pick_01, pick_10, pick_012, pick_021, pick_102, pick_120, pick_201, pick_210, eq_self, List.cons_append, List.nil_append, List.append_nil, List.set_set, List.set_cons_zero, List.set_cons_succ, List.length_cons, List.length_nil, Nat.zero_add, Nat.reduceAdd, Nat.reduceLeDiff, castN, natabsN, mulOkL, mulOkR, Bool.true_or, Nat.reducePow, Nat.reduceLT, ne_eq, not_true_eq_false, not_false_eq_true, rng_3, rng_2, Int.reduceEq, Int.reduceLT, Int.reduceLE, Int.reduceAdd, Int.reduceSub, Int.reduceMul, Int.reduceNeg, true_and, and_true, if_true, if_false, Bool.false_eq_true, Bool.true_eq_false, decide_true, decide_false, Bool.not_true, Bool.not_false, Bool.and_true, Bool.true_and, Bool.and_false, Bool.false_and])
local macro_rules | `(tactic| simp_arith [$ts,*]) => `(tactic| simp -implicitDefEqProofs only [↓ok_ok, ↓ok_stk, ↓ok_exc, ↓ok_bind, ↓ok_nox, ↓ok_of, ↓ok_lenO, ↓ok_propO, ↓ok_txtO, ↓ok_clsM, ↓ok_tupRg, ↓ok_lstRg, ↓oko_some, ↓oko_none, ↓oko_ite, ↓oko_map, ↓ok_ite, ↓oks_nx, ↓oks_stk, ↓oks_exc, ↓oks_bk, ↓oks_ct, ↓oks_rt, ↓oks_then, ↓oks_thenN, ↓ok_var0, ↓ok_varS, ↓ok_c, ↓ok_bin, ↓ok_un, ↓okb, ↓ok_test, ↓ok_tru, ↓ok_and, ↓ok_or, ↓ok_not, ↓ok_andV, ↓ok_orV, ↓ok_notV, ↓ok_if, ↓ok_ifT, ↓ok_fld, ↓ok_slt, ↓o_slt0, ↓ok_make, ↓ok_makeS, ↓o_isaC, ↓o_isn_ins, ↓o_is_ins, ↓ok_izip, ↓zipR_ll, ↓zipR_tl, ↓zipR_tt, ↓o_parts, ↓o_shares, ↓o_east, ↓o_north, ↓o_rests, zip2, zip3, ↓ok_nil, ↓ok_cons, ↓ok_star, ↓seqA_tup, ↓seqA_lst, ↓ok_revL, ↓ok_revLM, ↓ok_cmp2, ↓ok_tup, ↓ok_lst, ↓ok_lstM, ↓ok_fn, ↓ok_call, ↓ok_callK, ↓ok_noPart, ↓oki, ↓ok_part, ↓ok_sl, ↓oks_next, ↓oks_seq, ↓oks_drop, ↓oks_ret, ↓oks_retN, ↓oks_break, ↓oks_cont, ↓oks_never, ↓oks_if, ↓oks_try, ↓oks_asg, ↓oks_set, ↓ok_gName, ↓ok_gNil, ↓ok_gCons, ↓ok_gTup, ↓ok_gUnl, ↓ok_gSub, ↓okl2, ↓okl3, ↓oks_par, ↓oks_par3, ↓okv0, ↓okvS, ↓oks_aug, ↓ok_append, ↓ok_extend, ↓seqL_lst, ↓ok_strM, ↓ok_def, ↓ok_iSeq, ↓oki1, ↓oki2, ↓ok_range1, ↓ok_range2, ↓oks_for, ↓ok_lc, ↓ok_finL, ↓ok_finM, ↓ok_yes, ↓setg0, ↓setgS, ↓unsetg0, ↓unsetgS, ↓wipeg0, ↓wipegS, ↓initg0, ↓initgN, ↓initgS, ↓lenis0, ↓lenisS, ↓lenle0, ↓lenleS, ↓seqI_lst, ↓seqIE_lst, ↓seqIE_tup, ↓seqIE_scr, ↓seqI_str, ↓okt, ↓ok_kIx, ↓ok_kGet, ↓ok_revS, ↓okd, ↓ok_dGet, ↓o_mulS, ↓seqI_tup, ↓seqI_scr, ↓o_ne_mv, ↓o_eq_mv, ↓ok_enum, ↓okl1, ↓o_mul_rep, ↓o_mul_iiF, cut_2of3, ↓o_ne_2, ↓o_eq_2, ↓o_ne_bb, ↓o_eq_bb, ↓o_tru_b, ↓o_tru_i, ↓o_tru_t, ↓o_tru_l, ↓o_tru_n, ↓o_isn_non, ↓o_isn_int, ↓o_isn_tup, ↓o_isn_lst, ↓o_isn_str, ↓o_is_non, ↓o_is_int, ↓o_is_tup, ↓o_is_lst, ↓o_is_str, ↓o_eq_ii, ↓o_ne_ii, ↓o_add_ii, ↓o_sub_ii, ↓o_mul_ii, ↓o_div_ii, ↓o_mod_ii, ↓o_lt_ii, ↓o_le_ii, ↓o_gt_ii, ↓o_ge_ii, ↓o_add_tt, ↓o_add_ll, ↓o_add_ss, ↓o_divmod_ii, ↓o_neg_i, ↓o_int_i, ↓o_abs_i, ↓o_max_ii, ↓o_max1_3, ↓o_min1_3, ↓o_min_ii, ↓o_len_tup, ↓o_len_lst, ↓o_len_scr, ↓o_slc_lst, ↓o_slc_scr, ↓o_slc_tup, ↓o_tuple_lst, ↓o_tuple_tup, ↓o_tuple_scr, ↓o_list_tup, ↓o_list_lst, ↓o_bool_b, ↓o_isa_int_int, ↓o_isa_int_bool, ↓o_isa_int_tup, ↓o_isa_int_str, ↓o_isa_int_lst, ↓o_isa_bl_int, ↓o_isa_bl_bool, ↓o_isa_tup_tup, ↓o_isa_tup_int, ↓o_isa_tup_lst, ↓o_isa_tup_str, ↓o_isa_str_str, ↓o_isa_str_int, ↓o_isa_str_tup, ↓o_isa_lst_lst, ↓o_isa_lst_tup, ↓o_isa_lst_int, ↓o_isa_non_int, ↓o_isa_non_tup, ↓o_sum_3, ↓o_all_3, ↓o_atI_0, ↓o_atI_1, ↓o_atI_2, ↓o_atI_3, ↓o_atI_4, ↓o_atI_5, ↓o_ixN_30, ↓o_ixN_31, ↓o_ixN_32, ↓o_fix_tup, ↓o_fix_lst, ↓o_fix_scr, ↓o_pow_6, ↓o_pow_18, pick_0, pick_01, pick_10, pick_012, pick_021, pick_102, pick_120, pick_201, pick_210, eq_self, List.cons_append, List.nil_append, List.append_nil, List.set_set, List.set_cons_zero, List.set_cons_succ, List.length_cons, List.length_nil, Nat.zero_add, Nat.reduceAdd, Nat.reduceLeDiff, castN, natabsN, mulOkL, mulOkR, Bool.true_or, Nat.reducePow, Nat.reduceLT, ne_eq, not_true_eq_false, not_false_eq_true, rng_3, rng_2, Int.reduceEq, Int.reduceLT, Int.reduceLE, Int.reduceAdd, Int.reduceSub, Int.reduceMul, Int.reduceNeg, true_and, and_true, if_true, if_false, Bool.false_eq_true, Bool.true_eq_false, decide_true, decide_false, Bool.not_true, Bool.not_false, Bool.and_true, Bool.true_and, Bool.and_false, Bool.false_and, $ts,*])
theorem rng_succ {i : Int} {c : Nat} : rngD i (c + 1) = .int i :: rngD (i + 1) c := by
  unfold rngD
  rw [List.range_succ_eq_map, List.map_cons, List.map_map]
  congr 1
  · simp
  · refine List.map_congr_left fun k _ => ?_
    show D.int (i + ((k + 1 : Nat) : Int)) = D.int (i + 1 + (k : Int))
    congr 1
    omega
theorem inner_lp {b m4 s n : Nat} {g0 g1 : Option D} {d2 : D} {xs : List D} {μ0 : Mu} (hs : s ≤ 24) (hn : n ≤ 24) (hb : b ≤ m4) (hx : xs.length = n + 1) : ∀ (c u : Nat) {g5 g6 g7 g8 : Option D} {ys : List D} {μ : Mu} {N B C : Gam → Mu → Prop} {T : D → Mu → Prop}, u + c = n →
    (d2 = .lst xs ∨ ∃ m, d2 = .loc m ∧ b ≤ m ∧ m ≠ m4 ∧ Has μ m xs) → (∀ v dv, xs[v]? = some dv → RowA b m4 μ dv s v) → μ[m4]? = some (.lst ys) → ys.length = u + 1 → (∀ v dv, ys[v]? = some dv → RowA b m4 μ dv (s + 1) v) → Kx b m4 μ0 μ →
    (∀ μ' ys' g5 g6 g7 g8, Kx b m4 μ0 μ' → μ'[m4]? = some (.lst ys') → ys'.length = n + 1 → (∀ v dv, ys'[v]? = some dv → RowA b m4 μ' dv (s + 1) v) → N [g0, g1, some d2, some (.int ((s + 1 : Nat) : Int)), some (.loc m4), g5, g6, g7, g8] μ') →
    OkS (forL (dgName 5) CB (rngD ((u + 1 : Nat) : Int) c) [g0, g1, some d2, some (.int ((s + 1 : Nat) : Int)), some (.loc m4), g5, g6, g7, g8] μ) N B C T
  | 0, u, g5, g6, g7, g8, ys, μ, N, B, C, T, hc, h2, rx, em, hl, ry, k, q => by
    rw [show rngD ((u + 1 : Nat) : Int) 0 = [] from rfl, oks_forNil]
    exact q μ ys _ _ _ _ k em (by omega) ry
  | c + 1, u, g5, g6, g7, g8, ys, μ, N, B, C, T, hc, h2, rx, em, hl, ry, k, q => by
    obtain ⟨dx, ex⟩ : ∃ dx, xs[u + 1]? = some dx := ⟨_, List.getElem?_eq_getElem (by omega)⟩
    obtain ⟨dy, ey⟩ : ∃ dy, ys[u]? = some dy := ⟨_, List.getElem?_eq_getElem (by omega)⟩
    rw [rng_succ, oks_forCons]
    refine cell (b := b) (m4 := m4) (s := s) (u := u) (xs := xs) (ys := ys) (by omega) (by omega) hb h2 ex (rx _ _ ex) em ey (by omega) (ry _ _ ey) fun μ' f g6 g7 g8 k' em' rf => ?_
    rw [show ((u + 1 : Nat) : Int) + 1 = ((u + 1 + 1 : Nat) : Int) from rfl]
    refine inner_lp hs hn hb hx c (u + 1) (by omega) ?_ (fun v dv e => (rx v dv e).kx k') em' (by rw [List.length_append, List.length_singleton]; omega) (fun v dv e => ?_) (k.trans k') q
    · rcases h2 with h | ⟨m, h, h3, h4, h5⟩
      · exact .inl h
      · exact .inr ⟨m, h, h3, h4, k'.has _ _ h4 h5⟩
    · by_cases hv : v < ys.length
      · rw [List.getElem?_append_left hv] at e
        exact (ry v dv e).kx k'
      · have hv2 : v = u + 1 := by
          have := (List.getElem?_eq_some_iff.mp e).1
          rw [List.length_append, List.length_singleton] at this
          omega
        subst hv2
        rw [List.getElem?_append_right (by omega), hl, Nat.sub_self, List.getElem?_cons_zero] at e
        cases e
        exact rf
/-- behind the first b places nothing is said -/
structure Lw (b : Nat) (μ μ' : Mu) : Prop where
  len : μ.length ≤ μ'.length
  low : ∀ j, j < b → μ'[j]? = μ[j]?
theorem row_one {b m4 : Nat} {μ : Mu} {s v : Nat} (h : s = 0 ∨ v = 0) : RowA b m4 μ (.lst [.int 1]) s v := by
  refine ⟨[1], ⟨?_, fun i hi => ?_⟩, .inl rfl⟩
  · rcases h with rfl | rfl <;> simp
  · have : i = 0 := by rcases h with rfl | rfl <;> simp at hi <;> omega
    subst this
    rcases h with rfl | rfl
    · have := cnt_0y v
      show some (1 : Int) = some ((cnt 0 v 0 : Nat) : Int)
      rw [this]
      rfl
    · have := cnt_x0 s
      show some (1 : Int) = some ((cnt s 0 0 : Nat) : Int)
      rw [this]
      rfl
theorem RowA.re {b m4 m5 n v : Nat} {μ : Mu} {d : D} (h : RowA b m4 μ d n v) (hm : μ.length ≤ m5) : RowA b m5 μ d n v := by
  obtain ⟨r, hr, h | ⟨j, e, hb, hn, hh⟩⟩ := h
  · exact ⟨r, hr, .inl h⟩
  · exact ⟨r, hr, .inr ⟨j, e, hb, by have := hh.lt; omega, hh⟩⟩
theorem outer_lp {b e n : Nat} {μ0 : Mu} (he : e ≤ 24) (hn : n ≤ 24) (hb0 : b ≤ μ0.length) : ∀ (c s : Nat) {g3 g4 g5 g6 g7 g8 : Option D} {d2 : D} {xs : List D} {μ : Mu} {N B C : Gam → Mu → Prop} {T : D → Mu → Prop}, s + c = e →
    (d2 = .lst xs ∨ ∃ m, d2 = .loc m ∧ b ≤ m ∧ Has μ m xs) → xs.length = n + 1 → (∀ v dv, xs[v]? = some dv → RowA b μ.length μ dv s v) → Lw b μ0 μ →
    (∀ μ' d2 xs g3 g4 g5 g6 g7 g8, Lw b μ0 μ' → (d2 = .lst xs ∨ ∃ m, d2 = .loc m ∧ b ≤ m ∧ Has μ' m xs) → xs.length = n + 1 → (∀ v dv, xs[v]? = some dv → RowA b μ'.length μ' dv e v) → N [some (.int (e : Nat)), some (.int (n : Nat)), some d2, g3, g4, g5, g6, g7, g8] μ') →
    OkS (forL (dgName 3) OB (rngD ((s + 1 : Nat) : Int) c) [some (.int (e : Nat)), some (.int (n : Nat)), some d2, g3, g4, g5, g6, g7, g8] μ) N B C T
  | 0, s, g3, g4, g5, g6, g7, g8, d2, xs, μ, N, B, C, T, hc, h2, hx, rx, k, q => by
    rw [show rngD ((s + 1 : Nat) : Int) 0 = [] from rfl, oks_forNil]
    have : s = e := by omega
    subst this
    exact q μ d2 xs _ _ _ _ _ _ k h2 hx rx
  | c + 1, s, g3, g4, g5, g6, g7, g8, d2, xs, μ, N, B, C, T, hc, h2, hx, rx, k, q => by
    have hb : b ≤ μ.length := Nat.le_trans hb0 k.len
    have kA : Kx b μ.length μ (μ ++ [.lst [.lst [.int 1]]]) := Kx.refl.app hb
    rw [rng_succ, oks_forCons]
    unfold OB
    simp_arith
    refine ⟨by omega, ?_⟩
    rw [show (((n : Nat) : Int) + 1 - 1).toNat = n from by omega, show (1 : Int) = ((0 + 1 : Nat) : Int) from rfl]
    refine inner_lp (b := b) (m4 := μ.length) (s := s) (n := n) (xs := xs) (ys := [.lst [.int 1]]) (μ0 := μ ++ [.lst [.lst [.int 1]]]) (by omega) hn hb hx n 0 (by omega) ?_ (fun v dv ev => (rx v dv ev).kx kA) (by simp) rfl ?_ Kx.refl fun μ' ys g5 g6 g7 g8 k' em hl ry => ?_
    · rcases h2 with h | ⟨m, h, h3, h4⟩
      · exact .inl h
      · exact .inr ⟨m, h, h3, by have := h4.lt; omega, h4.app⟩
    · intro v dv ev
      cases v with
      | zero =>
        rw [List.getElem?_cons_zero] at ev
        cases ev
        exact row_one (.inr rfl)
      | succ v => simp at ev
    · simp_arith
      have lA : (μ ++ [MO.lst [.lst [.int 1]]]).length = μ.length + 1 := by simp
      have hl' := k'.len
      rw [show ((s + 1 : Nat) : Int) + 1 = ((s + 1 + 1 : Nat) : Int) from rfl]
      refine outer_lp he hn hb0 c (s + 1) (xs := ys) (by omega) (.inr ⟨μ.length, rfl, hb, .inl em⟩) hl (fun v dv ev => (ry v dv ev).re (Nat.le_refl _)) ⟨by have := k.len; omega, fun j hj => ?_⟩ q
      rw [k'.low j hj, List.getElem?_append_left (by omega)]
      exact k.low j hj
/-- all that was there stands -/
structure Ey (μ μ' : Mu) : Prop where
  len : μ.length ≤ μ'.length
  at_ : ∀ (j : Nat) o, μ[j]? = some o → μ'[j]? = some o
theorem Ey.refl {μ : Mu} : Ey μ μ := ⟨Nat.le_refl _, fun _ _ h => h⟩
theorem Ey.trans {a b c : Mu} (h : Ey a b) (k : Ey b c) : Ey a c := ⟨Nat.le_trans h.len k.len, fun j o e => k.at_ j o (h.at_ j o e)⟩
theorem ones_lc {g0 g1 g2 g3 g4 g6 g7 g8 : Option D} : ∀ (ds : List D) {μ : Mu} {QL : List D → Mu → Prop}, QL (List.replicate ds.length (.lst [.int 1])) μ → Ok (lcL (dgName 5) dYes (dLst (daCons (dC (D.int 1)) daNil)) [g0, g1, g2, g3, g4, none, g6, g7, g8] ds μ) QL
  | [], μ, QL, q => q
  | d :: ds, μ, QL, q => by
    rw [ok_lcConsY]
    simp_arith
    refine ones_lc ds ?_
    rw [List.length_cons, List.replicate_succ] at q
    exact q
theorem areas_spec {e n : Nat} {μ : Mu} {Q : D → Mu → Prop} (he : e ≤ 24) (hn : n ≤ 24) (q : ∀ d r μ', Ey μ μ' → Rk e n r → Its μ' d (iD r) → Q d μ') : Ok (m_areas_of [.int (e : Nat), .int (n : Nat)] μ) Q := by
  unfold m_areas_of
  simp_arith
  refine ⟨by omega, by rw [rngD_len]; omega, ones_lc _ ?_⟩
  rw [rngD_len, show ((n : Int) + 1).toNat = n + 1 from by omega]
  refine ⟨by omega, ?_⟩
  rw [show ((e : Int) + 1 - 1).toNat = e from by omega, show (1 : Int) = ((0 + 1 : Nat) : Int) from rfl]
  refine outer_lp (b := μ.length) (μ0 := μ) (xs := List.replicate (n + 1) (.lst [.int 1])) he hn (Nat.le_refl _) e 0 (by omega) (.inl rfl) (by rw [List.length_replicate]) (fun v dv ev => ?_) ⟨Nat.le_refl _, fun _ _ => rfl⟩ fun μ' d2 xs g3 g4 g5 g6 g7 g8 k h2 hx rx => ?_
  · have := (List.mem_replicate.mp (List.mem_of_getElem? ev)).2
    subst this
    exact row_one (.inl rfl)
  · obtain ⟨dx, ex⟩ : ∃ dx, xs[n]? = some dx := ⟨_, List.getElem?_eq_getElem (by omega)⟩
    simp_arith
    have i2 : Its μ' d2 xs := h2.imp id fun ⟨m, a, _, c⟩ => ⟨m, a, c⟩
    refine (fix_its i2 ex _).mpr ?_
    obtain ⟨r, hr, h⟩ := rx n dx ex
    refine q dx r μ' ⟨k.len, fun j o ej => ?_⟩ hr (h.imp id fun ⟨j, a, _, _, c⟩ => ⟨j, a, c⟩)
    rw [k.low j (List.getElem?_eq_some_iff.mp ej).1]
    exact ej
theorem dc_no {x y s : Int} {μ : Mu} {Q : D → Mu → Prop} (h : x < 0 ∨ y < 0) (q : Q (.int 0) μ) : Ok (m_direct_count [.tup [.int x, .int y, .int s]] μ) Q := by
  unfold m_direct_count
  by_cases h1 : x < 0
  · simp_arith [h1]
    exact q
  · have h2 : y < 0 := by omega
    simp_arith [h1, h2]
    exact q
theorem dc_in {x y : Nat} {s : Int} {μ : Mu} {Q : D → Mu → Prop} (hx : x ≤ 24) (hy : y ≤ 24) (q : ∀ μ', Ey μ μ' → Q (.int (cnt x y s : Nat)) μ') : Ok (m_direct_count [.tup [.int (x : Nat), .int (y : Nat), .int s]] μ) Q := by
  have h1 : ¬ ((x : Int) < 0) := by omega
  have h2 : ¬ ((y : Int) < 0) := by omega
  have m1 := (dg2 (n := x) (by omega)).ok (dg2 (n := y) (by omega)) (by decide) (by decide)
  unfold m_direct_count
  by_cases h3 : (0 : Int) ≤ s
  · by_cases h4 : s ≤ (x : Int) * (y : Int)
    · simp_arith [h1, h2, h3, h4]
      refine ⟨m1, ?_⟩
      try simp_arith [h1, h2, h3, h4]
      refine areas_spec hx hy fun d r μ' k hr hi => ?_
      try simp_arith
      have h5 : s.toNat ≤ x * y := by rw [← Int.natCast_mul] at h4; omega
      have ec := hr.val s.toNat h5
      have ec2 : (iD r)[s.toNat]? = some (.int (cnt x y (s.toNat : Nat) : Nat)) := by unfold iD; rw [List.getElem?_map, ec]; rfl
      have es : ((s.toNat : Nat) : Int) = s := by omega
      have := (fix_its hi ec2 fun z => Q z μ').mpr (by rw [es]; exact q μ' k)
      rw [es] at this
      exact this
    · have := q μ Ey.refl
      rw [cnt_out (.inr (by rw [Int.natCast_mul]; omega))] at this
      simp_arith [h1, h2, h3, h4]
      refine ⟨m1, ?_⟩
      try simp_arith [h1, h2, h3, h4]
      exact this
  · have := q μ Ey.refl
    rw [cnt_out (.inl (by omega))] at this
    simp_arith [h1, h2, h3]
    first | exact this | (refine ⟨m1, ?_⟩; try simp_arith [h1, h2, h3]; exact this)
end A10

set_option Elab.async false
set_option linter.all false
set_option maxRecDepth 100000
set_option maxHeartbeats 1000000
set_option exponentiation.threshold 10000
namespace A10
open PySem PySem.Spec PyProof.Rows L2 Ar
local macro_rules | `(tactic| simp_arith) => `(tactic| simp -implicitDefEqProofs only [↓ok_ok, ↓ok_stk, ↓ok_exc, ↓ok_bind, ↓ok_nox, ↓ok_of, ↓ok_lenO, ↓ok_propO, ↓ok_txtO, ↓ok_clsM, ↓ok_tupRg, ↓ok_lstRg, ↓oko_some, ↓oko_none, ↓oko_ite, ↓oko_map, ↓ok_ite, ↓oks_nx, ↓oks_stk, ↓oks_exc, ↓oks_bk, ↓oks_ct, ↓oks_rt, ↓oks_then, ↓oks_thenN, ↓ok_var0, ↓ok_varS, ↓ok_c, ↓ok_bin, ↓ok_un, ↓okb, ↓ok_test, ↓ok_tru, ↓ok_and, ↓ok_or, ↓ok_not, ↓ok_andV, ↓ok_orV, ↓ok_notV, ↓ok_if, ↓ok_ifT, ↓ok_fld, ↓ok_slt, ↓o_slt0, ↓ok_make, ↓ok_makeS, ↓o_isaC, ↓o_isn_ins, ↓o_is_ins, ↓ok_izip, ↓zipR_ll, ↓zipR_tl, ↓zipR_tt, ↓o_parts, ↓o_shares, ↓o_east, ↓o_north, ↓o_rests, zip2, zip3, ↓ok_nil, ↓ok_cons, ↓ok_star, ↓seqA_tup, ↓seqA_lst, ↓ok_revL, ↓ok_revLM, ↓ok_cmp2, ↓ok_tup, ↓ok_lst, ↓ok_lstM, ↓ok_fn, ↓ok_call, ↓ok_callK, ↓ok_noPart, ↓oki, ↓ok_part, ↓ok_sl, ↓oks_next, ↓oks_seq, ↓oks_drop, ↓oks_ret, ↓oks_retN, ↓oks_break, ↓oks_cont, ↓oks_never, ↓oks_if, ↓oks_try, ↓oks_asg, ↓oks_set, ↓ok_gName, ↓ok_gNil, ↓ok_gCons, ↓ok_gTup, ↓ok_gUnl, ↓ok_gSub, ↓okl2, ↓okl3, ↓oks_par, ↓oks_par3, ↓okv0, ↓okvS, ↓oks_aug, ↓ok_append, ↓ok_extend, ↓seqL_lst, ↓ok_strM, ↓ok_def, ↓ok_iSeq, ↓oki1, ↓oki2, ↓ok_range1, ↓ok_range2, ↓oks_for, ↓ok_lc, ↓ok_finL, ↓ok_finM, ↓ok_yes, ↓setg0, ↓setgS, ↓unsetg0, ↓unsetgS, ↓wipeg0, ↓wipegS, ↓initg0, ↓initgN, ↓initgS, ↓lenis0, ↓lenisS, ↓lenle0, ↓lenleS, ↓seqI_lst, ↓seqIE_lst, ↓seqIE_tup, ↓seqIE_scr, ↓seqI_str, ↓okt, ↓ok_kIx, ↓ok_kGet, ↓ok_revS, ↓okd, ↓ok_dGet, ↓o_mulS, ↓seqI_tup, ↓seqI_scr, ↓o_ne_mv, ↓o_eq_mv, ↓ok_enum, ↓okl1, ↓o_mul_rep, ↓o_mul_iiF, cut_2of3, ↓o_ne_2, ↓o_eq_2, ↓o_ne_bb, ↓o_eq_bb, ↓o_tru_b, ↓o_tru_i, ↓o_tru_t, ↓o_tru_l, ↓o_tru_n, ↓o_isn_non, ↓o_isn_int, ↓o_isn_tup, ↓o_isn_lst, ↓o_isn_str, ↓o_is_non, ↓o_is_int, ↓o_is_tup, ↓o_is_lst, ↓o_is_str, ↓o_eq_ii, ↓o_ne_ii, ↓o_add_ii, ↓o_sub_ii, ↓o_mul_ii, ↓o_div_ii, ↓o_mod_ii, ↓o_lt_ii, ↓o_le_ii, ↓o_gt_ii, ↓o_ge_ii, ↓o_add_tt, ↓o_add_ll, ↓o_add_ss, ↓o_divmod_ii, ↓o_neg_i, ↓o_int_i, ↓o_abs_i, ↓o_max_ii, ↓o_max1_3, ↓o_min1_3, ↓o_min_ii, ↓o_len_tup, ↓o_len_lst, ↓o_len_scr, ↓o_slc_lst, ↓o_slc_scr, ↓o_slc_tup, ↓o_tuple_lst, ↓o_tuple_tup, ↓o_tuple_scr, ↓o_list_tup, ↓o_list_lst, ↓o_bool_b, ↓o_isa_int_int, ↓o_isa_int_bool, ↓o_isa_int_tup, ↓o_isa_int_str, ↓o_isa_int_lst, ↓o_isa_bl_int, ↓o_isa_bl_bool, ↓o_isa_tup_tup, ↓o_isa_tup_int, ↓o_isa_tup_lst, ↓o_isa_tup_str, ↓o_isa_str_str, ↓o_isa_str_int, ↓o_isa_str_tup, ↓o_isa_lst_lst, ↓o_isa_lst_tup, ↓o_isa_lst_int, ↓o_isa_non_int, ↓o_isa_non_tup, ↓o_sum_3, ↓o_all_3, ↓o_atI_0, ↓o_atI_1, ↓o_atI_2, ↓o_atI_3, ↓o_atI_4, ↓o_atI_5, ↓o_ixN_30, ↓o_ixN_31, ↓o_ixN_32, ↓o_fix_tup, ↓o_fix_lst, ↓o_fix_scr, ↓o_pow_6, ↓o_pow_18, pick_0, pick_01, pick_10, pick_012, pick_021, pick_102, pick_120, pick_201, pick_210, eq_self, List.cons_append, List.nil_append, List.append_nil, List.set_set, List.set_cons_zero, List.set_cons_succ, List.length_cons, List.length_nil, Nat.zero_add, Nat.reduceAdd, Nat.reduceLeDiff, castN, natabsN, mulOkL, mulOkR, Bool.true_or, Nat.reducePow, Nat.reduceLT, ne_eq, not_true_eq_false, not_false_eq_true, rng_3, rng_2, Int.reduceEq, Int.reduceLT, Int.reduceLE, Int.reduceAdd, Int.reduceSub, Int.reduceMul, Int.reduceNeg, true_and, and_true, if_true, if_false, Bool.false_eq_true, Bool.true_eq_false, decide_true, decide_false, Bool.not_true, Bool.not_false, Bool.and_true, Bool.true_and, Bool.and_false, Bool.false_and])
local macro_rules | `(tactic| simp_arith [$ts,*]) => `(tactic| simp -implicitDefEqProofs only [↓ok_ok, ↓ok_stk, ↓ok_exc, ↓ok_bind, ↓ok_nox, ↓ok_of, ↓ok_lenO, ↓ok_propO, ↓ok_txtO, ↓ok_clsM, ↓ok_tupRg, ↓ok_lstRg, ↓oko_some, ↓oko_none, ↓oko_ite, ↓oko_map, ↓ok_ite, ↓oks_nx, ↓oks_stk, ↓oks_exc, ↓oks_bk, ↓oks_ct, ↓oks_rt, ↓oks_then, ↓oks_thenN, ↓ok_var0, ↓ok_varS, ↓ok_c, ↓ok_bin, ↓ok_un, ↓okb, ↓ok_test, ↓ok_tru, ↓ok_and, ↓ok_or, ↓ok_not, ↓ok_andV, ↓ok_orV, ↓ok_notV, ↓ok_if, ↓ok_ifT, ↓ok_fld, ↓ok_slt, ↓o_slt0, ↓ok_make, ↓ok_makeS, ↓o_isaC, ↓o_isn_ins, ↓o_is_ins, ↓ok_izip, ↓zipR_ll, ↓zipR_tl, ↓zipR_tt, ↓o_parts, ↓o_shares, ↓o_east, ↓o_north, ↓o_rests, zip2, zip3, ↓ok_nil, ↓ok_cons, ↓ok_star, ↓seqA_tup, ↓seqA_lst, ↓ok_revL, ↓ok_revLM, ↓ok_cmp2, ↓ok_tup, ↓ok_lst, ↓ok_lstM, ↓ok_fn, ↓ok_call, ↓ok_callK, ↓ok_noPart, ↓oki, ↓ok_part, ↓ok_sl, ↓oks_next, ↓oks_seq, ↓oks_drop, ↓oks_ret, ↓oks_retN, ↓oks_break, ↓oks_cont, ↓oks_never, ↓oks_if, ↓oks_try, ↓oks_asg, ↓oks_set, ↓ok_gName, ↓ok_gNil, ↓ok_gCons, ↓ok_gTup, ↓ok_gUnl, ↓ok_gSub, ↓okl2, ↓okl3, ↓oks_par, ↓oks_par3, ↓okv0, ↓okvS, ↓oks_aug, ↓ok_append, ↓ok_extend, ↓seqL_lst, ↓ok_strM, ↓ok_def, ↓ok_iSeq, ↓oki1, ↓oki2, ↓ok_range1, ↓ok_range2, ↓oks_for, ↓ok_lc, ↓ok_finL, ↓ok_finM, ↓ok_yes, ↓setg0, ↓setgS, ↓unsetg0, ↓unsetgS, ↓wipeg0, ↓wipegS, ↓initg0, ↓initgN, ↓initgS, ↓lenis0, ↓lenisS, ↓lenle0, ↓lenleS, ↓seqI_lst, ↓seqIE_lst, ↓seqIE_tup, ↓seqIE_scr, ↓seqI_str, ↓okt, ↓ok_kIx, ↓ok_kGet, ↓ok_revS, ↓okd, ↓ok_dGet, ↓o_mulS, ↓seqI_tup, ↓seqI_scr, ↓o_ne_mv, ↓o_eq_mv, ↓ok_enum, ↓okl1, ↓o_mul_rep, ↓o_mul_iiF, cut_2of3, ↓o_ne_2, ↓o_eq_2, ↓o_ne_bb, ↓o_eq_bb, ↓o_tru_b, ↓o_tru_i, ↓o_tru_t, ↓o_tru_l, ↓o_tru_n, ↓o_isn_non, ↓o_isn_int, ↓o_isn_tup, ↓o_isn_lst, ↓o_isn_str, ↓o_is_non, ↓o_is_int, ↓o_is_tup, ↓o_is_lst, ↓o_is_str, ↓o_eq_ii, ↓o_ne_ii, ↓o_add_ii, ↓o_sub_ii, ↓o_mul_ii, ↓o_div_ii, ↓o_mod_ii, ↓o_lt_ii, ↓o_le_ii, ↓o_gt_ii, ↓o_ge_ii, ↓o_add_tt, ↓o_add_ll, ↓o_add_ss, ↓o_divmod_ii, ↓o_neg_i, ↓o_int_i, ↓o_abs_i, ↓o_max_ii, ↓o_max1_3, ↓o_min1_3, ↓o_min_ii, ↓o_len_tup, ↓o_len_lst, ↓o_len_scr, ↓o_slc_lst, ↓o_slc_scr, ↓o_slc_tup, ↓o_tuple_lst, ↓o_tuple_tup, ↓o_tuple_scr, ↓o_list_tup, ↓o_list_lst, ↓o_bool_b, ↓o_isa_int_int, ↓o_isa_int_bool, ↓o_isa_int_tup, ↓o_isa_int_str, ↓o_isa_int_lst, ↓o_isa_bl_int, ↓o_isa_bl_bool, ↓o_isa_tup_tup, ↓o_isa_tup_int, ↓o_isa_tup_lst, ↓o_isa_tup_str, ↓o_isa_str_str, ↓o_isa_str_int, ↓o_isa_str_tup, ↓o_isa_lst_lst, ↓o_isa_lst_tup, ↓o_isa_lst_int, ↓o_isa_non_int, ↓o_isa_non_tup, ↓o_sum_3, ↓o_all_3, ↓o_atI_0, ↓o_atI_1, ↓o_atI_2, ↓o_atI_3, ↓o_atI_4, ↓o_atI_5, ↓o_ixN_30, ↓o_ixN_31, ↓o_ixN_32, ↓o_fix_tup, ↓o_fix_lst, ↓o_fix_scr, ↓o_pow_6, ↓o_pow_18, pick_0, pick_01, pick_10, pick_012, pick_021, pick_102, pick_120, pick_201, pick_210, eq_self, List.cons_append, List.nil_append, List.append_nil, List.set_set, List.set_cons_zero, List.set_cons_succ, List.length_cons, List.length_nil, Nat.zero_add, Nat.reduceAdd, Nat.reduceLeDiff, castN, natabsN, mulOkL, mulOkR, Bool.true_or, Nat.reducePow, Nat.reduceLT, ne_eq, not_true_eq_false, not_false_eq_true, rng_3, rng_2, Int.reduceEq, Int.reduceLT, Int.reduceLE, Int.reduceAdd, Int.reduceSub, Int.reduceMul, Int.reduceNeg, true_and, and_true, if_true, if_false, Bool.false_eq_true, Bool.true_eq_false, decide_true, decide_false, Bool.not_true, Bool.not_false, Bool.and_true, Bool.true_and, Bool.and_false, Bool.false_and, $ts,*])
theorem up [x : ExW] {α : Type} {r : R α} {Q : α → Mu → Prop} (h : @Ok xp0 α r Q) : Ok r Q := by
  cases r with
  | ok d μ => exact h
  | exc e μ => exact False.elim h
  | stk => exact False.elim h
theorem oks_raise [x : ExW] {c f : Str} {e : DE} {Γ : Gam} {μ : Mu} {N B C : Gam → Mu → Prop} {T : D → Mu → Prop} : OkS (dRaise c f (daCons e daNil) Γ μ) N B C T = Ok (e Γ μ) fun d μ1 => x.X (c, some (f, d)) μ1 := by
  unfold dRaise
  rw [oks_then, ok_cons]
  rfl
theorem exc_of {α : Type} {r : R α} {P : ExK → Mu → Prop} (h : @Ok ⟨P⟩ α r fun _ _ => False) : ∃ e μ', r = .exc e μ' ∧ P e μ' := by
  cases r with
  | ok d μ => exact False.elim h
  | exc e μ => exact ⟨e, μ, rfl, h⟩
  | stk => exact False.elim h
theorem sub1 (k : Nat) : ((k + 1 : Nat) : Int) - 1 = (k : Nat) := by omega
/-- how many walks go east first -/
theorem ahead_spec {x y : Nat} {a : Int} {μ : Mu} {Q : D → Mu → Prop} (hx : x ≤ 24) (hy : y ≤ 24) (q : ∀ μ', Ey μ μ' → Q (.int ((oE x y a).length : Nat)) μ') : Ok (m_direct_count [.tup [.int ((x : Nat) - 1), .int (y : Nat), .int (a - (y : Nat))]] μ) Q := by
  cases x with
  | zero => exact dc_no (.inl (by omega)) (q μ Ey.refl)
  | succ x =>
    rw [sub1]
    exact dc_in (by omega) hy q
theorem ckd_spec {x y s : Int} (h : x < 0 ∨ y < 0 ∨ x + y ≤ 24) {μ : Mu} {Q : D → Mu → Prop} (q : Q .non μ) : Ok (m_check_direct [.tup [.int x, .int y, .int s]] μ) Q := by
  unfold m_check_direct
  simp_arith
  refine check_spec (t := (x, y, s)) ?_
  by_cases h1 : 0 ≤ x
  · by_cases h2 : 0 ≤ y
    · have h3 : ¬ ((24 : Int) < x + y) := by omega
      simp_arith [h1, h2, h3]
      exact q
    · simp_arith [h1, h2]
      exact q
  · simp_arith [h1]
    exact q
theorem iscount_spec {i : Int} (h : 0 ≤ i) {μ : Mu} {Q : D → Mu → Prop} (q : Q (.bl true) μ) : Ok (m_is_count [.int i] μ) Q := by
  unfold m_is_count
  simp_arith
  refine isint_spec ?_
  simp_arith [h]
  exact q
theorem word_e (us : List Let) : word us ++ Str.ofString "e" = word (us ++ [.e]) := by
  rw [← word_app]
  rfl
theorem word_n (us : List Let) : word us ++ Str.ofString "n" = word (us ++ [.n]) := by
  rw [← word_app]
  rfl
abbrev PB : DS := (dSeq (dSet 6 (dCall m_direct_count (daCons (dTup (daCons (dBin fSubI (dVar 1) (dC (.int 1))) (daCons (dVar 2) (daCons (dBin fSubI (dVar 3) (dVar 2)) (daNil))))) (daNil)))) (dIfS (dTest (dBin fEq (dVar 5) (dC (.str "e")))) (dPar 1 3 (daCons (dBin fSubI (dVar 1) (dC (.int 1))) (daCons (dBin fSubI (dVar 3) (dVar 2)) (daNil)))) (dPar 2 4 (daCons (dBin fSubI (dVar 2) (dC (.int 1))) (daCons (dBin fAdd (dVar 4) (dVar 6)) (daNil))))))
theorem pl_lp {g0 : Option D} : ∀ (w : List Let) (x y : Nat) (a : Int) (k : Nat) (f : Int) {o5 o6 : Option D} {μ : Mu} {N B C : Gam → Mu → Prop} {T : D → Mu → Prop}, x ≤ 24 → y ≤ 24 → (O x y a)[k]? = some w → (∀ o1 o2 o3 o5 o6 μ', Ey μ μ' → N [g0, o1, o2, o3, some (.int (f + (k : Nat))), o5, o6] μ') →
    OkS (forL (dgName 5) PB (w.map chD) [g0, some (.int (x : Nat)), some (.int (y : Nat)), some (.int a), some (.int f), o5, o6] μ) N B C T
  | [], x, y, a, k, f, o5, o6, μ, N, B, C, T, hx, hy, h, q => by
    have hl := O_len (List.mem_of_getElem? h)
    obtain ⟨rfl, rfl⟩ : x = 0 ∧ y = 0 := by
      have : ([] : List Let).length = 0 := rfl
      omega
    obtain ⟨_, rfl⟩ := get_end h
    have := q (some (.int ((0 : Nat) : Int))) (some (.int ((0 : Nat) : Int))) (some (.int a)) o5 o6 μ Ey.refl
    rw [show f + ((0 : Nat) : Int) = f from by omega] at this
    exact this
  | l :: w, x, y, a, k, f, o5, o6, μ, N, B, C, T, hx, hy, h, q => by
    have hl := O_len (List.mem_of_getElem? h)
    rw [List.length_cons] at hl
    rw [List.map_cons, oks_forCons]
    unfold PB
    simp_arith
    refine ahead_spec hx hy fun μ1 e1 => ?_
    rcases get_step h (by omega) with ⟨x', v, rfl, hw, hk, hv⟩ | ⟨y', v, rfl, hw, hk, hv⟩
    · cases hw
      simp_arith [eq_ee]
      rw [sub1]
      exact pl_lp w x' y _ k f (by omega) hy hv fun o1 o2 o3 o5 o6 μ' e2 => q o1 o2 o3 o5 o6 μ' (e1.trans e2)
    · cases hw
      simp_arith [eq_ne]
      rw [sub1]
      refine pl_lp w x y' a _ _ hx (by omega) hv fun o1 o2 o3 o5 o6 μ' e2 => ?_
      have := q o1 o2 o3 o5 o6 μ' (e1.trans e2)
      rw [show f + ((oE x (y' + 1) a).length : Nat) + ((k - (oE x (y' + 1) a).length : Nat) : Int) = f + (k : Nat) from by omega]
      exact this
theorem place_spec {x y k : Nat} {a : Int} {w : List Let} (h : x + y ≤ 24) (hw : (O x y a)[k]? = some w) {μ : Mu} {Q : D → Mu → Prop} (q : ∀ μ', Ey μ μ' → Q (.int (k : Nat)) μ') : Ok (m_place_of [.str (word w)] μ) Q := by
  have hm := List.mem_of_getElem? hw
  have hl := O_len hm
  have ew : fLen μ [.str (word w)] = some (.int ((x + y : Nat) : Int)) := by
    have h1 : (word w).length = x + y := by rw [word_len, hl]
    unfold fLen
    simp [h1, show x + y ≤ 1000000 by omega]
  unfold m_place_of
  simp_arith [word_items]
  refine isen_spec (by omega) (O_en hm) ?_
  simp_arith [word_items, ew]
  rw [if_neg (by simp; omega)]
  refine walkmove_spec (by omega) ?_
  rw [O_way hm]
  simp_arith [word_items]
  refine pl_lp w x y a k 0 (by omega) (by omega) hw fun o1 o2 o3 o5 o6 μ' e1 => ?_
  rw [Int.zero_add]
  simp_arith
  exact q _ e1
theorem walk_spec [ExW] {x y k : Nat} {a : Int} {w : List Let} (h : x + y ≤ 24) (hw : (O x y a)[k]? = some w) {μ : Mu} {Q : D → Mu → Prop} (q : ∀ μ', Ey μ μ' → Q (.str (word w)) μ') : Ok (m_direct_walk [.tup [.int (x : Nat), .int (y : Nat), .int a], .int (k : Nat)] μ) Q := by
  have hk : k < cnt x y a := (List.getElem?_eq_some_iff.mp hw).1
  have h1 : ¬ ((cnt x y a : Nat) : Int) = 0 := by omega
  have h2 : ¬ (((cnt x y a : Nat) : Int) ≤ (k : Nat)) := by omega
  unfold m_direct_walk
  simp_arith
  refine up (ckd_spec (.inr (.inr (by omega))) ?_)
  try simp_arith
  refine up (dc_in (by omega) (by omega) fun μ1 e1 => ?_)
  simp_arith [h1]
  refine up (iscount_spec (by omega) ?_)
  simp_arith [h2]
  refine oks_whileInv (fun m Γ μ' => Ey μ μ' ∧ ∃ (x1 y1 k1 : Nat) (a1 : Int) (us v : List Let) (o8 : Option D), m = x1 + y1 ∧ us.length ≤ 24 ∧ us.length + x1 + y1 = x + y ∧ us ++ v = w ∧ (O x1 y1 a1)[k1]? = some v ∧ Γ = [some (.tup [.int (x : Nat), .int (y : Nat), .int a]), some (.int (k : Nat)), some (.int (cnt x y a : Nat)), some (.int (x1 : Nat)), some (.int (y1 : Nat)), some (.int a1), some (.str (word us)), some (.int (k1 : Nat)), o8]) (k := x + y) ⟨e1, x, y, k, a, [], w, none, rfl, by simp, by simp, rfl, hw, rfl⟩ ?_
  rintro m Γ μ' ⟨e2, x1, y1, k1, a1, us, v, o8, rfl, hu, hul, he, hv, rfl⟩
  have lw := word_len us
  have ln : (Str.ofString "n").length = 1 := by decide +kernel
  have le : (Str.ofString "e").length = 1 := by decide +kernel
  simp_arith
  by_cases h0 : 0 < x1 + y1
  · rw [if_pos (decide_eq_true (by omega))]
    try simp_arith
    refine up (ahead_spec (by omega) (by omega) fun μ2 e3 => ?_)
    rcases get_step hv h0 with ⟨x', v', rfl, rfl, hk', hv'⟩ | ⟨y', v', rfl, rfl, hk', hv'⟩
    · have h4 : ((k1 : Nat) : Int) < ((oE (x' + 1) y1 a1).length : Nat) := by omega
      simp_arith [h4]
      rw [word_e, sub1]
      refine ⟨by omega, x' + y1, by omega, e2.trans e3, x', y1, k1, _, us ++ [.e], v', _, rfl, ?_, ?_, ?_, hv', rfl⟩
      · rw [List.length_append, List.length_singleton]; omega
      · rw [List.length_append, List.length_singleton]; omega
      · rw [← he, List.append_assoc]
        rfl
    · have h4 : ¬ ((k1 : Nat) : Int) < ((oE x1 (y' + 1) a1).length : Nat) := by omega
      simp_arith [h4]
      rw [word_n, sub1]
      refine ⟨by omega, x1 + y', by omega, e2.trans e3, x1, y', k1 - (oE x1 (y' + 1) a1).length, a1, us ++ [.n], v', some (.int ((oE x1 (y' + 1) a1).length : Nat)), rfl, ?_, ?_, ?_, hv', ?_⟩
      · rw [List.length_append, List.length_singleton]; omega
      · rw [List.length_append, List.length_singleton]; omega
      · rw [← he, List.append_assoc]
        rfl
      · rw [show ((k1 : Nat) : Int) - ((oE x1 (y' + 1) a1).length : Nat) = ((k1 - (oE x1 (y' + 1) a1).length : Nat) : Int) from by omega]
  · rw [if_neg (by simp; omega)]
    obtain ⟨rfl, rfl⟩ : x1 = 0 ∧ y1 = 0 := ⟨by omega, by omega⟩
    obtain ⟨rfl, _⟩ := get_end hv
    rw [List.append_nil] at he
    subst he
    try simp_arith
    exact q _ e2
theorem walk_ix {x y : Nat} {a : Int} (h : x + y ≤ 24) (hc : 0 < cnt x y a) {μ : Mu} : ∃ μ', Ey μ μ' ∧ m_direct_walk [.tup [.int (x : Nat), .int (y : Nat), .int a], .int (cnt x y a : Nat)] μ = .exc ("InvalidIndex", some ("given", .int (cnt x y a : Nat))) μ' := by
  have h1 : ¬ ((cnt x y a : Nat) : Int) = 0 := by omega
  obtain ⟨e, μ', e1, e2, rfl⟩ := exc_of (r := m_direct_walk [.tup [.int (x : Nat), .int (y : Nat), .int a], .int (cnt x y a : Nat)] μ) (P := fun e μ' => Ey μ μ' ∧ e = (("InvalidIndex", some ("given", .int (cnt x y a : Nat))) : ExK)) (by
    letI : ExW := ⟨fun e μ' => Ey μ μ' ∧ e = (("InvalidIndex", some ("given", .int (cnt x y a : Nat))) : ExK)⟩
    show Ok _ _
    unfold m_direct_walk
    simp_arith
    refine up (ckd_spec (.inr (.inr (by omega))) ?_)
    try simp_arith
    refine up (dc_in (by omega) (by omega) fun μ1 e1 => ?_)
    simp_arith [h1]
    refine up (iscount_spec (by omega) ?_)
    have h2 : ((cnt x y a : Nat) : Int) ≤ (cnt x y a : Nat) := Int.le_refl _
    simp_arith [↓oks_raise, h2]
    exact ⟨e1, rfl⟩)
  exact ⟨μ', e2, e1⟩
theorem walk_no {x y a : Int} (h : (∃ m n : Nat, x = m ∧ y = n ∧ m + n ≤ 24 ∧ cnt m n a = 0) ∨ x < 0 ∨ y < 0) {k : Int} {μ : Mu} : ∃ μ', Ey μ μ' ∧ m_direct_walk [.tup [.int x, .int y, .int a], .int k] μ = .exc ("NoWalk", none) μ' := by
  obtain ⟨e, μ', e1, e2, rfl⟩ := exc_of (r := m_direct_walk [.tup [.int x, .int y, .int a], .int k] μ) (P := fun e μ' => Ey μ μ' ∧ e = (("NoWalk", none) : ExK)) (by
    letI : ExW := ⟨fun e μ' => Ey μ μ' ∧ e = (("NoWalk", none) : ExK)⟩
    show Ok _ _
    unfold m_direct_walk
    simp_arith
    refine up (ckd_spec (by rcases h with ⟨m, n, rfl, rfl, h, _⟩ | h | h <;> omega) ?_)
    try simp_arith
    rcases h with ⟨m, n, rfl, rfl, h, hc⟩ | h
    · refine up (dc_in (by omega) (by omega) fun μ1 e1 => ?_)
      rw [hc]
      simp_arith [↓oks_raise0]
      exact ⟨e1, rfl⟩
    · refine up (dc_no h ?_)
      simp_arith [↓oks_raise0]
      exact ⟨Ey.refl, rfl⟩)
  exact ⟨μ', e2, e1⟩
theorem walks_spec {x y : Nat} {a : Int} (h : x + y ≤ 24) {μ : Mu} {Q : D → Mu → Prop} (q : ∀ μ', Ey μ μ' → Q (.int (cnt x y a : Nat)) μ') : Ok (m_direct_walks [.tup [.int (x : Nat), .int (y : Nat), .int a]] μ) Q := by
  unfold m_direct_walks
  simp_arith
  refine ckd_spec (.inr (.inr (by omega))) ?_
  try simp_arith
  exact dc_in (by omega) (by omega) q
/-! what _law_tried tells -/
theorem cat_in : catE (Str.ofString "InvalidIndex") (Str.ofString "NoWalk") = false := by decide +kernel
theorem cat_ii : catE (Str.ofString "InvalidIndex") (Str.ofString "InvalidIndex") = true := by decide +kernel
theorem cat_nn : catE (Str.ofString "NoWalk") (Str.ofString "NoWalk") = true := by decide +kernel
theorem tried_ix {d : D} {μ : Mu} : res__law_tried (.exc ("InvalidIndex", some ("given", d)) μ) = .ok (.tup [.str "index", d]) μ := by
  unfold res__law_tried dB__law_tried
  simp [dTryH, dLst, dTup, daCons, daNil, dC, R.bind, RS.fin, tabE, hdRun, cat_in, cat_ii, sr__law_tried_1, su__law_tried_1, dRet, dFn, dXf, dVar, R.of, R.thenS, rtS, R.nox]
theorem tried_no {μ : Mu} : res__law_tried (.exc ("NoWalk", none) μ) = .ok (.str "none") μ := by
  unfold res__law_tried dB__law_tried
  simp [dTryH, dLst, dTup, daCons, daNil, dC, R.bind, RS.fin, tabE, hdRun, cat_nn, sr__law_tried_0, su__law_tried_0, dRet, dFn, dXf, dVar, R.of, R.thenS, rtS, R.nox]
end A10

set_option Elab.async false
set_option linter.all false
set_option maxRecDepth 100000
set_option maxHeartbeats 1000000
set_option exponentiation.threshold 10000
namespace A10
open PySem PySem.Spec PyProof.Rows L2 Ar TL
local macro_rules | `(tactic| simp_arith) => `(tactic| simp -implicitDefEqProofs only [↓ok_ok, ↓ok_stk, ↓ok_exc, ↓ok_bind, ↓ok_nox, ↓ok_of, ↓ok_lenO, ↓ok_propO, ↓ok_txtO, ↓ok_clsM, ↓ok_tupRg, ↓ok_lstRg, ↓oko_some, ↓oko_none, ↓oko_ite, ↓oko_map, ↓ok_ite, ↓oks_nx, ↓oks_stk, ↓oks_exc, ↓oks_bk, ↓oks_ct, ↓oks_rt, ↓oks_then, ↓oks_thenN, ↓ok_var0, ↓ok_varS, ↓ok_c, ↓ok_bin, ↓ok_un, ↓okb, ↓ok_test, ↓ok_tru, ↓ok_and, ↓ok_or, ↓ok_not, ↓ok_andV, ↓ok_orV, ↓ok_notV, ↓ok_if, ↓ok_ifT, ↓ok_fld, ↓ok_slt, ↓o_slt0, ↓ok_make, ↓ok_makeS, ↓o_isaC, ↓o_isn_ins, ↓o_is_ins, ↓ok_izip, ↓zipR_ll, ↓zipR_tl, ↓zipR_tt, ↓o_parts, ↓o_shares, ↓o_east, ↓o_north, ↓o_rests, zip2, zip3, ↓ok_nil, ↓ok_cons, ↓ok_star, ↓seqA_tup, ↓seqA_lst, ↓ok_revL, ↓ok_revLM, ↓ok_cmp2, ↓ok_tup, ↓ok_lst, ↓ok_lstM, ↓ok_fn, ↓ok_call, ↓ok_callK, ↓ok_noPart, ↓oki, ↓ok_part, ↓ok_sl, ↓oks_next, ↓oks_seq, ↓oks_drop, ↓oks_ret, ↓oks_retN, ↓oks_break, ↓oks_cont, ↓oks_never, ↓oks_if, ↓oks_try, ↓oks_asg, ↓oks_set, ↓ok_gName, ↓ok_gNil, ↓ok_gCons, ↓ok_gTup, ↓ok_gUnl, ↓ok_gSub, ↓okl2, ↓okl3, ↓oks_par, ↓oks_par3, ↓okv0, ↓okvS, ↓oks_aug, ↓ok_append, ↓ok_extend, ↓seqL_lst, ↓ok_strM, ↓ok_def, ↓ok_iSeq, ↓oki1, ↓oki2, ↓ok_range1, ↓ok_range2, ↓oks_for, ↓ok_lc, ↓ok_finL, ↓ok_finM, ↓ok_yes, ↓setg0, ↓setgS, ↓unsetg0, ↓unsetgS, ↓wipeg0, ↓wipegS, ↓initg0, ↓initgN, ↓initgS, ↓lenis0, ↓lenisS, ↓lenle0, ↓lenleS, ↓seqI_lst, ↓seqIE_lst, ↓seqIE_tup, ↓seqIE_scr, ↓seqI_str, ↓okt, ↓ok_kIx, ↓ok_kGet, ↓ok_revS, ↓okd, ↓ok_dGet, ↓o_mulS, ↓seqI_tup, ↓seqI_scr, ↓o_ne_mv, ↓o_eq_mv, ↓ok_enum, ↓okl1, ↓o_mul_rep, ↓o_mul_iiF, cut_2of3, ↓o_ne_2, ↓o_eq_2, ↓o_ne_bb, ↓o_eq_bb, ↓o_tru_b, ↓o_tru_i, ↓o_tru_t, ↓o_tru_l, ↓o_tru_n, ↓o_isn_non, ↓o_isn_int, ↓o_isn_tup, ↓o_isn_lst, ↓o_isn_str, ↓o_is_non, ↓o_is_int, ↓o_is_tup, ↓o_is_lst, ↓o_is_str, ↓o_eq_ii, ↓o_ne_ii, ↓o_add_ii, ↓o_sub_ii, ↓o_mul_ii, ↓o_div_ii, ↓o_mod_ii, ↓o_lt_ii, ↓o_le_ii, ↓o_gt_ii, ↓o_ge_ii, ↓o_add_tt, ↓o_add_ll, ↓o_add_ss, ↓o_divmod_ii, ↓o_neg_i, ↓o_int_i, ↓o_abs_i, ↓o_max_ii, ↓o_max1_3, ↓o_min1_3, ↓o_min_ii, ↓o_len_tup, ↓o_len_lst, ↓o_len_scr, ↓o_slc_lst, ↓o_slc_scr, ↓o_slc_tup, ↓o_tuple_lst, ↓o_tuple_tup, ↓o_tuple_scr, ↓o_list_tup, ↓o_list_lst, ↓o_bool_b, ↓o_isa_int_int, ↓o_isa_int_bool, ↓o_isa_int_tup, ↓o_isa_int_str, ↓o_isa_int_lst, ↓o_isa_bl_int, ↓o_isa_bl_bool, ↓o_isa_tup_tup, ↓o_isa_tup_int, ↓o_isa_tup_lst, ↓o_isa_tup_str, ↓o_isa_str_str, ↓o_isa_str_int, ↓o_isa_str_tup, ↓o_isa_lst_lst, ↓o_isa_lst_tup, ↓o_isa_lst_int, ↓o_isa_non_int, ↓o_isa_non_tup, ↓o_sum_3, ↓o_all_3, ↓o_atI_0, ↓o_atI_1, ↓o_atI_2, ↓o_atI_3, ↓o_atI_4, ↓o_atI_5, ↓o_ixN_30, ↓o_ixN_31, ↓o_ixN_32, ↓o_fix_tup, ↓o_fix_lst, ↓o_fix_scr, ↓o_pow_6, ↓o_pow_18, pick_0, pick_01, pick_10, pick_012, pick_021, pick_102, pick_120, pick_201, pick_210, eq_self, List.cons_append, List.nil_append, List.append_nil, List.set_set, List.set_cons_zero, List.set_cons_succ, List.length_cons, List.length_nil, Nat.zero_add, Nat.reduceAdd, Nat.reduceLeDiff, castN, natabsN, mulOkL, mulOkR, Bool.true_or, Nat.reducePow, Nat.reduceLT, ne_eq, not_true_eq_false, not_false_eq_true, rng_3, rng_2, Int.reduceEq, Int.reduceLT, Int.reduceLE, Int.reduceAdd, Int.reduceSub, Int.reduceMul, Int.reduceNeg, true_and, and_true, if_true, if_false, Bool.false_eq_true, Bool.true_eq_false, decide_true, decide_false, Bool.not_true, Bool.not_false, Bool.and_true, Bool.true_and, Bool.and_false, Bool.false_and])
local macro_rules | `(tactic| simp_arith [$ts,*]) => `(tactic| simp -implicitDefEqProofs only [↓ok_ok, ↓ok_stk, ↓ok_exc, ↓ok_bind, ↓ok_nox, ↓ok_of, ↓ok_lenO, ↓ok_propO, ↓ok_txtO, ↓ok_clsM, ↓ok_tupRg, ↓ok_lstRg, ↓oko_some, ↓oko_none, ↓oko_ite, ↓oko_map, ↓ok_ite, ↓oks_nx, ↓oks_stk, ↓oks_exc, ↓oks_bk, ↓oks_ct, ↓oks_rt, ↓oks_then, ↓oks_thenN, ↓ok_var0, ↓ok_varS, ↓ok_c, ↓ok_bin, ↓ok_un, ↓okb, ↓ok_test, ↓ok_tru, ↓ok_and, ↓ok_or, ↓ok_not, ↓ok_andV, ↓ok_orV, ↓ok_notV, ↓ok_if, ↓ok_ifT, ↓ok_fld, ↓ok_slt, ↓o_slt0, ↓ok_make, ↓ok_makeS, ↓o_isaC, ↓o_isn_ins, ↓o_is_ins, ↓ok_izip, ↓zipR_ll, ↓zipR_tl, ↓zipR_tt, ↓o_parts, ↓o_shares, ↓o_east, ↓o_north, ↓o_rests, zip2, zip3, ↓ok_nil, ↓ok_cons, ↓ok_star, ↓seqA_tup, ↓seqA_lst, ↓ok_revL, ↓ok_revLM, ↓ok_cmp2, ↓ok_tup, ↓ok_lst, ↓ok_lstM, ↓ok_fn, ↓ok_call, ↓ok_callK, ↓ok_noPart, ↓oki, ↓ok_part, ↓ok_sl, ↓oks_next, ↓oks_seq, ↓oks_drop, ↓oks_ret, ↓oks_retN, ↓oks_break, ↓oks_cont, ↓oks_never, ↓oks_if, ↓oks_try, ↓oks_asg, ↓oks_set, ↓ok_gName, ↓ok_gNil, ↓ok_gCons, ↓ok_gTup, ↓ok_gUnl, ↓ok_gSub, ↓okl2, ↓okl3, ↓oks_par, ↓oks_par3, ↓okv0, ↓okvS, ↓oks_aug, ↓ok_append, ↓ok_extend, ↓seqL_lst, ↓ok_strM, ↓ok_def, ↓ok_iSeq, ↓oki1, ↓oki2, ↓ok_range1, ↓ok_range2, ↓oks_for, ↓ok_lc, ↓ok_finL, ↓ok_finM, ↓ok_yes, ↓setg0, ↓setgS, ↓unsetg0, ↓unsetgS, ↓wipeg0, ↓wipegS, ↓initg0, ↓initgN, ↓initgS, ↓lenis0, ↓lenisS, ↓lenle0, ↓lenleS, ↓seqI_lst, ↓seqIE_lst, ↓seqIE_tup, ↓seqIE_scr, ↓seqI_str, ↓okt, ↓ok_kIx, ↓ok_kGet, ↓ok_revS, ↓okd, ↓ok_dGet, ↓o_mulS, ↓seqI_tup, ↓seqI_scr, ↓o_ne_mv, ↓o_eq_mv, ↓ok_enum, ↓okl1, ↓o_mul_rep, ↓o_mul_iiF, cut_2of3, ↓o_ne_2, ↓o_eq_2, ↓o_ne_bb, ↓o_eq_bb, ↓o_tru_b, ↓o_tru_i, ↓o_tru_t, ↓o_tru_l, ↓o_tru_n, ↓o_isn_non, ↓o_isn_int, ↓o_isn_tup, ↓o_isn_lst, ↓o_isn_str, ↓o_is_non, ↓o_is_int, ↓o_is_tup, ↓o_is_lst, ↓o_is_str, ↓o_eq_ii, ↓o_ne_ii, ↓o_add_ii, ↓o_sub_ii, ↓o_mul_ii, ↓o_div_ii, ↓o_mod_ii, ↓o_lt_ii, ↓o_le_ii, ↓o_gt_ii, ↓o_ge_ii, ↓o_add_tt, ↓o_add_ll, ↓o_add_ss, ↓o_divmod_ii, ↓o_neg_i, ↓o_int_i, ↓o_abs_i, ↓o_max_ii, ↓o_max1_3, ↓o_min1_3, ↓o_min_ii, ↓o_len_tup, ↓o_len_lst, ↓o_len_scr, ↓o_slc_lst, ↓o_slc_scr, ↓o_slc_tup, ↓o_tuple_lst, ↓o_tuple_tup, ↓o_tuple_scr, ↓o_list_tup, ↓o_list_lst, ↓o_bool_b, ↓o_isa_int_int, ↓o_isa_int_bool, ↓o_isa_int_tup, ↓o_isa_int_str, ↓o_isa_int_lst, ↓o_isa_bl_int, ↓o_isa_bl_bool, ↓o_isa_tup_tup, ↓o_isa_tup_int, ↓o_isa_tup_lst, ↓o_isa_tup_str, ↓o_isa_str_str, ↓o_isa_str_int, ↓o_isa_str_tup, ↓o_isa_lst_lst, ↓o_isa_lst_tup, ↓o_isa_lst_int, ↓o_isa_non_int, ↓o_isa_non_tup, ↓o_sum_3, ↓o_all_3, ↓o_atI_0, ↓o_atI_1, ↓o_atI_2, ↓o_atI_3, ↓o_atI_4, ↓o_atI_5, ↓o_ixN_30, ↓o_ixN_31, ↓o_ixN_32, ↓o_fix_tup, ↓o_fix_lst, ↓o_fix_scr, ↓o_pow_6, ↓o_pow_18, pick_0, pick_01, pick_10, pick_012, pick_021, pick_102, pick_120, pick_201, pick_210, eq_self, List.cons_append, List.nil_append, List.append_nil, List.set_set, List.set_cons_zero, List.set_cons_succ, List.length_cons, List.length_nil, Nat.zero_add, Nat.reduceAdd, Nat.reduceLeDiff, castN, natabsN, mulOkL, mulOkR, Bool.true_or, Nat.reducePow, Nat.reduceLT, ne_eq, not_true_eq_false, not_false_eq_true, rng_3, rng_2, Int.reduceEq, Int.reduceLT, Int.reduceLE, Int.reduceAdd, Int.reduceSub, Int.reduceMul, Int.reduceNeg, true_and, and_true, if_true, if_false, Bool.false_eq_true, Bool.true_eq_false, decide_true, decide_false, Bool.not_true, Bool.not_false, Bool.and_true, Bool.true_and, Bool.and_false, Bool.false_and, $ts,*])
theorem Ey.wl {n : Nat} {μ μ' : Mu} (k : Ey μ μ') (h : Wl n μ) : Wl n μ' := by
  obtain ⟨a, b, c, h1, h2, h3, h4⟩ := h
  exact ⟨a, b, c, h1, h2, h3, k.at_ _ _ h4⟩
theorem Ey.gr {n : Nat} {μ μ' : Mu} (k : Ey μ μ') : Gr n μ μ' := ⟨k.len, fun j o _ e => k.at_ j o e⟩
/-! the law's own way of a walk -/
theorem eq_nw {μ : Mu} : fEq μ (chD .n) (.str (Str.ofString "w")) = some (.bl false) := by
  show some (D.bl ((⟨#[110]⟩ : Str) == Str.ofString "w")) = _
  rw [show ((⟨#[110]⟩ : Str) == Str.ofString "w") = false from by decide +kernel]
theorem eq_nn {μ : Mu} : fEq μ (chD .n) (.str (Str.ofString "n")) = some (.bl true) := by
  show some (D.bl ((⟨#[110]⟩ : Str) == Str.ofString "n")) = _
  rw [show ((⟨#[110]⟩ : Str) == Str.ofString "n") = true from by decide +kernel]
theorem step_spec {t : Int × Int × Int} {l : Let} (hl : isEN l = true) {μ : Mu} {Q : D → Mu → Prop} (q : Q (mv (tmv t (mvL l))) μ) : Ok (m__law_step [mv t, chD l] μ) Q := by
  obtain ⟨a, b, c⟩ := t
  unfold m__law_step
  cases l with
  | e =>
    simp_arith [eq_ee]
    rw [show mv (tmv (a, b, c) (mvL .e)) = D.tup [.int (a + 1), .int b, .int c] from by unfold tmv mvL; simp] at q
    exact q
  | n =>
    simp_arith [eq_ne, eq_nw, eq_nn]
    rw [show mv (tmv (a, b, c) (mvL .n)) = D.tup [.int a, .int (b + 1), .int (c + a)] from by unfold tmv mvL; simp] at q
    exact q
  | w => cases hl
  | s => cases hl
theorem led_lp {g0 : Option D} : ∀ (vs us : List Let) {o2 : Option D} {μ : Mu} {N B C : Gam → Mu → Prop} {T : D → Mu → Prop}, (∀ l ∈ vs, isEN l = true) → (∀ o2, N [g0, some (mv (way (us ++ vs))), o2] μ) →
    OkS (forL (dgName 2) (dSet 1 (dCall m__law_step (daCons (dVar 1) (daCons (dVar 2) daNil)))) (vs.map chD) [g0, some (mv (way us)), o2] μ) N B C T
  | [], us, o2, μ, N, B, C, T, _, q => by
    have := q o2
    rw [List.append_nil] at this
    exact this
  | v :: vs, us, o2, μ, N, B, C, T, h, q => by
    rw [List.map_cons, oks_forCons]
    simp_arith
    refine step_spec (h v List.mem_cons_self) ?_
    try simp_arith
    rw [← way_snoc]
    refine led_lp vs (us ++ [v]) (fun l hl => h l (List.mem_cons_of_mem _ hl)) fun o2 => ?_
    rw [List.append_assoc]
    exact q o2
theorem led_spec {ls : List Let} (h : ∀ l ∈ ls, isEN l = true) {μ : Mu} {Q : D → Mu → Prop} (q : Q (mv (way ls)) μ) : Ok (m__law_led [.str (word ls)] μ) Q := by
  unfold m__law_led
  simp_arith [word_items]
  refine led_lp ls [] h fun o2 => ?_
  simp_arith
  exact q
/-! all direct walks, as the law goes through them -/
def pxD (p : Px) : D := .tup [.str (word p.1), .int (p.2.1 : Nat), .int (p.2.2 : Nat)]
def wD (w : List Let) : D := .str (word w)
noncomputable def IA : DS := dIfS (dTest (dBin fLt (dVar 6) (dVar 0))) (dDrop (dAppend (dVar 4) (dTup (daCons (dBin fAdd (dVar 5) (dC (.str "e"))) (daCons (dBin fAdd (dVar 6) (dC (.int 1))) (daCons (dVar 7) (daNil))))))) dsNext
noncomputable def IC : DS := dIfS (dTest (dBin fLt (dVar 7) (dVar 1))) (dDrop (dAppend (dVar 4) (dTup (daCons (dBin fAdd (dVar 5) (dC (.str "n"))) (daCons (dVar 6) (daCons (dBin fAdd (dVar 7) (dC (.int 1))) (daNil))))))) dsNext
theorem ia_spec {x y m : Nat} {p : Px} {acc : List D} {g2 g3 g8 : Option D} {μ : Mu} {N B C : Gam → Mu → Prop} {T : D → Mu → Prop} (hp : p.1.length ≤ 20) (hl : acc.length ≤ 2000) (em : μ[m]? = some (.lst acc))
    (q : N [some (.int (x : Nat)), some (.int (y : Nat)), g2, g3, some (.loc m), some (.str (word p.1)), some (.int (p.2.1 : Nat)), some (.int (p.2.2 : Nat)), g8] (μ.set m (.lst (acc ++ (if p.2.1 < x then [pxD (p.1 ++ [.e], p.2.1 + 1, p.2.2)] else []))))) :
    OkS (IA [some (.int (x : Nat)), some (.int (y : Nat)), g2, g3, some (.loc m), some (.str (word p.1)), some (.int (p.2.1 : Nat)), some (.int (p.2.2 : Nat)), g8] μ) N B C T := by
  have lw := word_len p.1
  have le : (Str.ofString "e").length = 1 := by decide +kernel
  unfold IA
  by_cases h : p.2.1 < x
  · have h1 : ((p.2.1 : Nat) : Int) < (x : Nat) := by omega
    rw [if_pos h] at q
    simp_arith [h1, ↓o_place em]
    rw [word_e]
    exact ⟨by omega, by omega, q⟩
  · have h1 : ¬ ((p.2.1 : Nat) : Int) < (x : Nat) := by omega
    rw [if_neg h, List.append_nil, set_same em] at q
    simp_arith [h1]
    exact q
theorem ic_spec {x y m : Nat} {p : Px} {acc : List D} {g2 g3 g8 : Option D} {μ : Mu} {N B C : Gam → Mu → Prop} {T : D → Mu → Prop} (hp : p.1.length ≤ 20) (hl : acc.length ≤ 2000) (em : μ[m]? = some (.lst acc))
    (q : N [some (.int (x : Nat)), some (.int (y : Nat)), g2, g3, some (.loc m), some (.str (word p.1)), some (.int (p.2.1 : Nat)), some (.int (p.2.2 : Nat)), g8] (μ.set m (.lst (acc ++ (if p.2.2 < y then [pxD (p.1 ++ [.n], p.2.1, p.2.2 + 1)] else []))))) :
    OkS (IC [some (.int (x : Nat)), some (.int (y : Nat)), g2, g3, some (.loc m), some (.str (word p.1)), some (.int (p.2.1 : Nat)), some (.int (p.2.2 : Nat)), g8] μ) N B C T := by
  have lw := word_len p.1
  have le : (Str.ofString "n").length = 1 := by decide +kernel
  unfold IC
  by_cases h : p.2.2 < y
  · have h1 : ((p.2.2 : Nat) : Int) < (y : Nat) := by omega
    rw [if_pos h] at q
    simp_arith [h1, ↓o_place em]
    rw [word_n]
    exact ⟨by omega, by omega, q⟩
  · have h1 : ¬ ((p.2.2 : Nat) : Int) < (y : Nat) := by omega
    rw [if_neg h, List.append_nil, set_same em] at q
    simp_arith [h1]
    exact q
theorem in_lp {x y m : Nat} {g2 g3 g8 : Option D} : ∀ (ps : List Px) (acc : List D) {o5 o6 o7 : Option D} {μ : Mu} {N B C : Gam → Mu → Prop} {T : D → Mu → Prop}, (∀ p ∈ ps, p.1.length ≤ 20) → acc.length + 2 * ps.length ≤ 2000 → μ[m]? = some (.lst acc) →
    (∀ o5 o6 o7, N [some (.int (x : Nat)), some (.int (y : Nat)), g2, g3, some (.loc m), o5, o6, o7, g8] (μ.set m (.lst (acc ++ (ps.flatMap (stepP x y)).map pxD)))) →
    OkS (forL (dgTup 3 (dgCons (dgName 5) (dgCons (dgName 6) (dgCons (dgName 7) dgNil)))) (dSeq IA IC) (ps.map pxD) [some (.int (x : Nat)), some (.int (y : Nat)), g2, g3, some (.loc m), o5, o6, o7, g8] μ) N B C T
  | [], acc, o5, o6, o7, μ, N, B, C, T, hp, hl, em, q => by
    have := q o5 o6 o7
    rw [List.flatMap_nil, List.map_nil, List.append_nil, set_same em] at this
    exact this
  | p :: ps, acc, o5, o6, o7, μ, N, B, C, T, hp, hl, em, q => by
    rw [List.length_cons] at hl
    have hm := (List.getElem?_eq_some_iff.mp em).1
    rw [List.map_cons, oks_forCons]
    unfold pxD
    simp_arith
    refine ia_spec (p := p) (hp p List.mem_cons_self) (by omega) em ?_
    have l1 : (acc ++ (if p.2.1 < x then [pxD (p.1 ++ [.e], p.2.1 + 1, p.2.2)] else [])).length ≤ acc.length + 1 := by
      rw [List.length_append]
      split <;> simp
    generalize h1 : acc ++ (if p.2.1 < x then [pxD (p.1 ++ [.e], p.2.1 + 1, p.2.2)] else []) = acc1 at *
    refine ic_spec (p := p) (acc := acc1) (hp p List.mem_cons_self) (by omega) (List.getElem?_set_self hm) ?_
    have l2 : (acc1 ++ (if p.2.2 < y then [pxD (p.1 ++ [.n], p.2.1, p.2.2 + 1)] else [])).length ≤ acc1.length + 1 := by
      rw [List.length_append]
      split <;> simp
    have h2 : acc1 ++ (if p.2.2 < y then [pxD (p.1 ++ [.n], p.2.1, p.2.2 + 1)] else []) = acc ++ (stepP x y p).map pxD := by
      rw [← h1, List.append_assoc]
      congr 1
      unfold stepP
      split <;> split <;> rfl
    rw [h2] at l2 ⊢
    rw [List.set_set]
    refine in_lp ps _ (fun p' h' => hp p' (List.mem_cons_of_mem _ h')) (by omega) (List.getElem?_set_self hm) fun o5 o6 o7 => ?_
    have := q o5 o6 o7
    rw [List.flatMap_cons, List.map_append, ← List.append_assoc] at this
    rw [List.set_set]
    exact this
/-- a list, and what going through it does to the store -/
theorem its_seq {b : Nat} {μ : Mu} {d : D} {xs : List D} (h : d = .lst xs ∨ ∃ m, d = .loc m ∧ b ≤ m ∧ Has μ m xs) {Q : List D → Mu → Prop} (q : ∀ μ', μ'.length = μ.length → (∀ j, j < b → μ'[j]? = μ[j]?) → (∀ j, (∀ m, d = .loc m → j ≠ m) → μ'[j]? = μ[j]?) → Q xs μ') : Ok (seqI d μ) Q := by
  rcases h with rfl | ⟨m, rfl, hb, hh⟩
  · exact q μ rfl (fun _ _ => rfl) fun _ _ => rfl
  · unfold seqI
    rcases hh with hh | hh
    · simp only [hh]
      exact q _ (by rw [List.length_set]) (fun j hj => List.getElem?_set_ne (by omega)) fun j hj => List.getElem?_set_ne (Ne.symm (hj m rfl))
    · simp only [hh]
      exact q _ rfl (fun _ _ => rfl) fun _ _ => rfl
noncomputable abbrev DO : DS := dSeq (dSet 4 (dLstM (daNil))) (dSeq (dFor (diSeq (dVar 2)) (dgTup 3 (dgCons (dgName 5) (dgCons (dgName 6) (dgCons (dgName 7) (dgNil))))) (dSeq IA IC)) (dSet 2 (dVar 4)))
theorem dir_lp {b x y : Nat} {g8 : Option D} {μ0 : Mu} (hx : x ≤ 5) (hy : y ≤ 4) (hb : b ≤ μ0.length) : ∀ (c k : Nat) {g3 g4 o5 o6 o7 : Option D} {d2 : D} {μ : Mu} {N B C : Gam → Mu → Prop} {T : D → Mu → Prop}, k + c = x + y →
    (d2 = .lst ((pre x y k).map pxD) ∨ ∃ m, d2 = .loc m ∧ b ≤ m ∧ Has μ m ((pre x y k).map pxD)) → Lw b μ0 μ →
    (∀ d2 μ' g3 g4 o5 o6 o7, Lw b μ0 μ' → (d2 = .lst ((pre x y (x + y)).map pxD) ∨ ∃ m, d2 = .loc m ∧ b ≤ m ∧ Has μ' m ((pre x y (x + y)).map pxD)) → N [some (.int (x : Nat)), some (.int (y : Nat)), some d2, g3, g4, o5, o6, o7, g8] μ') →
    OkS (forL (dgName 3) DO (rngD ((k : Nat) : Int) c) [some (.int (x : Nat)), some (.int (y : Nat)), some d2, g3, g4, o5, o6, o7, g8] μ) N B C T
  | 0, k, g3, g4, o5, o6, o7, d2, μ, N, B, C, T, hk, h2, kl, q => by
    rw [show rngD ((k : Nat) : Int) 0 = [] from rfl, oks_forNil]
    have : k = x + y := by omega
    subst this
    exact q d2 μ _ _ _ _ _ kl h2
  | c + 1, k, g3, g4, o5, o6, o7, d2, μ, N, B, C, T, hk, h2, kl, q => by
    have hbl : b ≤ μ.length := Nat.le_trans hb kl.len
    rw [rng_succ, oks_forCons]
    unfold DO
    simp_arith
    have h2' : d2 = .lst ((pre x y k).map pxD) ∨ ∃ m, d2 = .loc m ∧ b ≤ m ∧ Has (μ ++ [MO.lst []]) m ((pre x y k).map pxD) := h2.imp id fun ⟨m, a, e, h⟩ => ⟨m, a, e, h.app⟩
    refine its_seq h2' fun μ1 l1 w1 s1 => ?_
    have e1 : μ1[μ.length]? = some (.lst []) := by
      rw [s1 _ fun m hm => ?_]
      · simp
      · rcases h2 with h | ⟨m', h, _, hh⟩
        · rw [h] at hm; cases hm
        · rw [h] at hm
          cases hm
          exact Nat.ne_of_gt hh.lt
    have hlen : (pre x y k).length ≤ 512 := Nat.le_trans (pre_len k) (Nat.pow_le_pow_right (by decide) (show k ≤ 9 by omega))
    refine in_lp (m := μ.length) (pre x y k) [] (fun p hp => by have := (pre_mem k p hp).2.2.2; omega) (by simp; omega) e1 fun o5 o6 o7 => ?_
    simp_arith
    rw [show ((k : Nat) : Int) + 1 = ((k + 1 : Nat) : Int) from rfl]
    have l1' : μ1.length = μ.length + 1 := by rw [l1]; simp
    refine dir_lp hx hy hb c (k + 1) (by omega) (.inr ⟨μ.length, rfl, hbl, .inl (List.getElem?_set_self (by omega))⟩) ⟨by rw [List.length_set]; have := kl.len; omega, fun j hj => ?_⟩ q
    rw [List.getElem?_set_ne (by omega), w1 j hj, List.getElem?_append_left (by omega)]
    exact kl.low j hj
theorem fst_lc {g0 g1 g2 g3 g4 g5 g6 g7 : Option D} : ∀ (ps : List Px) {μ : Mu} {QL : List D → Mu → Prop}, QL (ps.map fun p => wD p.1) μ → Ok (lcL (dgName 8) dYes (dBin fIx (dVar 8) (dC (.int 0))) [g0, g1, g2, g3, g4, g5, g6, g7, none] (ps.map pxD) μ) QL
  | [], μ, QL, q => q
  | p :: ps, μ, QL, q => by
    rw [List.map_cons, ok_lcConsY]
    unfold pxD
    simp_arith
    exact fst_lc ps q
theorem direct_spec {x y : Nat} (hx : x ≤ 5) (hy : y ≤ 4) {μ : Mu} {Q : D → Mu → Prop} (q : ∀ μ', Ey μ μ' → Q (.lst ((A x y).map wD)) μ') : Ok (m__law_direct [.int (x : Nat), .int (y : Nat)] μ) Q := by
  unfold m__law_direct
  simp_arith
  refine ⟨by omega, ?_⟩
  rw [show (((x : Nat) : Int) + (y : Nat)).toNat = x + y from by omega, show (0 : Int) = ((0 : Nat) : Int) from rfl]
  refine dir_lp (b := μ.length) (μ0 := μ) hx hy (Nat.le_refl _) (x + y) 0 (by omega) (.inl rfl) ⟨Nat.le_refl _, fun _ _ => rfl⟩ fun d2 μ1 g3 g4 o5 o6 o7 k1 h2 => ?_
  simp_arith
  refine its_seq h2 fun μ2 l2 w2 _ => ?_
  try simp_arith
  have hlen : (pre x y (x + y)).length ≤ 512 := Nat.le_trans (pre_len _) (Nat.pow_le_pow_right (by decide) (show x + y ≤ 9 by omega))
  try refine ⟨by rw [List.length_map]; omega, ?_⟩
  refine fst_lc _ ?_
  have e : ((pre x y (x + y)).map fun p => wD p.1) = (A x y).map wD := by
    rw [← pre_all, List.map_map]
    rfl
  rw [e]
  try simp_arith
  refine q μ2 ⟨by have := k1.len; omega, fun j o ej => ?_⟩
  have hj := (List.getElem?_eq_some_iff.mp ej).1
  rw [w2 j hj, k1.low j hj]
  exact ej
end A10

set_option Elab.async false
set_option linter.all false
set_option maxRecDepth 100000
set_option maxHeartbeats 1000000
set_option exponentiation.threshold 10000
namespace A10
open PySem PySem.Spec PyProof.Rows L2 Ar TL
local macro_rules | `(tactic| simp_arith) => `(tactic| simp -implicitDefEqProofs only [↓ok_ok, ↓ok_stk, ↓ok_exc, ↓ok_bind, ↓ok_nox, ↓ok_of, ↓ok_lenO, ↓ok_propO, ↓ok_txtO, ↓ok_clsM, ↓ok_tupRg, ↓ok_lstRg, ↓oko_some, ↓oko_none, ↓oko_ite, ↓oko_map, ↓ok_ite, ↓oks_nx, ↓oks_stk, ↓oks_exc, ↓oks_bk, ↓oks_ct, ↓oks_rt, ↓oks_then, ↓oks_thenN, ↓ok_var0, ↓ok_varS, ↓ok_c, ↓ok_bin, ↓ok_un, ↓okb, ↓ok_test, ↓ok_tru, ↓ok_and, ↓ok_or, ↓ok_not, ↓ok_andV, ↓ok_orV, ↓ok_notV, ↓ok_if, ↓ok_ifT, ↓ok_fld, ↓ok_slt, ↓o_slt0, ↓ok_make, ↓ok_makeS, ↓o_isaC, ↓o_isn_ins, ↓o_is_ins, ↓ok_izip, ↓zipR_ll, ↓zipR_tl, ↓zipR_tt, ↓o_parts, ↓o_shares, ↓o_east, ↓o_north, ↓o_rests, zip2, zip3, ↓ok_nil, ↓ok_cons, ↓ok_star, ↓seqA_tup, ↓seqA_lst, ↓ok_revL, ↓ok_revLM, ↓ok_cmp2, ↓ok_tup, ↓ok_lst, ↓ok_lstM, ↓ok_fn, ↓ok_call, ↓ok_callK, ↓ok_noPart, ↓oki, ↓ok_part, ↓ok_sl, ↓oks_next, ↓oks_seq, ↓oks_drop, ↓oks_ret, ↓oks_retN, ↓oks_break, ↓oks_cont, ↓oks_never, ↓oks_if, ↓oks_try, ↓oks_asg, ↓oks_set, ↓ok_gName, ↓ok_gNil, ↓ok_gCons, ↓ok_gTup, ↓ok_gUnl, ↓ok_gSub, ↓okl2, ↓okl3, ↓oks_par, ↓oks_par3, ↓okv0, ↓okvS, ↓oks_aug, ↓ok_append, ↓ok_extend, ↓seqL_lst, ↓ok_strM, ↓ok_def, ↓ok_iSeq, ↓oki1, ↓oki2, ↓ok_range1, ↓ok_range2, ↓oks_for, ↓ok_lc, ↓ok_finL, ↓ok_finM, ↓ok_yes, ↓setg0, ↓setgS, ↓unsetg0, ↓unsetgS, ↓wipeg0, ↓wipegS, ↓initg0, ↓initgN, ↓initgS, ↓lenis0, ↓lenisS, ↓lenle0, ↓lenleS, ↓seqI_lst, ↓seqIE_lst, ↓seqIE_tup, ↓seqIE_scr, ↓seqI_str, ↓okt, ↓ok_kIx, ↓ok_kGet, ↓ok_revS, ↓okd, ↓ok_dGet, ↓o_mulS, ↓seqI_tup, ↓seqI_scr, ↓o_ne_mv, ↓o_eq_mv, ↓ok_enum, ↓okl1, ↓o_mul_rep, ↓o_mul_iiF, cut_2of3, ↓o_ne_2, ↓o_eq_2, ↓o_ne_bb, ↓o_eq_bb, ↓o_tru_b, ↓o_tru_i, ↓o_tru_t, ↓o_tru_l, ↓o_tru_n, ↓o_isn_non, ↓o_isn_int, ↓o_isn_tup, ↓o_isn_lst, ↓o_isn_str, ↓o_is_non, ↓o_is_int, ↓o_is_tup, ↓o_is_lst, ↓o_is_str, ↓o_eq_ii, ↓o_ne_ii, ↓o_add_ii, ↓o_sub_ii, ↓o_mul_ii, ↓o_div_ii, ↓o_mod_ii, ↓o_lt_ii, ↓o_le_ii, ↓o_gt_ii, ↓o_ge_ii, ↓o_add_tt, ↓o_add_ll, ↓o_add_ss, ↓o_divmod_ii, ↓o_neg_i, ↓o_int_i, ↓o_abs_i, ↓o_max_ii, ↓o_max1_3, ↓o_min1_3, ↓o_min_ii, ↓o_len_tup, ↓o_len_lst, ↓o_len_scr, ↓o_slc_lst, ↓o_slc_scr, ↓o_slc_tup, ↓o_tuple_lst, ↓o_tuple_tup, ↓o_tuple_scr, ↓o_list_tup, ↓o_list_lst, ↓o_bool_b, ↓o_isa_int_int, ↓o_isa_int_bool, ↓o_isa_int_tup, ↓o_isa_int_str, ↓o_isa_int_lst, ↓o_isa_bl_int, ↓o_isa_bl_bool, ↓o_isa_tup_tup, ↓o_isa_tup_int, ↓o_isa_tup_lst, ↓o_isa_tup_str, ↓o_isa_str_str, ↓o_isa_str_int, ↓o_isa_str_tup, ↓o_isa_lst_lst, ↓o_isa_lst_tup, ↓o_isa_lst_int, ↓o_isa_non_int, ↓o_isa_non_tup, ↓o_sum_3, ↓o_all_3, ↓o_atI_0, ↓o_atI_1, ↓o_atI_2, ↓o_atI_3, ↓o_atI_4, ↓o_atI_5, ↓o_ixN_30, ↓o_ixN_31, ↓o_ixN_32, ↓o_fix_tup, ↓o_fix_lst, ↓o_fix_scr, ↓o_pow_6, ↓o_pow_18, pick_0, pick_01, pick_10, pick_012, pick_021, pick_102, pick_120, pick_201, pick_210, eq_self, List.cons_append, List.nil_append, List.append_nil, List.set_set, List.set_cons_zero, List.set_cons_succ, List.length_cons, List.length_nil, Nat.zero_add, Nat.reduceAdd, Nat.reduceLeDiff, castN, natabsN, mulOkL, mulOkR, Bool.true_or, Nat.reducePow, Nat.reduceLT, ne_eq, not_true_eq_false, not_false_eq_true, rng_3, rng_2, Int.reduceEq, Int.reduceLT, Int.reduceLE, Int.reduceAdd, Int.reduceSub, Int.reduceMul, Int.reduceNeg, true_and, and_true, if_true, if_false, Bool.false_eq_true, Bool.true_eq_false, decide_true, decide_false, Bool.not_true, Bool.not_false, Bool.and_true, Bool.true_and, Bool.and_false, Bool.false_and])
local macro_rules | `(tactic| simp_arith [$ts,*]) => `(tactic| simp -implicitDefEqProofs only [↓ok_ok, ↓ok_stk, ↓ok_exc, ↓ok_bind, ↓ok_nox, ↓ok_of, ↓ok_lenO, ↓ok_propO, ↓ok_txtO, ↓ok_clsM, ↓ok_tupRg, ↓ok_lstRg, ↓oko_some, ↓oko_none, ↓oko_ite, ↓oko_map, ↓ok_ite, ↓oks_nx, ↓oks_stk, ↓oks_exc, ↓oks_bk, ↓oks_ct, ↓oks_rt, ↓oks_then, ↓oks_thenN, ↓ok_var0, ↓ok_varS, ↓ok_c, ↓ok_bin, ↓ok_un, ↓okb, ↓ok_test, ↓ok_tru, ↓ok_and, ↓ok_or, ↓ok_not, ↓ok_andV, ↓ok_orV, ↓ok_notV, ↓ok_if, ↓ok_ifT, ↓ok_fld, ↓ok_slt, ↓o_slt0, ↓ok_make, ↓ok_makeS, ↓o_isaC, ↓o_isn_ins, ↓o_is_ins, ↓ok_izip, ↓zipR_ll, ↓zipR_tl, ↓zipR_tt, ↓o_parts, ↓o_shares, ↓o_east, ↓o_north, ↓o_rests, zip2, zip3, ↓ok_nil, ↓ok_cons, ↓ok_star, ↓seqA_tup, ↓seqA_lst, ↓ok_revL, ↓ok_revLM, ↓ok_cmp2, ↓ok_tup, ↓ok_lst, ↓ok_lstM, ↓ok_fn, ↓ok_call, ↓ok_callK, ↓ok_noPart, ↓oki, ↓ok_part, ↓ok_sl, ↓oks_next, ↓oks_seq, ↓oks_drop, ↓oks_ret, ↓oks_retN, ↓oks_break, ↓oks_cont, ↓oks_never, ↓oks_if, ↓oks_try, ↓oks_asg, ↓oks_set, ↓ok_gName, ↓ok_gNil, ↓ok_gCons, ↓ok_gTup, ↓ok_gUnl, ↓ok_gSub, ↓okl2, ↓okl3, ↓oks_par, ↓oks_par3, ↓okv0, ↓okvS, ↓oks_aug, ↓ok_append, ↓ok_extend, ↓seqL_lst, ↓ok_strM, ↓ok_def, ↓ok_iSeq, ↓oki1, ↓oki2, ↓ok_range1, ↓ok_range2, ↓oks_for, ↓ok_lc, ↓ok_finL, ↓ok_finM, ↓ok_yes, ↓setg0, ↓setgS, ↓unsetg0, ↓unsetgS, ↓wipeg0, ↓wipegS, ↓initg0, ↓initgN, ↓initgS, ↓lenis0, ↓lenisS, ↓lenle0, ↓lenleS, ↓seqI_lst, ↓seqIE_lst, ↓seqIE_tup, ↓seqIE_scr, ↓seqI_str, ↓okt, ↓ok_kIx, ↓ok_kGet, ↓ok_revS, ↓okd, ↓ok_dGet, ↓o_mulS, ↓seqI_tup, ↓seqI_scr, ↓o_ne_mv, ↓o_eq_mv, ↓ok_enum, ↓okl1, ↓o_mul_rep, ↓o_mul_iiF, cut_2of3, ↓o_ne_2, ↓o_eq_2, ↓o_ne_bb, ↓o_eq_bb, ↓o_tru_b, ↓o_tru_i, ↓o_tru_t, ↓o_tru_l, ↓o_tru_n, ↓o_isn_non, ↓o_isn_int, ↓o_isn_tup, ↓o_isn_lst, ↓o_isn_str, ↓o_is_non, ↓o_is_int, ↓o_is_tup, ↓o_is_lst, ↓o_is_str, ↓o_eq_ii, ↓o_ne_ii, ↓o_add_ii, ↓o_sub_ii, ↓o_mul_ii, ↓o_div_ii, ↓o_mod_ii, ↓o_lt_ii, ↓o_le_ii, ↓o_gt_ii, ↓o_ge_ii, ↓o_add_tt, ↓o_add_ll, ↓o_add_ss, ↓o_divmod_ii, ↓o_neg_i, ↓o_int_i, ↓o_abs_i, ↓o_max_ii, ↓o_max1_3, ↓o_min1_3, ↓o_min_ii, ↓o_len_tup, ↓o_len_lst, ↓o_len_scr, ↓o_slc_lst, ↓o_slc_scr, ↓o_slc_tup, ↓o_tuple_lst, ↓o_tuple_tup, ↓o_tuple_scr, ↓o_list_tup, ↓o_list_lst, ↓o_bool_b, ↓o_isa_int_int, ↓o_isa_int_bool, ↓o_isa_int_tup, ↓o_isa_int_str, ↓o_isa_int_lst, ↓o_isa_bl_int, ↓o_isa_bl_bool, ↓o_isa_tup_tup, ↓o_isa_tup_int, ↓o_isa_tup_lst, ↓o_isa_tup_str, ↓o_isa_str_str, ↓o_isa_str_int, ↓o_isa_str_tup, ↓o_isa_lst_lst, ↓o_isa_lst_tup, ↓o_isa_lst_int, ↓o_isa_non_int, ↓o_isa_non_tup, ↓o_sum_3, ↓o_all_3, ↓o_atI_0, ↓o_atI_1, ↓o_atI_2, ↓o_atI_3, ↓o_atI_4, ↓o_atI_5, ↓o_ixN_30, ↓o_ixN_31, ↓o_ixN_32, ↓o_fix_tup, ↓o_fix_lst, ↓o_fix_scr, ↓o_pow_6, ↓o_pow_18, pick_0, pick_01, pick_10, pick_012, pick_021, pick_102, pick_120, pick_201, pick_210, eq_self, List.cons_append, List.nil_append, List.append_nil, List.set_set, List.set_cons_zero, List.set_cons_succ, List.length_cons, List.length_nil, Nat.zero_add, Nat.reduceAdd, Nat.reduceLeDiff, castN, natabsN, mulOkL, mulOkR, Bool.true_or, Nat.reducePow, Nat.reduceLT, ne_eq, not_true_eq_false, not_false_eq_true, rng_3, rng_2, Int.reduceEq, Int.reduceLT, Int.reduceLE, Int.reduceAdd, Int.reduceSub, Int.reduceMul, Int.reduceNeg, true_and, and_true, if_true, if_false, Bool.false_eq_true, Bool.true_eq_false, decide_true, decide_false, Bool.not_true, Bool.not_false, Bool.and_true, Bool.true_and, Bool.and_false, Bool.false_and, $ts,*])
noncomputable abbrev c1 : DS := (dPar 2 3 (daCons (dCall m__law_dip (daCons (dVar 0) (daCons (dC (.int 6)) (daNil)))) (daCons (dCall m__law_dip (daCons (dVar 0) (daCons (dC (.int 5)) (daNil)))) (daNil))))
noncomputable abbrev c2 : DS := (dAsg (dTup (daCons (dCall m__law_direct (daCons (dVar 2) (daCons (dVar 3) (daNil)))) (daCons (dCall m__law_led (daCons (dCall m__law_one_of (daCons (dVar 0) (daCons (dCall m__law_direct (daCons (dVar 2) (daCons (dVar 3) (daNil)))) (daNil)))) (daNil))) (daNil)))) (dgTup 2 (dgCons (dgName 4) (dgCons (dgName 5) (dgNil)))))
noncomputable abbrev c3 : DS := (dSet 6 (dLcF finL [9] (diSeq (dVar 4)) (dgName 9) (dTest (dBin fEq (dCall m__law_led (daCons (dVar 9) (daNil))) (dVar 5))) (dVar 9)))
noncomputable abbrev c4 : DS := (dIfS (dTest (dBin fNe (dVar 6) (dFn fSortS (daCons (dVar 6) (daNil))))) (dRet (dC (.bl false))) (dsNext))
noncomputable abbrev c5 : DS := (dFor (diRange1 (daCons (dFn fLen (daCons (dVar 6) (daNil))) (daNil))) (dgName 7) (dSeq (dIfS (dTest (dBin fNe (dLst (daCons (dCall m_direct_walk (daCons (dVar 5) (daCons (dVar 7) (daNil)))) (daCons (dCallK 0 2 [1, 0] m_direct_walk daNil (daCons (dVar 7) (daCons (dVar 5) (daNil)))) (daNil)))) (dLst (daCons (dBin fIx (dVar 6) (dVar 7)) (daCons (dBin fIx (dVar 6) (dVar 7)) (daNil)))))) (dRet (dC (.bl false))) (dsNext)) (dIfS (dTest (dBin fNe (dFn (orC (orC fRepr fReprE) fReprD) (daCons (dLst (daCons (dCall m_place_of (daCons (dBin fIx (dVar 6) (dVar 7)) (daNil))) (daCons (dCallK 0 1 [0] m_place_of daNil (daCons (dBin fIx (dVar 6) (dVar 7)) (daNil))) (daNil)))) (daNil))) (dFn (orC (orC fRepr fReprE) fReprD) (daCons (dLst (daCons (dVar 7) (daCons (dVar 7) (daNil)))) (daNil))))) (dRet (dC (.bl false))) (dsNext))))
noncomputable abbrev c6 (tP : Str → Addr) : DS := (dIfS (dTest (dBin fNe (dLamR 0 (tP "_law_right") (("_law_right" : Str) ++ ".<locals>." ++ "<lambda>") res__law_tried (dCall m_direct_walk (daCons (dVar 5) (daCons (dFn fLen (daCons (dVar 6) (daNil))) (daNil))))) (dTup (daCons (dC (.str "index")) (daCons (dFn fLen (daCons (dVar 6) (daNil))) (daNil)))))) (dRet (dC (.bl false))) (dsNext))
noncomputable abbrev c7 (tP : Str → Addr) : DS := (dFor (diSeq (dLst (daCons (dTup (daCons (dVar 2) (daCons (dVar 3) (daCons (dBin fAdd (dBin fMul (dVar 2) (dVar 3)) (dC (.int 1))) (daNil))))) (daCons (dTup (daCons (dVar 2) (daCons (dVar 3) (daCons (dUn fNeg (dC (.int 1))) (daNil))))) (daCons (dTup (daCons (dVar 2) (daCons (dUn fNeg (dC (.int 1))) (daCons (dC (.int 0)) (daNil))))) (daCons (dTup (daCons (dUn fNeg (dC (.int 1))) (daCons (dVar 3) (daCons (dC (.int 0)) (daNil))))) (daNil))))))) (dgName 8) (dIfS (dTest (dBin fNe (dLamR 0 (tP "_law_right") (("_law_right" : Str) ++ ".<locals>." ++ "<lambda>") res__law_tried (dCall m_direct_walk (daCons (dVar 8) (daCons (dC (.int 0)) (daNil))))) (dC (.str "none")))) (dRet (dC (.bl false))) (dsNext)))
noncomputable abbrev cAll (tP : Str → Addr) : DS := (dSeq c1 (dSeq c2 (dSeq c3 (dSeq c4 (dSeq c5 (dSeq (c6 tP) (c7 tP)))))))

noncomputable abbrev r1 (tP : Str → Addr) : DS := (dFor (diRange1 (daCons (dC (.int 3)) (daNil))) (dgName 1) (dSeq (dPar 2 3 (daCons (dCall m__law_dip (daCons (dVar 0) (daCons (dC (.int 6)) (daNil)))) (daCons (dCall m__law_dip (daCons (dVar 0) (daCons (dC (.int 5)) (daNil)))) (daNil)))) (dSeq (dAsg (dTup (daCons (dCall m__law_direct (daCons (dVar 2) (daCons (dVar 3) (daNil)))) (daCons (dCall m__law_led (daCons (dCall m__law_one_of (daCons (dVar 0) (daCons (dCall m__law_direct (daCons (dVar 2) (daCons (dVar 3) (daNil)))) (daNil)))) (daNil))) (daNil)))) (dgTup 2 (dgCons (dgName 4) (dgCons (dgName 5) (dgNil))))) (dSeq (dSet 6 (dLcF finL [9] (diSeq (dVar 4)) (dgName 9) (dTest (dBin fEq (dCall m__law_led (daCons (dVar 9) (daNil))) (dVar 5))) (dVar 9))) (dSeq (dIfS (dTest (dBin fNe (dVar 6) (dFn fSortS (daCons (dVar 6) (daNil))))) (dRet (dC (.bl false))) (dsNext)) (dSeq (dFor (diRange1 (daCons (dFn fLen (daCons (dVar 6) (daNil))) (daNil))) (dgName 7) (dSeq (dIfS (dTest (dBin fNe (dLst (daCons (dCall m_direct_walk (daCons (dVar 5) (daCons (dVar 7) (daNil)))) (daCons (dCallK 0 2 [1, 0] m_direct_walk daNil (daCons (dVar 7) (daCons (dVar 5) (daNil)))) (daNil)))) (dLst (daCons (dBin fIx (dVar 6) (dVar 7)) (daCons (dBin fIx (dVar 6) (dVar 7)) (daNil)))))) (dRet (dC (.bl false))) (dsNext)) (dIfS (dTest (dBin fNe (dFn (orC (orC fRepr fReprE) fReprD) (daCons (dLst (daCons (dCall m_place_of (daCons (dBin fIx (dVar 6) (dVar 7)) (daNil))) (daCons (dCallK 0 1 [0] m_place_of daNil (daCons (dBin fIx (dVar 6) (dVar 7)) (daNil))) (daNil)))) (daNil))) (dFn (orC (orC fRepr fReprE) fReprD) (daCons (dLst (daCons (dVar 7) (daCons (dVar 7) (daNil)))) (daNil))))) (dRet (dC (.bl false))) (dsNext)))) (dSeq (dIfS (dTest (dBin fNe (dLamR 0 (tP "_law_right") (("_law_right" : Str) ++ ".<locals>." ++ "<lambda>") res__law_tried (dCall m_direct_walk (daCons (dVar 5) (daCons (dFn fLen (daCons (dVar 6) (daNil))) (daNil))))) (dTup (daCons (dC (.str "index")) (daCons (dFn fLen (daCons (dVar 6) (daNil))) (daNil)))))) (dRet (dC (.bl false))) (dsNext)) (dFor (diSeq (dLst (daCons (dTup (daCons (dVar 2) (daCons (dVar 3) (daCons (dBin fAdd (dBin fMul (dVar 2) (dVar 3)) (dC (.int 1))) (daNil))))) (daCons (dTup (daCons (dVar 2) (daCons (dVar 3) (daCons (dUn fNeg (dC (.int 1))) (daNil))))) (daCons (dTup (daCons (dVar 2) (daCons (dUn fNeg (dC (.int 1))) (daCons (dC (.int 0)) (daNil))))) (daCons (dTup (daCons (dUn fNeg (dC (.int 1))) (daCons (dVar 3) (daCons (dC (.int 0)) (daNil))))) (daNil))))))) (dgName 8) (dIfS (dTest (dBin fNe (dLamR 0 (tP "_law_right") (("_law_right" : Str) ++ ".<locals>." ++ "<lambda>") res__law_tried (dCall m_direct_walk (daCons (dVar 8) (daCons (dC (.int 0)) (daNil))))) (dC (.str "none")))) (dRet (dC (.bl false))) (dsNext))))))))))
noncomputable abbrev r2 : DS := (dSet 9 (dCall m__law_stroll (daCons (dVar 0) (daCons (dCall m__law_one_of (daCons (dVar 0) (daCons (dLst (daCons (dC (.str "en")) (daCons (dC (.str "een")) (daCons (dC (.str "enn")) (daNil))))) (daNil)))) (daCons (dC (.int 24)) (daNil))))))
noncomputable abbrev r3 : DS := (dAsg (dTup (daCons (dCall m_walked (daCons (dVar 9) (daNil))) (daCons (dCall m_place_of (daCons (dVar 9) (daNil))) (daNil)))) (dgTup 2 (dgCons (dgName 5) (dgCons (dgName 10) (dgNil)))))
noncomputable abbrev r4 : DS := (dIfS (dOr (dTest (dBin fNe (dCall m_direct_walk (daCons (dVar 5) (daCons (dVar 10) (daNil)))) (dVar 9))) (dTest (dInRg true (dVar 10) (dCall m_direct_walks (daCons (dVar 5) (daNil)))))) (dRet (dC (.bl false))) (dsNext))
noncomputable abbrev r5 : DS := (dSet 11 (dCall m__law_dip (daCons (dVar 0) (daCons (dCall m_direct_walks (daCons (dVar 5) (daNil))) (daNil)))))
noncomputable abbrev r6 : DS := (dRet (dAndV (dBin fEq (dCall m_place_of (daCons (dCall m_direct_walk (daCons (dVar 5) (daCons (dVar 11) (daNil)))) (daNil))) (dVar 11)) (dBin fEq (dCall m_walked (daCons (dCall m_direct_walk (daCons (dVar 5) (daCons (dVar 11) (daNil)))) (daNil))) (dVar 5))))
theorem oneof_spec {n : Nat} {μ : Mu} {xs : List D} {Q : D → Mu → Prop} (h : Wl n μ) (h0 : xs ≠ []) (h1 : xs.length ≤ 1000000) (q : ∀ x ∈ xs, ∀ μ', Wl n μ' → Gr n μ μ' → Q x μ') : Ok (m__law_one_of [.loc n, .lst xs] μ) Q := by
  have hl : 0 < xs.length := List.length_pos_iff.mpr h0
  unfold m__law_one_of
  try simp_arith
  refine dip_spec h (by omega) (by omega) fun d μ' h1 g1 d0 d1 => ?_
  obtain ⟨x, e, m⟩ := atI_map (xs := xs) d0 d1
  simp_arith [e]
  exact q x m μ' h1 g1
theorem A_len {x y : Nat} (hx : x ≤ 5) (hy : y ≤ 4) : (A x y).length ≤ 512 := by
  rw [← pre_all, List.length_map]
  exact Nat.le_trans (pre_len _) (Nat.pow_le_pow_right (by decide) (show x + y ≤ 9 by omega))
abbrev gD (x y : Nat) (a : Int) : D := .tup [.int (x : Nat), .int (y : Nat), .int a]
abbrev lD (l : List (List Let)) : D := .lst (l.map wD)
section
variable {n : Nat} {o1 o2 o3 o4 o5 o6 o7 o8 o9 o10 o11 : Option D} {μ : Mu} {N B C : Gam → Mu → Prop} {T : D → Mu → Prop}
theorem st1 (h : Wl n μ) (q : ∀ x y : Nat, x ≤ 5 → y ≤ 4 → ∀ μ', Wl n μ' → Gr n μ μ' → N [some (.loc n), o1, some (.int (x : Nat)), some (.int (y : Nat)), o4, o5, o6, o7, o8, o9, o10, o11] μ') : OkS (c1 [some (.loc n), o1, o2, o3, o4, o5, o6, o7, o8, o9, o10, o11] μ) N B C T := by
  unfold c1
  try simp_arith
  refine dip_spec h (by decide) (by decide) fun a μ1 w1 g1 a0 a1 => ?_
  try simp_arith
  refine dip_spec w1 (by decide) (by decide) fun b μ2 w2 g2 b0 b1 => ?_
  try simp_arith
  obtain ⟨x, rfl⟩ := Int.eq_ofNat_of_zero_le a0
  obtain ⟨y, rfl⟩ := Int.eq_ofNat_of_zero_le b0
  exact q x y (by omega) (by omega) μ2 w2 (g1.trans g2)
theorem st2 {x y : Nat} (hx : x ≤ 5) (hy : y ≤ 4) (h : Wl n μ) (q : ∀ a : Int, 0 < cnt x y a → ∀ μ', Wl n μ' → Gr n μ μ' → N [some (.loc n), o1, some (.int (x : Nat)), some (.int (y : Nat)), some (lD (A x y)), some (gD x y a), o6, o7, o8, o9, o10, o11] μ') : OkS (c2 [some (.loc n), o1, some (.int (x : Nat)), some (.int (y : Nat)), o4, o5, o6, o7, o8, o9, o10, o11] μ) N B C T := by
  unfold c2
  simp_arith
  refine direct_spec hx hy fun μ1 e1 => ?_
  try simp_arith
  refine direct_spec hx hy fun μ2 e2 => ?_
  try simp_arith
  refine oneof_spec (e2.wl (e1.wl h)) (by rw [Ne, List.map_eq_nil_iff]; exact A_ne _ x y rfl) (by rw [List.length_map]; have := A_len hx hy; omega) fun d hd μ3 w3 g3 => ?_
  obtain ⟨w, hw, rfl⟩ := List.mem_map.mp hd
  obtain ⟨h1, h2, a, h3⟩ := A_mem _ x y w rfl hw
  unfold wD
  try simp_arith
  refine led_spec h1 ?_
  have hc : w ∈ O x y a := by
    rw [← A_filter _ x y a rfl]
    exact List.mem_filter.mpr ⟨hw, by rw [h3]; simp⟩
  have hp : 0 < cnt x y a := List.length_pos_of_mem hc
  rw [h3]
  try simp_arith
  exact q a hp μ3 w3 ((e1.gr.trans e2.gr).trans g3)
theorem eq_mv2 {μ : Mu} {t u : Int × Int × Int} {P : D → Prop} : OkO (fEq μ (mv t) (mv u)) P = P (.bl (decide (t = u))) := by
  obtain ⟨a, b, c⟩ := t
  obtain ⟨x, y, z⟩ := u
  show P (.bl (decide (a = x) && (decide (b = y) && (decide (c = z) && true)))) = _
  have : (decide (a = x) && (decide (b = y) && (decide (c = z) && true))) = decide ((a, b, c) = (x, y, z)) := by
    by_cases h1 : a = x <;> by_cases h2 : b = y <;> by_cases h3 : c = z <;> simp [h1, h2, h3]
  rw [this]
theorem own_lc {g0 g1 g2 g3 g4 g6 g7 g8 g10 g11 : Option D} {t : Int × Int × Int} : ∀ (ws : List (List Let)) {μ : Mu} {QL : List D → Mu → Prop}, (∀ w ∈ ws, ∀ l ∈ w, isEN l = true) → QL ((ws.filter fun w => decide (way w = t)).map wD) μ →
    Ok (lcL (dgName 9) (dTest (dBin fEq (dCall m__law_led (daCons (dVar 9) (daNil))) (dVar 5))) (dVar 9) [g0, g1, g2, g3, g4, some (mv t), g6, g7, g8, none, g10, g11] (ws.map wD) μ) QL
  | [], μ, QL, _, q => q
  | w :: ws, μ, QL, h, q => by
    rw [List.map_cons, ok_lcCons]
    unfold wD
    simp_arith
    refine led_spec (h w List.mem_cons_self) ?_
    have key : ∀ P : D → Prop, OkO (fEq μ (mv (way w)) (mv t)) P = P (.bl (decide (way w = t))) := fun P => eq_mv2
    generalize mv (way w) = d at *
    try simp_arith
    rw [key]
    try simp_arith
    by_cases hw : way w = t
    · rw [List.filter_cons_of_pos (by simp [hw])] at q
      rw [if_pos (by simp [hw])]
      try simp_arith
      exact own_lc ws (fun v hv => h v (List.mem_cons_of_mem _ hv)) q
    · rw [List.filter_cons_of_neg (by simp [hw])] at q
      rw [if_neg (by simp [hw])]
      exact own_lc ws (fun v hv => h v (List.mem_cons_of_mem _ hv)) q
theorem st3 {x y : Nat} {a : Int} (hx : x ≤ 5) (hy : y ≤ 4) (q : N [some (.loc n), o1, some (.int (x : Nat)), some (.int (y : Nat)), some (lD (A x y)), some (gD x y a), some (lD (O x y a)), o7, o8, o9, o10, o11] μ) : OkS (c3 [some (.loc n), o1, some (.int (x : Nat)), some (.int (y : Nat)), some (lD (A x y)), some (gD x y a), o6, o7, o8, o9, o10, o11] μ) N B C T := by
  unfold c3
  simp_arith
  try refine ⟨by rw [List.length_map]; have := A_len hx hy; omega, ?_⟩
  refine own_lc (t := (x, y, a)) (A x y) (fun w hw => (A_mem _ x y w rfl hw).1) ?_
  rw [A_filter _ x y a rfl]
  try simp_arith
  exact q
theorem pl_lD (l : List (List Let)) : plainD 20 (lD l) = true := by
  show (l.map wD).all (plainD 19) = true
  rw [List.all_eq_true]
  intro d hd
  obtain ⟨w, _, rfl⟩ := List.mem_map.mp hd
  rfl
theorem st4 {x y : Nat} {a : Int} (hx : x ≤ 5) (hy : y ≤ 4) (q : N [some (.loc n), o1, o2, o3, o4, o5, some (lD (O x y a)), o7, o8, o9, o10, o11] μ) : OkS (c4 [some (.loc n), o1, o2, o3, o4, o5, some (lD (O x y a)), o7, o8, o9, o10, o11] μ) N B C T := by
  have es : ∀ μ : Mu, fSortS μ [lD (O x y a)] = some (lD (O x y a)) := fun μ => by
    have e : lD (O x y a) = .lst (((O x y a).map word).map D.str) := by rw [List.map_map]; rfl
    rw [e]
    exact o_sortS rfl (sorted_O x y a) (by rw [List.length_map]; exact small_O hx hy a)
  have pl := pl_lD (O x y a)
  unfold c4
  generalize lD (O x y a) = d at *
  simp_arith [es]
  refine o_ne_self pl ?_
  simp_arith
  exact q
end
end A10

set_option Elab.async false
set_option linter.all false
set_option maxRecDepth 100000
set_option maxHeartbeats 1000000
set_option exponentiation.threshold 10000
namespace A10
open PySem PySem.Spec PyProof.Rows L2 Ar TL
local macro_rules | `(tactic| simp_arith) => `(tactic| simp -implicitDefEqProofs only [↓ok_ok, ↓ok_stk, ↓ok_exc, ↓ok_bind, ↓ok_nox, ↓ok_of, ↓ok_lenO, ↓ok_propO, ↓ok_txtO, ↓ok_clsM, ↓ok_tupRg, ↓ok_lstRg, ↓oko_some, ↓oko_none, ↓oko_ite, ↓oko_map, ↓ok_ite, ↓oks_nx, ↓oks_stk, ↓oks_exc, ↓oks_bk, ↓oks_ct, ↓oks_rt, ↓oks_then, ↓oks_thenN, ↓ok_var0, ↓ok_varS, ↓ok_c, ↓ok_bin, ↓ok_un, ↓okb, ↓ok_test, ↓ok_tru, ↓ok_and, ↓ok_or, ↓ok_not, ↓ok_andV, ↓ok_orV, ↓ok_notV, ↓ok_if, ↓ok_ifT, ↓ok_fld, ↓ok_slt, ↓o_slt0, ↓ok_make, ↓ok_makeS, ↓o_isaC, ↓o_isn_ins, ↓o_is_ins, ↓ok_izip, ↓zipR_ll, ↓zipR_tl, ↓zipR_tt, ↓o_parts, ↓o_shares, ↓o_east, ↓o_north, ↓o_rests, zip2, zip3, ↓ok_nil, ↓ok_cons, ↓ok_star, ↓seqA_tup, ↓seqA_lst, ↓ok_revL, ↓ok_revLM, ↓ok_cmp2, ↓ok_tup, ↓ok_lst, ↓ok_lstM, ↓ok_fn, ↓ok_call, ↓ok_callK, ↓ok_noPart, ↓oki, ↓ok_part, ↓ok_sl, ↓oks_next, ↓oks_seq, ↓oks_drop, ↓oks_ret, ↓oks_retN, ↓oks_break, ↓oks_cont, ↓oks_never, ↓oks_if, ↓oks_try, ↓oks_asg, ↓oks_set, ↓ok_gName, ↓ok_gNil, ↓ok_gCons, ↓ok_gTup, ↓ok_gUnl, ↓ok_gSub, ↓okl2, ↓okl3, ↓oks_par, ↓oks_par3, ↓okv0, ↓okvS, ↓oks_aug, ↓ok_append, ↓ok_extend, ↓seqL_lst, ↓ok_strM, ↓ok_def, ↓ok_iSeq, ↓oki1, ↓oki2, ↓ok_range1, ↓ok_range2, ↓oks_for, ↓ok_lc, ↓ok_finL, ↓ok_finM, ↓ok_yes, ↓setg0, ↓setgS, ↓unsetg0, ↓unsetgS, ↓wipeg0, ↓wipegS, ↓initg0, ↓initgN, ↓initgS, ↓lenis0, ↓lenisS, ↓lenle0, ↓lenleS, ↓seqI_lst, ↓seqIE_lst, ↓seqIE_tup, ↓seqIE_scr, ↓seqI_str, ↓okt, ↓ok_kIx, ↓ok_kGet, ↓ok_revS, ↓okd, ↓ok_dGet, ↓o_mulS, ↓seqI_tup, ↓seqI_scr, ↓o_ne_mv, ↓o_eq_mv, ↓ok_enum, ↓okl1, ↓o_mul_rep, ↓o_mul_iiF, cut_2of3, ↓o_ne_2, ↓o_eq_2, ↓o_ne_bb, ↓o_eq_bb, ↓o_tru_b, ↓o_tru_i, ↓o_tru_t, ↓o_tru_l, ↓o_tru_n, ↓o_isn_non, ↓o_isn_int, ↓o_isn_tup, ↓o_isn_lst, ↓o_isn_str, ↓o_is_non, ↓o_is_int, ↓o_is_tup, ↓o_is_lst, ↓o_is_str, ↓o_eq_ii, ↓o_ne_ii, ↓o_add_ii, ↓o_sub_ii, ↓o_mul_ii, ↓o_div_ii, ↓o_mod_ii, ↓o_lt_ii, ↓o_le_ii, ↓o_gt_ii, ↓o_ge_ii, ↓o_add_tt, ↓o_add_ll, ↓o_add_ss, ↓o_divmod_ii, ↓o_neg_i, ↓o_int_i, ↓o_abs_i, ↓o_max_ii, ↓o_max1_3, ↓o_min1_3, ↓o_min_ii, ↓o_len_tup, ↓o_len_lst, ↓o_len_scr, ↓o_slc_lst, ↓o_slc_scr, ↓o_slc_tup, ↓o_tuple_lst, ↓o_tuple_tup, ↓o_tuple_scr, ↓o_list_tup, ↓o_list_lst, ↓o_bool_b, ↓o_isa_int_int, ↓o_isa_int_bool, ↓o_isa_int_tup, ↓o_isa_int_str, ↓o_isa_int_lst, ↓o_isa_bl_int, ↓o_isa_bl_bool, ↓o_isa_tup_tup, ↓o_isa_tup_int, ↓o_isa_tup_lst, ↓o_isa_tup_str, ↓o_isa_str_str, ↓o_isa_str_int, ↓o_isa_str_tup, ↓o_isa_lst_lst, ↓o_isa_lst_tup, ↓o_isa_lst_int, ↓o_isa_non_int, ↓o_isa_non_tup, ↓o_sum_3, ↓o_all_3, ↓o_atI_0, ↓o_atI_1, ↓o_atI_2, ↓o_atI_3, ↓o_atI_4, ↓o_atI_5, ↓o_ixN_30, ↓o_ixN_31, ↓o_ixN_32, ↓o_fix_tup, ↓o_fix_lst, ↓o_fix_scr, ↓o_pow_6, ↓o_pow_18, pick_0, pick_01, pick_10, pick_012, pick_021, pick_102, pick_120, pick_201, pick_210, eq_self, List.cons_append, List.nil_append, List.append_nil, List.set_set, List.set_cons_zero, List.set_cons_succ, List.length_cons, List.length_nil, Nat.zero_add, Nat.reduceAdd, Nat.reduceLeDiff, castN, natabsN, mulOkL, mulOkR, Bool.true_or, Nat.reducePow, Nat.reduceLT, ne_eq, not_true_eq_false, not_false_eq_true, rng_3, rng_2, Int.reduceEq, Int.reduceLT, Int.reduceLE, Int.reduceAdd, Int.reduceSub, Int.reduceMul, Int.reduceNeg, true_and, and_true, if_true, if_false, Bool.false_eq_true, Bool.true_eq_false, decide_true, decide_false, Bool.not_true, Bool.not_false, Bool.and_true, Bool.true_and, Bool.and_false, Bool.false_and])
local macro_rules | `(tactic| simp_arith [$ts,*]) => `(tactic| simp -implicitDefEqProofs only [↓ok_ok, ↓ok_stk, ↓ok_exc, ↓ok_bind, ↓ok_nox, ↓ok_of, ↓ok_lenO, ↓ok_propO, ↓ok_txtO, ↓ok_clsM, ↓ok_tupRg, ↓ok_lstRg, ↓oko_some, ↓oko_none, ↓oko_ite, ↓oko_map, ↓ok_ite, ↓oks_nx, ↓oks_stk, ↓oks_exc, ↓oks_bk, ↓oks_ct, ↓oks_rt, ↓oks_then, ↓oks_thenN, ↓ok_var0, ↓ok_varS, ↓ok_c, ↓ok_bin, ↓ok_un, ↓okb, ↓ok_test, ↓ok_tru, ↓ok_and, ↓ok_or, ↓ok_not, ↓ok_andV, ↓ok_orV, ↓ok_notV, ↓ok_if, ↓ok_ifT, ↓ok_fld, ↓ok_slt, ↓o_slt0, ↓ok_make, ↓ok_makeS, ↓o_isaC, ↓o_isn_ins, ↓o_is_ins, ↓ok_izip, ↓zipR_ll, ↓zipR_tl, ↓zipR_tt, ↓o_parts, ↓o_shares, ↓o_east, ↓o_north, ↓o_rests, zip2, zip3, ↓ok_nil, ↓ok_cons, ↓ok_star, ↓seqA_tup, ↓seqA_lst, ↓ok_revL, ↓ok_revLM, ↓ok_cmp2, ↓ok_tup, ↓ok_lst, ↓ok_lstM, ↓ok_fn, ↓ok_call, ↓ok_callK, ↓ok_noPart, ↓oki, ↓ok_part, ↓ok_sl, ↓oks_next, ↓oks_seq, ↓oks_drop, ↓oks_ret, ↓oks_retN, ↓oks_break, ↓oks_cont, ↓oks_never, ↓oks_if, ↓oks_try, ↓oks_asg, ↓oks_set, ↓ok_gName, ↓ok_gNil, ↓ok_gCons, ↓ok_gTup, ↓ok_gUnl, ↓ok_gSub, ↓okl2, ↓okl3, ↓oks_par, ↓oks_par3, ↓okv0, ↓okvS, ↓oks_aug, ↓ok_append, ↓ok_extend, ↓seqL_lst, ↓ok_strM, ↓ok_def, ↓ok_iSeq, ↓oki1, ↓oki2, ↓ok_range1, ↓ok_range2, ↓oks_for, ↓ok_lc, ↓ok_finL, ↓ok_finM, ↓ok_yes, ↓setg0, ↓setgS, ↓unsetg0, ↓unsetgS, ↓wipeg0, ↓wipegS, ↓initg0, ↓initgN, ↓initgS, ↓lenis0, ↓lenisS, ↓lenle0, ↓lenleS, ↓seqI_lst, ↓seqIE_lst, ↓seqIE_tup, ↓seqIE_scr, ↓seqI_str, ↓okt, ↓ok_kIx, ↓ok_kGet, ↓ok_revS, ↓okd, ↓ok_dGet, ↓o_mulS, ↓seqI_tup, ↓seqI_scr, ↓o_ne_mv, ↓o_eq_mv, ↓ok_enum, ↓okl1, ↓o_mul_rep, ↓o_mul_iiF, cut_2of3, ↓o_ne_2, ↓o_eq_2, ↓o_ne_bb, ↓o_eq_bb, ↓o_tru_b, ↓o_tru_i, ↓o_tru_t, ↓o_tru_l, ↓o_tru_n, ↓o_isn_non, ↓o_isn_int, ↓o_isn_tup, ↓o_isn_lst, ↓o_isn_str, ↓o_is_non, ↓o_is_int, ↓o_is_tup, ↓o_is_lst, ↓o_is_str, ↓o_eq_ii, ↓o_ne_ii, ↓o_add_ii, ↓o_sub_ii, ↓o_mul_ii, ↓o_div_ii, ↓o_mod_ii, ↓o_lt_ii, ↓o_le_ii, ↓o_gt_ii, ↓o_ge_ii, ↓o_add_tt, ↓o_add_ll, ↓o_add_ss, ↓o_divmod_ii, ↓o_neg_i, ↓o_int_i, ↓o_abs_i, ↓o_max_ii, ↓o_max1_3, ↓o_min1_3, ↓o_min_ii, ↓o_len_tup, ↓o_len_lst, ↓o_len_scr, ↓o_slc_lst, ↓o_slc_scr, ↓o_slc_tup, ↓o_tuple_lst, ↓o_tuple_tup, ↓o_tuple_scr, ↓o_list_tup, ↓o_list_lst, ↓o_bool_b, ↓o_isa_int_int, ↓o_isa_int_bool, ↓o_isa_int_tup, ↓o_isa_int_str, ↓o_isa_int_lst, ↓o_isa_bl_int, ↓o_isa_bl_bool, ↓o_isa_tup_tup, ↓o_isa_tup_int, ↓o_isa_tup_lst, ↓o_isa_tup_str, ↓o_isa_str_str, ↓o_isa_str_int, ↓o_isa_str_tup, ↓o_isa_lst_lst, ↓o_isa_lst_tup, ↓o_isa_lst_int, ↓o_isa_non_int, ↓o_isa_non_tup, ↓o_sum_3, ↓o_all_3, ↓o_atI_0, ↓o_atI_1, ↓o_atI_2, ↓o_atI_3, ↓o_atI_4, ↓o_atI_5, ↓o_ixN_30, ↓o_ixN_31, ↓o_ixN_32, ↓o_fix_tup, ↓o_fix_lst, ↓o_fix_scr, ↓o_pow_6, ↓o_pow_18, pick_0, pick_01, pick_10, pick_012, pick_021, pick_102, pick_120, pick_201, pick_210, eq_self, List.cons_append, List.nil_append, List.append_nil, List.set_set, List.set_cons_zero, List.set_cons_succ, List.length_cons, List.length_nil, Nat.zero_add, Nat.reduceAdd, Nat.reduceLeDiff, castN, natabsN, mulOkL, mulOkR, Bool.true_or, Nat.reducePow, Nat.reduceLT, ne_eq, not_true_eq_false, not_false_eq_true, rng_3, rng_2, Int.reduceEq, Int.reduceLT, Int.reduceLE, Int.reduceAdd, Int.reduceSub, Int.reduceMul, Int.reduceNeg, true_and, and_true, if_true, if_false, Bool.false_eq_true, Bool.true_eq_false, decide_true, decide_false, Bool.not_true, Bool.not_false, Bool.and_true, Bool.true_and, Bool.and_false, Bool.false_and, $ts,*])
noncomputable abbrev B5 : DS := (dSeq (dIfS (dTest (dBin fNe (dLst (daCons (dCall m_direct_walk (daCons (dVar 5) (daCons (dVar 7) (daNil)))) (daCons (dCallK 0 2 [1, 0] m_direct_walk daNil (daCons (dVar 7) (daCons (dVar 5) (daNil)))) (daNil)))) (dLst (daCons (dBin fIx (dVar 6) (dVar 7)) (daCons (dBin fIx (dVar 6) (dVar 7)) (daNil)))))) (dRet (dC (.bl false))) (dsNext)) (dIfS (dTest (dBin fNe (dFn (orC (orC fRepr fReprE) fReprD) (daCons (dLst (daCons (dCall m_place_of (daCons (dBin fIx (dVar 6) (dVar 7)) (daNil))) (daCons (dCallK 0 1 [0] m_place_of daNil (daCons (dBin fIx (dVar 6) (dVar 7)) (daNil))) (daNil)))) (daNil))) (dFn (orC (orC fRepr fReprE) fReprD) (daCons (dLst (daCons (dVar 7) (daCons (dVar 7) (daNil)))) (daNil))))) (dRet (dC (.bl false))) (dsNext)))
section
variable {n : Nat} {o1 o2 o3 o4 o8 o9 o10 o11 : Option D}
theorem rp_ints {i : Int} (h : i.natAbs < 10 ^ 400) : ∃ z, ∀ μ : Mu, orC (orC fRepr fReprE) fReprD μ [.lst [D.int i, D.int i]] = some (.str z) := by
  have sm : SmD 20 40000 (.lst [D.int i, D.int i]) := by
    refine (sm_lst (n := 19) (w := 1401) fun d hd => ?_).mono (by simp)
    simp only [List.mem_cons, List.not_mem_nil, or_false] at hd
    rcases hd with rfl | rfl <;> exact sm_int h
  exact ⟨_, fun μ => sm.rpF (by decide)⟩
theorem lp5 {x y : Nat} {a : Int} (hxy : x + y ≤ 24) : ∀ (c k : Nat) {o7 : Option D} {μ : Mu} {N B C : Gam → Mu → Prop} {T : D → Mu → Prop}, k + c = cnt x y a → k ≤ 64 → cnt x y a ≤ 64 → (∀ o7 μ', Ey μ μ' → N [some (.loc n), o1, o2, o3, o4, some (gD x y a), some (lD (O x y a)), o7, o8, o9, o10, o11] μ') →
    OkS (forL (dgName 7) B5 (rngD ((k : Nat) : Int) c) [some (.loc n), o1, o2, o3, o4, some (gD x y a), some (lD (O x y a)), o7, o8, o9, o10, o11] μ) N B C T
  | 0, k, o7, μ, N, B, C, T, hk, h64, hc, q => by
    rw [show rngD ((k : Nat) : Int) 0 = [] from rfl, oks_forNil]
    exact q _ _ Ey.refl
  | c + 1, k, o7, μ, N, B, C, T, hk, h64, hc, q => by
    obtain ⟨w, hw⟩ : ∃ w, (O x y a)[k]? = some w := ⟨_, List.getElem?_eq_getElem (show k < (O x y a).length from by have : cnt x y a = (O x y a).length := rfl; omega)⟩
    have e : atI ((O x y a).map wD) ((k : Nat) : Int) = some (wD w) := atI_some (by rw [List.getElem?_map, hw]; rfl)
    have hz : ((k : Nat) : Int).natAbs < 10 ^ 400 := Nat.lt_of_le_of_lt (show ((k : Nat) : Int).natAbs ≤ 64 from by omega) (by decide +kernel)
    obtain ⟨z, ez⟩ := rp_ints hz
    rw [rng_succ, oks_forCons]
    unfold B5
    simp_arith
    refine walk_spec hxy hw fun μ1 e1 => ?_
    try simp_arith
    refine walk_spec hxy hw fun μ2 e2 => ?_
    simp_arith [e]
    refine o_ne_self (d := .lst [.str (word w), .str (word w)]) rfl ?_
    simp_arith
    try simp_arith [e]
    refine place_spec hxy hw fun μ3 e3 => ?_
    try simp_arith [e]
    refine place_spec hxy hw fun μ4 e4 => ?_
    try simp_arith [ez]
    refine o_ne_self (d := .str z) rfl ?_
    try simp_arith
    rw [show ((k : Nat) : Int) + 1 = ((k + 1 : Nat) : Int) from rfl]
    exact lp5 hxy c (k + 1) (by omega) (by omega) hc fun o7 μ' e5 => q o7 μ' ((((e1.trans e2).trans e3).trans e4).trans e5)
theorem st5 {x y : Nat} {a : Int} {o7 : Option D} {μ : Mu} {N B C : Gam → Mu → Prop} {T : D → Mu → Prop} (hx : x ≤ 5) (hy : y ≤ 4) (q : ∀ o7 μ', Ey μ μ' → N [some (.loc n), o1, o2, o3, o4, some (gD x y a), some (lD (O x y a)), o7, o8, o9, o10, o11] μ') : OkS (c5 [some (.loc n), o1, o2, o3, o4, some (gD x y a), some (lD (O x y a)), o7, o8, o9, o10, o11] μ) N B C T := by
  have hs := small_O hx hy a
  have hl : ((O x y a).map wD).length = cnt x y a := List.length_map ..
  have hc : cnt x y a = (O x y a).length := rfl
  unfold c5
  simp_arith
  rw [hl]
  refine ⟨by omega, ?_⟩
  rw [Int.toNat_natCast]
  exact lp5 (by omega) (cnt x y a) 0 (by omega) (by omega) (by omega) q
theorem lamI {x y : Nat} {a : Int} {o7 : Option D} {μ : Mu} {P : Addr} {q : Str} {Q : D → Mu → Prop} (hx : x ≤ 5) (hy : y ≤ 4) (hc : 0 < cnt x y a) (h0 : μ[0]? = some (.tab P q)) (k : ∀ μ', Ey μ μ' → Q (.tup [.str "index", .int (cnt x y a : Nat)]) μ') :
    Ok (dLamR 0 P q res__law_tried (dCall m_direct_walk (daCons (dVar 5) (daCons (dFn fLen (daCons (dVar 6) (daNil))) (daNil)))) [some (.loc n), o1, o2, o3, o4, some (gD x y a), some (lD (O x y a)), o7, o8, o9, o10, o11] μ) Q := by
  have hs := small_O hx hy a
  have hl : ((O x y a).map wD).length = cnt x y a := List.length_map ..
  have hc' : cnt x y a = (O x y a).length := rfl
  have el : fLen μ [lD (O x y a)] = some (.int (cnt x y a : Nat)) := by
    unfold fLen
    simp [hl, show cnt x y a ≤ 1000000 by omega]
    exact ⟨_, rfl, by rw [hl]⟩
  obtain ⟨μ', e1, e2⟩ := walk_ix (x := x) (y := y) (a := a) (by omega) hc (μ := μ)
  unfold dLamR
  rw [h0]
  have e : dCall m_direct_walk (daCons (dVar 5) (daCons (dFn fLen (daCons (dVar 6) (daNil))) (daNil))) [some (.loc n), o1, o2, o3, o4, some (gD x y a), some (lD (O x y a)), o7, o8, o9, o10, o11] μ = m_direct_walk [gD x y a, .int (cnt x y a : Nat)] μ := by
    simp [dCall, daCons, daNil, dVar, dFn, R.bind, R.of, el]
  rw [e]
  show Ok (if P = P ∧ q = q then res__law_tried (m_direct_walk [gD x y a, .int (cnt x y a : Nat)] μ) else .stk) Q
  rw [if_pos ⟨rfl, rfl⟩, e2, tried_ix]
  exact k μ' e1
theorem st6 {tP : Str → Addr} {x y : Nat} {a : Int} {o7 : Option D} {μ : Mu} {N B C : Gam → Mu → Prop} {T : D → Mu → Prop} (hx : x ≤ 5) (hy : y ≤ 4) (hc : 0 < cnt x y a) (h0 : μ[0]? = some (.tab (tP "_law_right") (("_law_right" : Str) ++ ".<locals>." ++ "<lambda>"))) (q : ∀ μ', Ey μ μ' → N [some (.loc n), o1, o2, o3, o4, some (gD x y a), some (lD (O x y a)), o7, o8, o9, o10, o11] μ') : OkS (c6 tP [some (.loc n), o1, o2, o3, o4, some (gD x y a), some (lD (O x y a)), o7, o8, o9, o10, o11] μ) N B C T := by
  have hs := small_O hx hy a
  have hl : ((O x y a).map wD).length = cnt x y a := List.length_map ..
  have hc' : cnt x y a = (O x y a).length := rfl
  unfold c6
  simp_arith
  refine lamI hx hy hc h0 fun μ' e1 => ?_
  try simp_arith
  rw [hl]
  refine o_ne_self (d := .tup [.str "index", .int (cnt x y a : Nat)]) rfl ?_
  simp_arith
  exact q μ' e1
theorem lamF {x y a : Int} {o5 o6 o7 : Option D} {μ : Mu} {P : Addr} {q : Str} {Q : D → Mu → Prop} (h : (∃ m n : Nat, x = m ∧ y = n ∧ m + n ≤ 24 ∧ cnt m n a = 0) ∨ x < 0 ∨ y < 0) (h0 : μ[0]? = some (.tab P q)) (k : ∀ μ', Ey μ μ' → Q (.str "none") μ') :
    Ok (dLamR 0 P q res__law_tried (dCall m_direct_walk (daCons (dVar 8) (daCons (dC (.int 0)) (daNil)))) [some (.loc n), o1, o2, o3, o4, o5, o6, o7, some (.tup [.int x, .int y, .int a]), o9, o10, o11] μ) Q := by
  obtain ⟨μ', e1, e2⟩ := walk_no h (k := 0) (μ := μ)
  unfold dLamR
  rw [h0]
  have e : dCall m_direct_walk (daCons (dVar 8) (daCons (dC (.int 0)) (daNil))) [some (.loc n), o1, o2, o3, o4, o5, o6, o7, some (.tup [.int x, .int y, .int a]), o9, o10, o11] μ = m_direct_walk [.tup [.int x, .int y, .int a], .int 0] μ := by
    simp [dCall, daCons, daNil, dVar, dC, R.bind]
  rw [e]
  show Ok (if P = P ∧ q = q then res__law_tried (m_direct_walk [.tup [.int x, .int y, .int a], .int 0] μ) else .stk) Q
  rw [if_pos ⟨rfl, rfl⟩, e2, tried_no]
  exact k μ' e1
noncomputable def B7 (tP : Str → Addr) : DS := (dIfS (dTest (dBin fNe (dLamR 0 (tP "_law_right") (("_law_right" : Str) ++ ".<locals>." ++ "<lambda>") res__law_tried (dCall m_direct_walk (daCons (dVar 8) (daCons (dC (.int 0)) (daNil))))) (dC (.str "none")))) (dRet (dC (.bl false))) (dsNext))
theorem b7_spec {tP : Str → Addr} {x y a : Int} {o5 o6 o7 : Option D} {μ : Mu} {N B C : Gam → Mu → Prop} {T : D → Mu → Prop} (h : (∃ m n : Nat, x = m ∧ y = n ∧ m + n ≤ 24 ∧ cnt m n a = 0) ∨ x < 0 ∨ y < 0) (h0 : μ[0]? = some (.tab (tP "_law_right") (("_law_right" : Str) ++ ".<locals>." ++ "<lambda>")))
    (q : ∀ o8 μ', Ey μ μ' → N [some (.loc n), o1, o2, o3, o4, o5, o6, o7, o8, o9, o10, o11] μ') : OkS (B7 tP [some (.loc n), o1, o2, o3, o4, o5, o6, o7, some (.tup [.int x, .int y, .int a]), o9, o10, o11] μ) N B C T := by
  unfold B7
  simp_arith
  refine lamF h h0 fun μ' e1 => ?_
  try simp_arith
  refine o_ne_self (d := .str "none") rfl ?_
  simp_arith
  exact q _ μ' e1
theorem st7 {tP : Str → Addr} {x y : Nat} {o5 o6 o7 : Option D} {μ : Mu} {N B C : Gam → Mu → Prop} {T : D → Mu → Prop} (hx : x ≤ 5) (hy : y ≤ 4) (h0 : μ[0]? = some (.tab (tP "_law_right") (("_law_right" : Str) ++ ".<locals>." ++ "<lambda>"))) (q : ∀ o8 μ', Ey μ μ' → N [some (.loc n), o1, some (.int (x : Nat)), some (.int (y : Nat)), o4, o5, o6, o7, o8, o9, o10, o11] μ') : OkS (c7 tP [some (.loc n), o1, some (.int (x : Nat)), some (.int (y : Nat)), o4, o5, o6, o7, o8, o9, o10, o11] μ) N B C T := by
  have m1 := (dg2 (n := x) (by omega)).ok (dg2 (n := y) (by omega)) (by decide) (by decide)
  have hB : (dIfS (dTest (dBin fNe (dLamR 0 (tP "_law_right") (("_law_right" : Str) ++ ".<locals>." ++ "<lambda>") res__law_tried (dCall m_direct_walk (daCons (dVar 8) (daCons (dC (.int 0)) (daNil))))) (dC (.str "none")))) (dRet (dC (.bl false))) (dsNext)) = B7 tP := rfl
  unfold c7
  rw [hB]
  simp_arith
  refine ⟨m1, ?_⟩
  try simp_arith
  rw [oks_forCons, ok_gName]
  simp_arith
  refine b7_spec (.inl ⟨x, y, rfl, rfl, by omega, cnt_out (.inr (by rw [Int.natCast_mul]; omega))⟩) h0 fun o8 μ1 e1 => ?_
  rw [oks_forCons, ok_gName]
  simp_arith
  refine b7_spec (.inl ⟨x, y, rfl, rfl, by omega, cnt_out (.inl (by omega))⟩) (e1.at_ _ _ h0) fun o8 μ2 e2 => ?_
  rw [oks_forCons, ok_gName]
  simp_arith
  refine b7_spec (.inr (.inr (by omega))) ((e1.trans e2).at_ _ _ h0) fun o8 μ3 e3 => ?_
  rw [oks_forCons, ok_gName]
  simp_arith
  refine b7_spec (.inr (.inl (by omega))) (((e1.trans e2).trans e3).at_ _ _ h0) fun o8 μ4 e4 => ?_
  rw [oks_forNil]
  exact q o8 μ4 (((e1.trans e2).trans e3).trans e4)
end
end A10

set_option Elab.async false
set_option linter.all false
set_option maxRecDepth 100000
set_option maxHeartbeats 1000000
set_option exponentiation.threshold 10000
namespace A10
open PySem PySem.Spec PyProof.Rows L2 Ar TL
local macro_rules | `(tactic| simp_arith) => `(tactic| simp -implicitDefEqProofs only [↓ok_ok, ↓ok_stk, ↓ok_exc, ↓ok_bind, ↓ok_nox, ↓ok_of, ↓ok_lenO, ↓ok_propO, ↓ok_txtO, ↓ok_clsM, ↓ok_tupRg, ↓ok_lstRg, ↓oko_some, ↓oko_none, ↓oko_ite, ↓oko_map, ↓ok_ite, ↓oks_nx, ↓oks_stk, ↓oks_exc, ↓oks_bk, ↓oks_ct, ↓oks_rt, ↓oks_then, ↓oks_thenN, ↓ok_var0, ↓ok_varS, ↓ok_c, ↓ok_bin, ↓ok_un, ↓okb, ↓ok_test, ↓ok_tru, ↓ok_and, ↓ok_or, ↓ok_not, ↓ok_andV, ↓ok_orV, ↓ok_notV, ↓ok_if, ↓ok_ifT, ↓ok_fld, ↓ok_slt, ↓o_slt0, ↓ok_make, ↓ok_makeS, ↓o_isaC, ↓o_isn_ins, ↓o_is_ins, ↓ok_izip, ↓zipR_ll, ↓zipR_tl, ↓zipR_tt, ↓o_parts, ↓o_shares, ↓o_east, ↓o_north, ↓o_rests, zip2, zip3, ↓ok_nil, ↓ok_cons, ↓ok_star, ↓seqA_tup, ↓seqA_lst, ↓ok_revL, ↓ok_revLM, ↓ok_cmp2, ↓ok_tup, ↓ok_lst, ↓ok_lstM, ↓ok_fn, ↓ok_call, ↓ok_callK, ↓ok_noPart, ↓oki, ↓ok_part, ↓ok_sl, ↓oks_next, ↓oks_seq, ↓oks_drop, ↓oks_ret, ↓oks_retN, ↓oks_break, ↓oks_cont, ↓oks_never, ↓oks_if, ↓oks_try, ↓oks_asg, ↓oks_set, ↓ok_gName, ↓ok_gNil, ↓ok_gCons, ↓ok_gTup, ↓ok_gUnl, ↓ok_gSub, ↓okl2, ↓okl3, ↓oks_par, ↓oks_par3, ↓okv0, ↓okvS, ↓oks_aug, ↓ok_append, ↓ok_extend, ↓seqL_lst, ↓ok_strM, ↓ok_def, ↓ok_iSeq, ↓oki1, ↓oki2, ↓ok_range1, ↓ok_range2, ↓oks_for, ↓ok_lc, ↓ok_finL, ↓ok_finM, ↓ok_yes, ↓setg0, ↓setgS, ↓unsetg0, ↓unsetgS, ↓wipeg0, ↓wipegS, ↓initg0, ↓initgN, ↓initgS, ↓lenis0, ↓lenisS, ↓lenle0, ↓lenleS, ↓seqI_lst, ↓seqIE_lst, ↓seqIE_tup, ↓seqIE_scr, ↓seqI_str, ↓okt, ↓ok_kIx, ↓ok_kGet, ↓ok_revS, ↓okd, ↓ok_dGet, ↓o_mulS, ↓seqI_tup, ↓seqI_scr, ↓o_ne_mv, ↓o_eq_mv, ↓ok_enum, ↓okl1, ↓o_mul_rep, ↓o_mul_iiF, cut_2of3, ↓o_ne_2, ↓o_eq_2, ↓o_ne_bb, ↓o_eq_bb, ↓o_tru_b, ↓o_tru_i, ↓o_tru_t, ↓o_tru_l, ↓o_tru_n, ↓o_isn_non, ↓o_isn_int, ↓o_isn_tup, ↓o_isn_lst, ↓o_isn_str, ↓o_is_non, ↓o_is_int, ↓o_is_tup, ↓o_is_lst, ↓o_is_str, ↓o_eq_ii, ↓o_ne_ii, ↓o_add_ii, ↓o_sub_ii, ↓o_mul_ii, ↓o_div_ii, ↓o_mod_ii, ↓o_lt_ii, ↓o_le_ii, ↓o_gt_ii, ↓o_ge_ii, ↓o_add_tt, ↓o_add_ll, ↓o_add_ss, ↓o_divmod_ii, ↓o_neg_i, ↓o_int_i, ↓o_abs_i, ↓o_max_ii, ↓o_max1_3, ↓o_min1_3, ↓o_min_ii, ↓o_len_tup, ↓o_len_lst, ↓o_len_scr, ↓o_slc_lst, ↓o_slc_scr, ↓o_slc_tup, ↓o_tuple_lst, ↓o_tuple_tup, ↓o_tuple_scr, ↓o_list_tup, ↓o_list_lst, ↓o_bool_b, ↓o_isa_int_int, ↓o_isa_int_bool, ↓o_isa_int_tup, ↓o_isa_int_str, ↓o_isa_int_lst, ↓o_isa_bl_int, ↓o_isa_bl_bool, ↓o_isa_tup_tup, ↓o_isa_tup_int, ↓o_isa_tup_lst, ↓o_isa_tup_str, ↓o_isa_str_str, ↓o_isa_str_int, ↓o_isa_str_tup, ↓o_isa_lst_lst, ↓o_isa_lst_tup, ↓o_isa_lst_int, ↓o_isa_non_int, ↓o_isa_non_tup, ↓o_sum_3, ↓o_all_3, ↓o_atI_0, ↓o_atI_1, ↓o_atI_2, ↓o_atI_3, ↓o_atI_4, ↓o_atI_5, ↓o_ixN_30, ↓o_ixN_31, ↓o_ixN_32, ↓o_fix_tup, ↓o_fix_lst, ↓o_fix_scr, ↓o_pow_6, ↓o_pow_18, pick_0, pick_01, pick_10, pick_012, pick_021, pick_102, pick_120, pick_201, pick_210, eq_self, List.cons_append, List.nil_append, List.append_nil, List.set_set, List.set_cons_zero, List.set_cons_succ, List.length_cons, List.length_nil, Nat.zero_add, Nat.reduceAdd, Nat.reduceLeDiff, castN, natabsN, mulOkL, mulOkR, Bool.true_or, Nat.reducePow, Nat.reduceLT, ne_eq, not_true_eq_false, not_false_eq_true, rng_3, rng_2, Int.reduceEq, Int.reduceLT, Int.reduceLE, Int.reduceAdd, Int.reduceSub, Int.reduceMul, Int.reduceNeg, true_and, and_true, if_true, if_false, Bool.false_eq_true, Bool.true_eq_false, decide_true, decide_false, Bool.not_true, Bool.not_false, Bool.and_true, Bool.true_and, Bool.and_false, Bool.false_and])
local macro_rules | `(tactic| simp_arith [$ts,*]) => `(tactic| simp -implicitDefEqProofs only [↓ok_ok, ↓ok_stk, ↓ok_exc, ↓ok_bind, ↓ok_nox, ↓ok_of, ↓ok_lenO, ↓ok_propO, ↓ok_txtO, ↓ok_clsM, ↓ok_tupRg, ↓ok_lstRg, ↓oko_some, ↓oko_none, ↓oko_ite, ↓oko_map, ↓ok_ite, ↓oks_nx, ↓oks_stk, ↓oks_exc, ↓oks_bk, ↓oks_ct, ↓oks_rt, ↓oks_then, ↓oks_thenN, ↓ok_var0, ↓ok_varS, ↓ok_c, ↓ok_bin, ↓ok_un, ↓okb, ↓ok_test, ↓ok_tru, ↓ok_and, ↓ok_or, ↓ok_not, ↓ok_andV, ↓ok_orV, ↓ok_notV, ↓ok_if, ↓ok_ifT, ↓ok_fld, ↓ok_slt, ↓o_slt0, ↓ok_make, ↓ok_makeS, ↓o_isaC, ↓o_isn_ins, ↓o_is_ins, ↓ok_izip, ↓zipR_ll, ↓zipR_tl, ↓zipR_tt, ↓o_parts, ↓o_shares, ↓o_east, ↓o_north, ↓o_rests, zip2, zip3, ↓ok_nil, ↓ok_cons, ↓ok_star, ↓seqA_tup, ↓seqA_lst, ↓ok_revL, ↓ok_revLM, ↓ok_cmp2, ↓ok_tup, ↓ok_lst, ↓ok_lstM, ↓ok_fn, ↓ok_call, ↓ok_callK, ↓ok_noPart, ↓oki, ↓ok_part, ↓ok_sl, ↓oks_next, ↓oks_seq, ↓oks_drop, ↓oks_ret, ↓oks_retN, ↓oks_break, ↓oks_cont, ↓oks_never, ↓oks_if, ↓oks_try, ↓oks_asg, ↓oks_set, ↓ok_gName, ↓ok_gNil, ↓ok_gCons, ↓ok_gTup, ↓ok_gUnl, ↓ok_gSub, ↓okl2, ↓okl3, ↓oks_par, ↓oks_par3, ↓okv0, ↓okvS, ↓oks_aug, ↓ok_append, ↓ok_extend, ↓seqL_lst, ↓ok_strM, ↓ok_def, ↓ok_iSeq, ↓oki1, ↓oki2, ↓ok_range1, ↓ok_range2, ↓oks_for, ↓ok_lc, ↓ok_finL, ↓ok_finM, ↓ok_yes, ↓setg0, ↓setgS, ↓unsetg0, ↓unsetgS, ↓wipeg0, ↓wipegS, ↓initg0, ↓initgN, ↓initgS, ↓lenis0, ↓lenisS, ↓lenle0, ↓lenleS, ↓seqI_lst, ↓seqIE_lst, ↓seqIE_tup, ↓seqIE_scr, ↓seqI_str, ↓okt, ↓ok_kIx, ↓ok_kGet, ↓ok_revS, ↓okd, ↓ok_dGet, ↓o_mulS, ↓seqI_tup, ↓seqI_scr, ↓o_ne_mv, ↓o_eq_mv, ↓ok_enum, ↓okl1, ↓o_mul_rep, ↓o_mul_iiF, cut_2of3, ↓o_ne_2, ↓o_eq_2, ↓o_ne_bb, ↓o_eq_bb, ↓o_tru_b, ↓o_tru_i, ↓o_tru_t, ↓o_tru_l, ↓o_tru_n, ↓o_isn_non, ↓o_isn_int, ↓o_isn_tup, ↓o_isn_lst, ↓o_isn_str, ↓o_is_non, ↓o_is_int, ↓o_is_tup, ↓o_is_lst, ↓o_is_str, ↓o_eq_ii, ↓o_ne_ii, ↓o_add_ii, ↓o_sub_ii, ↓o_mul_ii, ↓o_div_ii, ↓o_mod_ii, ↓o_lt_ii, ↓o_le_ii, ↓o_gt_ii, ↓o_ge_ii, ↓o_add_tt, ↓o_add_ll, ↓o_add_ss, ↓o_divmod_ii, ↓o_neg_i, ↓o_int_i, ↓o_abs_i, ↓o_max_ii, ↓o_max1_3, ↓o_min1_3, ↓o_min_ii, ↓o_len_tup, ↓o_len_lst, ↓o_len_scr, ↓o_slc_lst, ↓o_slc_scr, ↓o_slc_tup, ↓o_tuple_lst, ↓o_tuple_tup, ↓o_tuple_scr, ↓o_list_tup, ↓o_list_lst, ↓o_bool_b, ↓o_isa_int_int, ↓o_isa_int_bool, ↓o_isa_int_tup, ↓o_isa_int_str, ↓o_isa_int_lst, ↓o_isa_bl_int, ↓o_isa_bl_bool, ↓o_isa_tup_tup, ↓o_isa_tup_int, ↓o_isa_tup_lst, ↓o_isa_tup_str, ↓o_isa_str_str, ↓o_isa_str_int, ↓o_isa_str_tup, ↓o_isa_lst_lst, ↓o_isa_lst_tup, ↓o_isa_lst_int, ↓o_isa_non_int, ↓o_isa_non_tup, ↓o_sum_3, ↓o_all_3, ↓o_atI_0, ↓o_atI_1, ↓o_atI_2, ↓o_atI_3, ↓o_atI_4, ↓o_atI_5, ↓o_ixN_30, ↓o_ixN_31, ↓o_ixN_32, ↓o_fix_tup, ↓o_fix_lst, ↓o_fix_scr, ↓o_pow_6, ↓o_pow_18, pick_0, pick_01, pick_10, pick_012, pick_021, pick_102, pick_120, pick_201, pick_210, eq_self, List.cons_append, List.nil_append, List.append_nil, List.set_set, List.set_cons_zero, List.set_cons_succ, List.length_cons, List.length_nil, Nat.zero_add, Nat.reduceAdd, Nat.reduceLeDiff, castN, natabsN, mulOkL, mulOkR, Bool.true_or, Nat.reducePow, Nat.reduceLT, ne_eq, not_true_eq_false, not_false_eq_true, rng_3, rng_2, Int.reduceEq, Int.reduceLT, Int.reduceLE, Int.reduceAdd, Int.reduceSub, Int.reduceMul, Int.reduceNeg, true_and, and_true, if_true, if_false, Bool.false_eq_true, Bool.true_eq_false, decide_true, decide_false, Bool.not_true, Bool.not_false, Bool.and_true, Bool.true_and, Bool.and_false, Bool.false_and, $ts,*])
/-! a drawn walk -/
def LtS (z : Str) : Prop := z = "en" ∨ z = "een" ∨ z = "enn"
theorem letter_spec {z : Str} (hz : LtS z) {n : Nat} {μ : Mu} {Q : D → Mu → Prop} (h : Wl n μ) (q : ∀ l μ', isEN l = true → Wl n μ' → Gr n μ μ' → Q (chD l) μ') : Ok (m__law_one_of [.loc n, .str z] μ) Q := by
  have k2 : ∀ {μ : Mu} {P : D → Prop}, OkO (fLen μ [.str ("en" : Str)]) P = P (.int 2) := fun {μ P} => by
    have : (("en" : Str).length : Nat) = 2 := by decide +kernel
    unfold fLen
    simp [this, OkO]
  have k3 : ∀ {μ : Mu} {P : D → Prop}, OkO (fLen μ [.str ("een" : Str)]) P = P (.int 3) := fun {μ P} => by
    have : (("een" : Str).length : Nat) = 3 := by decide +kernel
    unfold fLen
    simp [this, OkO]
  have k4 : ∀ {μ : Mu} {P : D → Prop}, OkO (fLen μ [.str ("enn" : Str)]) P = P (.int 3) := fun {μ P} => by
    have : (("enn" : Str).length : Nat) = 3 := by decide +kernel
    unfold fLen
    simp [this, OkO]
  have key : ∀ (z : Str) (μ' : Mu) (d : Int) (l : Let), fIx μ' (.str z) (.int d) = some (chD l) → isEN l = true → Wl n μ' → Gr n μ μ' → OkO (fIx μ' (.str z) (.int d)) fun z => Q z μ' := fun z μ' d l e hc h1 g1 => by
    rw [e]
    exact q l μ' hc h1 g1
  unfold m__law_one_of
  rcases hz with rfl | rfl | rfl
  · simp_arith [↓k2]
    refine dip_spec h (by decide) (by decide) fun d μ' h1 g1 d0 d1 => ?_
    have hd : d = 0 ∨ d = 1 := by omega
    rcases hd with rfl | rfl
    · exact key _ μ' 0 .e (by rfl) rfl h1 g1
    · exact key _ μ' 1 .n (by rfl) rfl h1 g1
  · simp_arith [↓k3]
    refine dip_spec h (by decide) (by decide) fun d μ' h1 g1 d0 d1 => ?_
    have hd : d = 0 ∨ d = 1 ∨ d = 2 := by omega
    rcases hd with rfl | rfl | rfl
    · exact key _ μ' 0 .e (by rfl) rfl h1 g1
    · exact key _ μ' 1 .e (by rfl) rfl h1 g1
    · exact key _ μ' 2 .n (by rfl) rfl h1 g1
  · simp_arith [↓k4]
    refine dip_spec h (by decide) (by decide) fun d μ' h1 g1 d0 d1 => ?_
    have hd : d = 0 ∨ d = 1 ∨ d = 2 := by omega
    rcases hd with rfl | rfl | rfl
    · exact key _ μ' 0 .e (by rfl) rfl h1 g1
    · exact key _ μ' 1 .n (by rfl) rfl h1 g1
    · exact key _ μ' 2 .n (by rfl) rfl h1 g1
theorem joinL_nil : ∀ ps : List (List Nat), joinL [] ps = ps.flatten
  | [] => rfl
  | [p] => by simp [joinL]
  | p :: q :: r => by
    have := joinL_nil (q :: r)
    simp only [joinL] at this ⊢
    simp [this]
theorem o_joinE {μ : Mu} {ys : List Str} {P : D → Prop} (h : (ys.map (·.length)).sum + ys.length * (0 : Nat) ≤ 1000000) : OkO (fJoin μ (.str "") (.lst (ys.map D.str))) P = P (.str (Txt.join "" ys)) := by
  have e : strsOf (ys.map D.str) = some ys := strsOf_map ys
  have e2 : (("" : Str).length) = 0 := by decide +kernel
  unfold fJoin
  show OkO (match strsOf (ys.map D.str) with | some ys => if (ys.map (·.length)).sum + ys.length * ("" : Str).length ≤ 1000000 then some (D.str (Txt.join "" ys)) else none | none => none) P = _
  rw [e, e2]
  simp only [h, if_true]
  rfl
theorem join_word (ls : List Let) : Txt.join "" (ls.map fun l => (⟨#[l.c]⟩ : Str)) = word ls := by
  have et : tl (Txt.join "" (ls.map fun l => (⟨#[l.c]⟩ : Str))) = ls.map Let.c := by
    rw [join_eq, tl_join, show tl ("" : Str) = [] from by decide +kernel, joinL_nil, List.map_map]
    induction ls with
    | nil => rfl
    | cons c cs ih => rw [List.map_cons, List.flatten_cons, ih]; rfl
  have e2 : tl (word ls) = ls.map Let.c := by
    unfold tl word
    simp
  have : ∀ a b : Str, tl a = tl b → a = b := fun a b h => by
    cases a
    cases b
    exact congrArg Str.mk (Array.ext' h)
  exact this _ _ (et.trans e2.symm)
theorem stroll_spec {z : Str} (hz : LtS z) {n : Nat} {μ : Mu} {Q : D → Mu → Prop} (h : Wl n μ) (q : ∀ ls μ', Wl n μ' → Gr n μ μ' → ls.length ≤ 24 → (∀ l ∈ ls, isEN l = true) → Q (.str (word ls)) μ') : Ok (m__law_stroll [.loc n, .str z, .int 24] μ) Q := by
  unfold m__law_stroll
  simp_arith
  refine ⟨rfl, ?_⟩
  refine dip_spec h (by decide) (by decide) fun c μ1 w1 g1 c0 c1 => ?_
  simp_arith
  refine ⟨by omega, by rw [rngD_len]; omega, ?_⟩
  refine (ok_lcInv (fun acc rest μ' => Wl n μ' ∧ Gr n μ μ' ∧ acc.length + rest.length ≤ 24 ∧ ∃ cs : List Let, acc = cs.map chD ∧ ∀ c ∈ cs, isEN c = true) _ [] _ ⟨w1, g1, by rw [rngD_len]; simp; omega, [], rfl, fun c hc => by cases hc⟩ ?_).mono ?_
  · rintro acc d rest μ2 ⟨w2, g2, hl, cs, rfl, hc⟩
    rw [List.length_cons] at hl
    simp_arith
    refine letter_spec hz w2 fun c μ3 oc w3 g3 => ?_
    refine ⟨w3, g2.trans g3, by rw [List.length_append, List.length_singleton]; omega, cs ++ [c], by simp, fun k hk => ?_⟩
    rcases List.mem_append.mp hk with z | z
    · exact hc k z
    · rw [List.mem_singleton.mp z]; exact oc
  · rintro ys μ2 ⟨w2, g2, hl, cs, rfl, hc⟩
    simp only [List.nil_append, List.length_map, List.length_nil, Nat.add_zero] at hl
    have e : (cs.map chD) = (cs.map fun c => (⟨#[c.c]⟩ : Str)).map D.str := by rw [List.map_map]; rfl
    have sm : ((cs.map fun c => (⟨#[c.c]⟩ : Str)).map (·.length)).sum = cs.length := by
      clear hl hc e
      induction cs with
      | nil => rfl
      | cons c cs ih => rw [List.map_cons, List.map_cons, List.sum_cons, ih, List.length_cons]; show 1 + cs.length = _; omega
    simp_arith [e]
    rw [o_joinE (by rw [sm, List.length_map]; omega), join_word]
    exact q cs μ2 w2 g2 hl hc
theorem cnt_le : ∀ (n x y : Nat) (a : Int), x + y = n → cnt x y a ≤ 2 ^ n
  | 0, x, y, a, hn => by
    obtain ⟨rfl, rfl⟩ : x = 0 ∧ y = 0 := ⟨by omega, by omega⟩
    unfold cnt
    rw [O_00]
    split <;> simp
  | n + 1, x, y, a, hn => by
    rw [cnt_step (by omega), Nat.pow_succ]
    have h1 : (oE x y a).length ≤ 2 ^ n := by
      cases x with
      | zero => exact Nat.zero_le _
      | succ x => exact cnt_le n x y _ (by omega)
    have h2 : (oN x y a).length ≤ 2 ^ n := by
      cases y with
      | zero => exact Nat.zero_le _
      | succ y => exact cnt_le n x y _ (by omega)
    omega
section
variable {n : Nat} {o1 o2 o3 o4 o5 o6 o7 o8 o9 o10 o11 : Option D} {μ : Mu} {N B C : Gam → Mu → Prop} {T : D → Mu → Prop}
theorem sr2 (h : Wl n μ) (q : ∀ ls μ', Wl n μ' → Gr n μ μ' → ls.length ≤ 24 → (∀ l ∈ ls, isEN l = true) → N [some (.loc n), o1, o2, o3, o4, o5, o6, o7, o8, some (.str (word ls)), o10, o11] μ') : OkS (r2 [some (.loc n), o1, o2, o3, o4, o5, o6, o7, o8, o9, o10, o11] μ) N B C T := by
  unfold r2
  simp_arith
  refine oneof_spec h (by simp) (by simp) fun d hd μ1 w1 g1 => ?_
  obtain ⟨z, rfl, hz⟩ : ∃ z, d = .str z ∧ LtS z := by
    simp only [List.mem_cons, List.not_mem_nil, or_false] at hd
    rcases hd with rfl | rfl | rfl
    · exact ⟨_, rfl, .inl rfl⟩
    · exact ⟨_, rfl, .inr (.inl rfl)⟩
    · exact ⟨_, rfl, .inr (.inr rfl)⟩
  try simp_arith
  refine stroll_spec hz w1 fun ls μ2 w2 g2 hl he => ?_
  try simp_arith
  exact q ls μ2 w2 (g1.trans g2) hl he
theorem sr3 {x y k : Nat} {a : Int} {w : List Let} (hxy : x + y ≤ 24) (hw : (O x y a)[k]? = some w) (q : ∀ μ', Ey μ μ' → N [some (.loc n), o1, o2, o3, o4, some (gD x y a), o6, o7, o8, some (.str (word w)), some (.int (k : Nat)), o11] μ') : OkS (r3 [some (.loc n), o1, o2, o3, o4, o5, o6, o7, o8, some (.str (word w)), o10, o11] μ) N B C T := by
  have hm := List.mem_of_getElem? hw
  have hl := O_len hm
  unfold r3
  simp_arith
  refine walked_spec (by omega) ?_
  rw [O_way hm]
  try simp_arith
  refine place_spec hxy hw fun μ1 e1 => ?_
  try simp_arith
  exact q μ1 e1
theorem sr4 {x y k : Nat} {a : Int} {w : List Let} (hxy : x + y ≤ 24) (hw : (O x y a)[k]? = some w) (q : ∀ μ', Ey μ μ' → N [some (.loc n), o1, o2, o3, o4, some (gD x y a), o6, o7, o8, some (.str (word w)), some (.int (k : Nat)), o11] μ') : OkS (r4 [some (.loc n), o1, o2, o3, o4, some (gD x y a), o6, o7, o8, some (.str (word w)), some (.int (k : Nat)), o11] μ) N B C T := by
  have hk : k < cnt x y a := (List.getElem?_eq_some_iff.mp hw).1
  unfold r4
  simp_arith
  refine walk_spec hxy hw fun μ1 e1 => ?_
  try simp_arith
  refine o_ne_self (d := .str (word w)) rfl ?_
  simp_arith [↓ok_inRg]
  refine walks_spec hxy fun μ2 e2 => ?_
  refine ⟨_, _, rfl, rfl, ?_⟩
  have h1 : (0 : Int) ≤ (k : Nat) ∧ ((k : Nat) : Int) < (cnt x y a : Nat) := ⟨by omega, by omega⟩
  simp_arith [h1]
  exact q μ2 (e1.trans e2)
theorem sr5 {x y : Nat} {a : Int} (hxy : x + y ≤ 24) (hc : 0 < cnt x y a) (h : Wl n μ) (q : ∀ (k : Nat) μ', k < cnt x y a → Wl n μ' → Gr n μ μ' → N [some (.loc n), o1, o2, o3, o4, some (gD x y a), o6, o7, o8, o9, o10, some (.int (k : Nat))] μ') : OkS (r5 [some (.loc n), o1, o2, o3, o4, some (gD x y a), o6, o7, o8, o9, o10, o11] μ) N B C T := by
  have hb := cnt_le _ x y a rfl
  have h2 : (2 : Nat) ^ (x + y) ≤ 2 ^ 24 := Nat.pow_le_pow_right (by decide) hxy
  have h3 : (2 : Nat) ^ 24 < 1073741824 := by decide
  unfold r5
  simp_arith
  refine walks_spec hxy fun μ1 e1 => ?_
  refine dip_spec (e1.wl h) (by omega) (by omega) fun d μ2 w2 g2 d0 d1 => ?_
  obtain ⟨k, rfl⟩ := Int.eq_ofNat_of_zero_le d0
  try simp_arith
  exact q k μ2 (by omega) w2 (e1.gr.trans g2)
theorem sr6 {x y k : Nat} {a : Int} (hxy : x + y ≤ 24) (hk : k < cnt x y a) (q : ∀ μ', Ey μ μ' → T (.bl true) μ') : OkS (r6 [some (.loc n), o1, o2, o3, o4, some (gD x y a), o6, o7, o8, o9, o10, some (.int (k : Nat))] μ) N B C T := by
  obtain ⟨w, hw⟩ : ∃ w, (O x y a)[k]? = some w := ⟨_, List.getElem?_eq_getElem hk⟩
  have hm := List.mem_of_getElem? hw
  have hl := O_len hm
  unfold r6
  simp_arith
  refine walk_spec hxy hw fun μ1 e1 => ?_
  try simp_arith
  refine place_spec hxy hw fun μ2 e2 => ?_
  try simp_arith
  refine walk_spec hxy hw fun μ3 e3 => ?_
  try simp_arith
  refine walked_spec (by omega) ?_
  rw [O_way hm]
  try simp_arith
  exact q μ3 ((e1.trans e2).trans e3)
end
def Lg (tP : Str → Addr) (n : Nat) (Γ : Gam) (μ : Mu) : Prop := Wl n μ ∧ μ[0]? = some (.tab (tP "_law_right") (("_law_right" : Str) ++ ".<locals>." ++ "<lambda>")) ∧ ∃ o1 o2 o3 o4 o5 o6 o7 o8 o9 o10 o11, Γ = [some (.loc n), o1, o2, o3, o4, o5, o6, o7, o8, o9, o10, o11]
theorem call_spec {tP : Str → Addr} {n : Nat} {o1 o2 o3 o4 o5 o6 o7 o8 o9 o10 o11 : Option D} {μ : Mu} {N B C : Gam → Mu → Prop} {T : D → Mu → Prop} (hn : n ≠ 0) (h : Wl n μ) (h0 : μ[0]? = some (.tab (tP "_law_right") (("_law_right" : Str) ++ ".<locals>." ++ "<lambda>"))) (q : ∀ Γ μ', Lg tP n Γ μ' → N Γ μ') :
    OkS (cAll tP [some (.loc n), o1, o2, o3, o4, o5, o6, o7, o8, o9, o10, o11] μ) N B C T := by
  unfold cAll
  rw [oks_seq]
  refine st1 h fun x y hx hy μ1 w1 g1 => ?_
  rw [oks_seq]
  refine st2 hx hy w1 fun a hc μ2 w2 g2 => ?_
  rw [oks_seq]
  refine st3 hx hy ?_
  rw [oks_seq]
  refine st4 hx hy ?_
  rw [oks_seq]
  refine st5 hx hy fun o7 μ3 e3 => ?_
  have t3 := e3.at_ _ _ ((g1.trans g2).at_ 0 _ (Ne.symm hn) h0)
  rw [oks_seq]
  refine st6 hx hy hc t3 fun μ4 e4 => ?_
  refine st7 hx hy (e4.at_ _ _ t3) fun o8 μ5 e5 => ?_
  exact q _ _ ⟨e5.wl (e4.wl (e3.wl w2)), e5.at_ _ _ (e4.at_ _ _ t3), _, _, _, _, _, _, _, _, _, _, _, rfl⟩
theorem for3 {tP : Str → Addr} {n : Nat} {BD : DS} {Γ : Gam} {μ : Mu} {N B C : Gam → Mu → Prop} {T : D → Mu → Prop} (hb : ∀ o1 o2 o3 o4 o5 o6 o7 o8 o9 o10 o11 μ (N B C : Gam → Mu → Prop) (T : D → Mu → Prop), Wl n μ → μ[0]? = some (.tab (tP "_law_right") (("_law_right" : Str) ++ ".<locals>." ++ "<lambda>")) → (∀ Γ μ', Lg tP n Γ μ' → N Γ μ') → OkS (BD [some (.loc n), o1, o2, o3, o4, o5, o6, o7, o8, o9, o10, o11] μ) N B C T) (h : Lg tP n Γ μ) (q : ∀ Γ μ', Lg tP n Γ μ' → N Γ μ') :
    OkS (dFor (diRange1 (daCons (dC (.int 3)) (daNil))) (dgName 1) BD Γ μ) N B C T := by
  obtain ⟨h1, h2, o1, o2, o3, o4, o5, o6, o7, o8, o9, o10, o11, rfl⟩ := h
  simp_arith
  refine oks_forInv (fun pre rest Γ μ' => Lg tP n Γ μ') _ [] _ _ ⟨h1, h2, _, _, _, _, _, _, _, _, _, _, _, rfl⟩ ?_ ?_
  · rintro pre d rest Γ μ1 ⟨w1, t1, o1, o2, o3, o4, o5, o6, o7, o8, o9, o10, o11, rfl⟩
    simp_arith
    exact hb _ _ _ _ _ _ _ _ _ _ _ _ _ _ _ _ w1 t1 fun Γ μ' h => h
  · rintro pre Γ μ1 h
    exact q _ _ h
theorem rest_spec {tP : Str → Addr} {n : Nat} {Γ : Gam} {μ : Mu} {N B C : Gam → Mu → Prop} {T : D → Mu → Prop} (hn : n ≠ 0) (h : Lg tP n Γ μ) (q : ∀ μ', μ'[0]? = some (.tab (tP "_law_right") (("_law_right" : Str) ++ ".<locals>." ++ "<lambda>")) → T (.bl true) μ') :
    OkS ((dSeq r2 (dSeq r3 (dSeq r4 (dSeq r5 r6)))) Γ μ) N B C T := by
  obtain ⟨h1, h2, o1, o2, o3, o4, o5, o6, o7, o8, o9, o10, o11, rfl⟩ := h
  rw [oks_seq]
  refine sr2 h1 fun ls μ1 w1 g1 hl he => ?_
  obtain ⟨x, y, a, hw, hm⟩ := mem_O ls he
  have hlen := O_len hm
  have hc : 0 < cnt x y a := List.length_pos_of_mem hm
  obtain ⟨k, hk⟩ := List.mem_iff_getElem?.mp hm
  have t1 := g1.at_ 0 _ (Ne.symm hn) h2
  rw [oks_seq]
  refine sr3 (by omega) hk fun μ2 e2 => ?_
  rw [oks_seq]
  refine sr4 (by omega) hk fun μ3 e3 => ?_
  rw [oks_seq]
  refine sr5 (by omega) hc (e3.wl (e2.wl w1)) fun j μ4 hj w4 g4 => ?_
  refine sr6 (by omega) hj fun μ5 e5 => ?_
  exact q μ5 (e5.at_ _ _ (g4.at_ 0 _ (Ne.symm hn) (e3.at_ _ _ (e2.at_ _ _ t1))))
theorem right_spec {tP : Str → Addr} {n : Nat} {μ : Mu} {Q : D → Mu → Prop} (h : Wl n μ) (hn : n ≠ 0) (h0 : μ[0]? = some (.tab (tP "_law_right") (("_law_right" : Str) ++ ".<locals>." ++ "<lambda>"))) (q : ∀ μ', μ'[0]? = some (.tab (tP "_law_right") (("_law_right" : Str) ++ ".<locals>." ++ "<lambda>")) → Q (.bl true) μ') : Ok (m__law_right tP [.loc n] μ) Q := by
  have e : m__law_right tP = dDef 1 12 (dSeq (dFor (diRange1 (daCons (dC (.int 3)) (daNil))) (dgName 1) (cAll tP)) (dSeq r2 (dSeq r3 (dSeq r4 (dSeq r5 r6))))) := by
    unfold m__law_right
    rfl
  rw [e]
  have hb := fun o1 o2 o3 o4 o5 o6 o7 o8 o9 o10 o11 μ (N B C : Gam → Mu → Prop) (T : D → Mu → Prop) h h0 q => call_spec (tP := tP) (n := n) (o1 := o1) (o2 := o2) (o3 := o3) (o4 := o4) (o5 := o5) (o6 := o6) (o7 := o7) (o8 := o8) (o9 := o9) (o10 := o10) (o11 := o11) (μ := μ) (N := N) (B := B) (C := C) (T := T) hn h h0 q
  have hr := fun Γ μ (N B C : Gam → Mu → Prop) (T : D → Mu → Prop) h q => rest_spec (tP := tP) (n := n) (Γ := Γ) (μ := μ) (N := N) (B := B) (C := C) (T := T) hn h q
  generalize (dSeq r2 (dSeq r3 (dSeq r4 (dSeq r5 r6)))) = RS at *
  generalize cAll tP = CS at *
  have hf : ∀ Γ μ (N B C : Gam → Mu → Prop) (T : D → Mu → Prop), Lg tP n Γ μ → (∀ Γ μ', Lg tP n Γ μ' → N Γ μ') → OkS (dFor (diRange1 (daCons (dC (.int 3)) (daNil))) (dgName 1) CS Γ μ) N B C T := fun Γ μ N B C T h q => for3 hb h q
  generalize dFor (diRange1 (daCons (dC (.int 3)) (daNil))) (dgName 1) CS = FS at *
  simp_arith
  refine hf _ _ _ _ _ _ ⟨h, h0, _, _, _, _, _, _, _, _, _, _, _, rfl⟩ fun Γ1 μ1 h1 => ?_
  try simp_arith
  exact hr _ _ _ _ _ _ h1 q
theorem law_true (tP : Str → Addr) (ns : List Int) (hn : ns.length ≤ 63) : ∃ μ, m_law tP [.scr (ns.map .int)] [.tab (tP "_law_right") (("_law_right" : Str) ++ ".<locals>." ++ "<lambda>")] = .ok (.bl true) μ := by
  refine ok_end ?_
  generalize hμ : ([.tab (tP "_law_right") (("_law_right" : Str) ++ ".<locals>." ++ "<lambda>")] : Mu) = μ0
  have h00 : μ0[0]? = some (.tab (tP "_law_right") (("_law_right" : Str) ++ ".<locals>." ++ "<lambda>")) := by rw [← hμ]; rfl
  clear hμ
  unfold m_law
  simp_arith
  have hz : ∀ m : Int, 0 ≤ m → m ≤ 63 → m.natAbs < 2305843009213693952 ∧ LenLe (rngD 0 m.toNat) 1000000 (Ok (lcL (dgName 1) dYes (dCall (m__law_right tP) (daCons (dCall m__law_well (daCons (dVar 0) (daCons (dVar 1) daNil))) daNil)) [some (D.scr (List.map D.int ns)), none] (rngD 0 m.toNat) μ0) fun ys μ2 => OkO (fAll μ2 [D.lst ys]) fun z => z = D.bl true) := by
    intro m h0 h1
    refine ⟨by omega, by rw [rngD_len]; omega, ?_⟩
    refine (ok_lcInv (fun acc rest μ' => (∀ d ∈ acc, d = D.bl true) ∧ (∀ d ∈ rest, ∃ i : Int, d = .int i ∧ 0 ≤ i) ∧ μ'[0]? = some (.tab (tP "_law_right") (("_law_right" : Str) ++ ".<locals>." ++ "<lambda>"))) _ [] _ ⟨fun d hd => (by cases hd), fun d hd => (by obtain ⟨i, e, h, _⟩ := rng_nat hd; exact ⟨i, e, h⟩), h00⟩ ?_).mono fun ys μ2 hy => all_true hy.1 rfl
    rintro acc d rest μ' ⟨ha, hr, ht⟩
    obtain ⟨i, rfl, hi⟩ := hr d List.mem_cons_self
    have hlen : μ'.length ≠ 0 := by
      intro e
      rw [List.getElem?_eq_none (by omega)] at ht
      cases ht
    simp_arith
    refine well_spec hi hn fun μ3 h3 g3 => right_spec h3 hlen (g3.at_ 0 _ hlen.symm ht) fun μ4 t4 => ⟨fun d hd => ?_, fun d hd => hr d (List.mem_cons_of_mem _ hd), t4⟩
    rcases List.mem_append.mp hd with z | z
    · exact ha d z
    · exact List.mem_singleton.mp z
  refine hz _ ?_ ?_
  · repeat' split
    all_goals omega
  · rw [List.length_map]
    repeat' split
    all_goals omega

end A10

set_option Elab.async false
set_option linter.all false
set_option maxRecDepth 100000
set_option maxHeartbeats 0
namespace A10
open PySem PySem.Spec PyProof.Rows L2 Ar
section
variable {P : Program} {w : World} {K : PySem.W.Frag} {mg : Str → Option Value} {base : Heap} {f : Addr} {fd : FuncData}
theorem sc__law_well : FnScope (["cells", "turn", "cell", "stirred", "each"] : List Str) (["cells", "turn"] : List Str) (defScope s__law_well) := ⟨rfl, rfl, rfl, by decide +kernel, rfl, by decide +kernel, by decide +kernel⟩
theorem ok__law_well (F : FunD K "_law_well" "_law_well" (defArgs s__law_well) (defBody s__law_well) (defScope s__law_well) [] [] f fd) (b_abs : mg "abs" = none) (b_int : mg "int" = none) (b_len : mg "len" = none) : Pm P w K mg base (L2.CX P w) 1 f fd (["cells", "turn"] : List Str) (spM K m__law_well) := by unfold m__law_well; exact fn_ok F sc__law_well rfl rfl fun cdv A outer s H E hr => have hu := hr.units; have hg := hr.g; qs_cons (q_set 2 sc__law_well.nd (q_if (qt_cmp od_lt (qv 1) (q_callB (cd_len) b_len rfl (qa_cons (qv 0) (qa_nil)))) (q_ix (qv 0) (qv 1)) (q_op od_add (q_op od_mul (q_int) (qv 1)) (q_int)))) (qs_cons (q_set 3 sc__law_well.nd (q_op od_add (q_int) (q_op od_mul (q_int) (qv 1)))) (qs_cons (q_for (passes_of rfl) rfl (qi_seq (q_op od_add (q_sl (qv 0) (qo_none) (qo_some (q_int))) (q_lst (qa_cons (qv 2) (qa_nil))))) (qg_name 4 sc__law_well.nd) (qs_one (q_set 3 sc__law_well.nd (q_op od_modI (q_callTy cd_int b_int rfl (qa_cons (q_op od_add (q_op od_add (q_op od_mul (qv 3) (q_int)) (q_op od_mul (qv 4) (q_int))) (q_int)) (qa_nil))) (q_int))))) (qs_one (q_ret (q_lstM (qa_cons (q_if (qt_w (qw_or (qt_cmp od_lt (qv 2) (q_int)) (qw_one_or (qt_cmp od_ge (qv 2) (q_op od_powI (q_int) (q_int)))))) (q_callB (cd_abs) b_abs rfl (qa_cons (qv 2) (qa_nil))) (q_int)) (qa_cons (qv 3) (qa_cons (q_int) (qa_nil)))))))))
theorem sc_is_walk : FnScope (["value", "letters", "letter"] : List Str) (["value", "letters"] : List Str) (defScope s_is_walk) := ⟨rfl, rfl, rfl, by decide +kernel, rfl, by decide +kernel, by decide +kernel⟩
theorem ok_is_walk (F : FunD K "is_walk" "is_walk" (defArgs s_is_walk) (defBody s_is_walk) (defScope s_is_walk) [] [] f fd) (b_all : mg "all" = none) (b_isinstance : mg "isinstance" = none) (b_str : mg "str" = none) : Pm P w K mg base (L2.CX P w) 1 f fd (["value", "letters"] : List Str) (spM K m_is_walk) := by unfold m_is_walk; exact fn_ok F sc_is_walk rfl rfl fun cdv A outer s H E hr => have hu := hr.units; have hg := hr.g; qs_one (q_ret (q_and (q_callB (cd_isa) b_isinstance rfl (qa_cons (qv 0) (qa_cons (q_ty b_str rfl) (qa_nil)))) (q_one (q_callB (cd_all rfl) b_all rfl (qa_cons (q_lc [("letter", 2)] fin_L rfl sc_is_walk.nd (qi_seq (qv 0)) (blk rfl (by kernel_rfl) (by kernel_rfl) (by kernel_rfl) (by kernel_rfl)) (qgb_name 2 sc_is_walk.nd) (fun _ _ _ _ _ => qts_nil) (fun _ _ _ _ _ => q_cmp (od_in hu) (qv 2) (qv 1))) (qa_nil))))))
theorem sc_then_move : FnScope (["one", "other"] : List Str) (["one", "other"] : List Str) (defScope s_then_move) := ⟨rfl, rfl, rfl, by decide +kernel, rfl, by decide +kernel, by decide +kernel⟩
theorem ok_then_move (F : FunD K "then_move" "then_move" (defArgs s_then_move) (defBody s_then_move) (defScope s_then_move) [] [] f fd) : Pm P w K mg base (L2.CX P w) 1 f fd (["one", "other"] : List Str) (spM K m_then_move) := by unfold m_then_move; exact fn_ok F sc_then_move rfl rfl fun cdv A outer s H E hr => have hu := hr.units; have hg := hr.g; qs_one (q_ret (q_tup (qa_cons (q_op od_add (q_ix (qv 0) (q_int)) (q_ix (qv 1) (q_int))) (qa_cons (q_op od_add (q_ix (qv 0) (q_int)) (q_ix (qv 1) (q_int))) (qa_cons (q_op od_add (q_op od_add (q_ix (qv 0) (q_int)) (q_ix (qv 1) (q_int))) (q_op od_mul (q_ix (qv 0) (q_int)) (q_ix (qv 1) (q_int)))) (qa_nil))))))
theorem sc_walk_move : FnScope (["walk", "found", "letter"] : List Str) (["walk"] : List Str) (defScope s_walk_move) := ⟨rfl, rfl, rfl, by decide +kernel, rfl, by decide +kernel, by decide +kernel⟩
theorem ok_walk_move (F : FunD K "walk_move" "walk_move" (defArgs s_walk_move) (defBody s_walk_move) (defScope s_walk_move) [] [] f fd) (k_PLAIN : GloC K mg "PLAIN" (.tup [.int 0, .int 0, .int 0])) (k_STEPS : DctC K w mg "STEPS" [("e", .tup [.int 1, .int 0, .int 0]), ("n", .tup [.int 0, .int 1, .int 0]), ("w", .tup [.int (-1), .int 0, .int 0]), ("s", .tup [.int 0, .int (-1), .int 0])]) (c_then_move : FnG P w K mg base "then_move" 1 m_then_move) : Pm P w K mg base (L2.CX P w) 2 f fd (["walk"] : List Str) (spM K m_walk_move) := by unfold m_walk_move; exact fn_ok F sc_walk_move rfl rfl fun cdv A outer s H E hr => have hu := hr.units; have hg := hr.g; qs_cons (q_set 1 sc_walk_move.nd (q_glob k_PLAIN.v)) (qs_cons (q_for (passes_of rfl) rfl (qi_seq (qv 0)) (qg_name 2 sc_walk_move.nd) (qs_one (q_set 1 sc_walk_move.nd (q_call c_then_move (hr.mono (by decide)) (passes_call (takes_of rfl rfl rfl rfl) fun _ _ _ _ h => h) (qa_cons (qv 1) (qa_cons (q_ixK k_STEPS (qv 2)) (qa_nil))))))) (qs_one (q_ret (qv 1))))
theorem sc_walked : FnScope (["walk"] : List Str) (["walk"] : List Str) (defScope s_walked) := ⟨rfl, rfl, rfl, by decide +kernel, rfl, by decide +kernel, by decide +kernel⟩
theorem ok_walked (F : FunD K "walked" "walked" (defArgs s_walked) (defBody s_walked) (defScope s_walked) [] [] f fd) (c_is_walk : FnG P w K mg base "is_walk" 1 m_is_walk) (c_walk_move : FnG P w K mg base "walk_move" 2 m_walk_move) : Pm P w K mg base (L2.CX P w) 3 f fd (["walk"] : List Str) (spM K m_walked) := by unfold m_walked; exact fn_ok F sc_walked rfl rfl fun cdv A outer s H E hr => have hu := hr.units; have hg := hr.g; qs_cons (q_ifS (qt_not (qt_tru (q_call c_is_walk (hr.mono (by decide)) (passes_call (takes_of rfl rfl rfl rfl) fun _ _ _ _ h => h) (qa_cons (qv 0) (qa_cons (q_str) (qa_nil)))))) (qs_one (q_never)) (qs_nil)) (qs_one (q_ret (q_call c_walk_move (hr.mono (by decide)) (passes_call (takes_of rfl rfl rfl rfl) fun _ _ _ _ h => h) (qa_cons (qv 0) (qa_nil)))))
theorem sc_areas_of : FnScope (["east", "north", "rows", "side", "later", "upper", "found", "area", "many"] : List Str) (["east", "north"] : List Str) (defScope s_areas_of) := ⟨rfl, rfl, rfl, by decide +kernel, rfl, by decide +kernel, by decide +kernel⟩
theorem ok_areas_of (F : FunD K "areas_of" "areas_of" (defArgs s_areas_of) (defBody s_areas_of) (defScope s_areas_of) [] [] f fd) (b_enumerate : mg "enumerate" = none) (b_range : mg "range" = none) : Pm P w K mg base (L2.CX P w) 1 f fd (["east", "north"] : List Str) (spM K m_areas_of) := by unfold m_areas_of; exact fn_ok F sc_areas_of rfl rfl fun cdv A outer s H E hr => have hu := hr.units; have hg := hr.g; qs_cons (q_setLc 2 [("upper", 5)] fin_L rfl sc_areas_of.nd (qi_range1 b_range (qa_cons (q_op od_add (qv 1) (q_int)) (qa_nil))) (blk rfl (by kernel_rfl) (by kernel_rfl) (by kernel_rfl) (by kernel_rfl)) (qgb_name 5 sc_areas_of.nd) (fun _ _ _ _ _ => qts_nil) (fun _ _ _ _ _ => q_lst (qa_cons (q_int) (qa_nil))) rfl) (qs_cons (q_for (passes_of rfl) rfl (qi_range2 b_range (qa_cons (q_int) (qa_cons (q_op od_add (qv 0) (q_int)) (qa_nil)))) (qg_name 3 sc_areas_of.nd) (qs_cons (q_set 4 sc_areas_of.nd (q_lstM (qa_cons (q_lst (qa_cons (q_int) (qa_nil))) (qa_nil)))) (qs_cons (q_for (passes_of rfl) rfl (qi_range2 b_range (qa_cons (q_int) (qa_cons (q_op od_add (qv 1) (q_int)) (qa_nil)))) (qg_name 5 sc_areas_of.nd) (qs_cons (q_set 6 sc_areas_of.nd (q_mulM (q_lst (qa_cons (q_int) (qa_nil))) (q_op od_add (q_op od_mul (qv 3) (qv 5)) (q_int)))) (qs_cons (q_for (passes_of rfl) rfl (qi_enum b_enumerate (qa_cons (q_ix (qv 2) (qv 5)) (qa_nil))) (qg_tup rfl (qgs_cons (qg_name 7 sc_areas_of.nd) (qgs_cons (qg_name 8 sc_areas_of.nd) (qgs_nil)))) (qs_one (q_augS ipd_add (qv 6) (q_op od_add (qv 7) (qv 5)) (qv 8)))) (qs_cons (q_for (passes_of rfl) rfl (qi_enum b_enumerate (qa_cons (q_ix (qv 4) (q_op od_subI (qv 5) (q_int))) (qa_nil))) (qg_tup rfl (qgs_cons (qg_name 7 sc_areas_of.nd) (qgs_cons (qg_name 8 sc_areas_of.nd) (qgs_nil)))) (qs_one (q_augS ipd_add (qv 6) (qv 7) (qv 8)))) (qs_one (q_expr (q_append (qv 4) (qv 6)))))))) (qs_one (q_set 2 sc_areas_of.nd (qv 4)))))) (qs_one (q_ret (q_ix (qv 2) (qv 1)))))
theorem sc_direct_count : FnScope (["move", "x", "y", "s"] : List Str) (["move"] : List Str) (defScope s_direct_count) := ⟨rfl, rfl, rfl, by decide +kernel, rfl, by decide +kernel, by decide +kernel⟩
theorem ok_direct_count (F : FunD K "direct_count" "direct_count" (defArgs s_direct_count) (defBody s_direct_count) (defScope s_direct_count) [] [] f fd) (c_areas_of : FnG P w K mg base "areas_of" 1 m_areas_of) : Pm P w K mg base (L2.CX P w) 2 f fd (["move"] : List Str) (spM K m_direct_count) := by unfold m_direct_count; exact fn_ok F sc_direct_count rfl rfl fun cdv A outer s H E hr => have hu := hr.units; have hg := hr.g; qs_cons (q_asg (qv 0) (qg_tup rfl (qgs_cons (qg_name 1 sc_direct_count.nd) (qgs_cons (qg_name 2 sc_direct_count.nd) (qgs_cons (qg_name 3 sc_direct_count.nd) (qgs_nil)))))) (qs_cons (q_ifS (qt_w (qw_or (qt_cmp od_lt (qv 1) (q_int)) (qw_or (qt_cmp od_lt (qv 2) (q_int)) (qw_one_or (qt_not (qt_chain od_le od_le (q_int) (qv 3) (q_op od_mul (qv 1) (qv 2)))))))) (qs_one (q_ret (q_int))) (qs_nil)) (qs_one (q_ret (q_ix (q_call c_areas_of (hr.mono (by decide)) (passes_call (takes_of rfl rfl rfl rfl) fun _ _ _ _ h => h) (qa_cons (qv 1) (qa_cons (qv 2) (qa_nil)))) (qv 3)))))
theorem sc_is_integer : FnScope (["value"] : List Str) (["value"] : List Str) (defScope s_is_integer) := ⟨rfl, rfl, rfl, by decide +kernel, rfl, by decide +kernel, by decide +kernel⟩
theorem ok_is_integer (F : FunD K "is_integer" "is_integer" (defArgs s_is_integer) (defBody s_is_integer) (defScope s_is_integer) [] [] f fd) (b_bool : mg "bool" = none) (b_int : mg "int" = none) (b_isinstance : mg "isinstance" = none) : Pm P w K mg base (L2.CX P w) 1 f fd (["value"] : List Str) (spM K m_is_integer) := by unfold m_is_integer; exact fn_ok F sc_is_integer rfl rfl fun cdv A outer s H E hr => have hu := hr.units; have hg := hr.g; qs_one (q_ret (q_and (q_callB (cd_isa) b_isinstance rfl (qa_cons (qv 0) (qa_cons (q_ty b_int rfl) (qa_nil)))) (q_one (q_not (q_callB (cd_isa) b_isinstance rfl (qa_cons (qv 0) (qa_cons (q_ty b_bool rfl) (qa_nil))))))))
theorem sc_is_move : FnScope (["value", "part"] : List Str) (["value"] : List Str) (defScope s_is_move) := ⟨rfl, rfl, rfl, by decide +kernel, rfl, by decide +kernel, by decide +kernel⟩
theorem ok_is_move (F : FunD K "is_move" "is_move" (defArgs s_is_move) (defBody s_is_move) (defScope s_is_move) [] [] f fd) (b_all : mg "all" = none) (b_isinstance : mg "isinstance" = none) (b_len : mg "len" = none) (b_tuple : mg "tuple" = none) (c_is_integer : FnG P w K mg base "is_integer" 1 m_is_integer) : Pm P w K mg base (L2.CX P w) 2 f fd (["value"] : List Str) (spM K m_is_move) := by unfold m_is_move; exact fn_ok F sc_is_move rfl rfl fun cdv A outer s H E hr => have hu := hr.units; have hg := hr.g; qs_one (q_ret (q_and (q_callB (cd_isa) b_isinstance rfl (qa_cons (qv 0) (qa_cons (q_ty b_tuple rfl) (qa_nil)))) (q_and (q_cmp (od_eq hu) (q_callB (cd_len) b_len rfl (qa_cons (qv 0) (qa_nil))) (q_int)) (q_one (q_callB (cd_all rfl) b_all rfl (qa_cons (q_lc [("part", 1)] fin_L rfl sc_is_move.nd (qi_seq (qv 0)) (blk rfl (by kernel_rfl) (by kernel_rfl) (by kernel_rfl) (by kernel_rfl)) (qgb_name 1 sc_is_move.nd) (fun _ _ _ _ _ => qts_nil) (fun _ _ _ _ _ => q_call c_is_integer (hr.mono (by decide)) passL (qa_cons (qv 1) (qa_nil)))) (qa_nil)))))))
theorem sc_check_move : FnScope (["value"] : List Str) (["value"] : List Str) (defScope s_check_move) := ⟨rfl, rfl, rfl, by decide +kernel, rfl, by decide +kernel, by decide +kernel⟩
theorem ok_check_move (F : FunD K "check_move" "check_move" (defArgs s_check_move) (defBody s_check_move) (defScope s_check_move) [] [] f fd) (c_is_move : FnG P w K mg base "is_move" 2 m_is_move) : Pm P w K mg base (L2.CX P w) 3 f fd (["value"] : List Str) (spM K m_check_move) := by unfold m_check_move; exact fn_ok F sc_check_move rfl rfl fun cdv A outer s H E hr => have hu := hr.units; have hg := hr.g; qs_one (q_ifS (qt_not (qt_tru (q_call c_is_move (hr.mono (by decide)) (passes_call (takes_of rfl rfl rfl rfl) fun _ _ _ _ h => h) (qa_cons (qv 0) (qa_nil))))) (qs_one (q_never)) (qs_nil))
theorem sc_check_direct : FnScope (["move"] : List Str) (["move"] : List Str) (defScope s_check_direct) := ⟨rfl, rfl, rfl, by decide +kernel, rfl, by decide +kernel, by decide +kernel⟩
theorem ok_check_direct (F : FunD K "check_direct" "check_direct" (defArgs s_check_direct) (defBody s_check_direct) (defScope s_check_direct) [] [] f fd) (k_MOST_DIRECT : GloC K mg "MOST_DIRECT" (.int 24)) (c_check_move : FnG P w K mg base "check_move" 3 m_check_move) : Pm P w K mg base (L2.CX P w) 4 f fd (["move"] : List Str) (spM K m_check_direct) := by unfold m_check_direct; exact fn_ok F sc_check_direct rfl rfl fun cdv A outer s H E hr => have hu := hr.units; have hg := hr.g; qs_cons (q_expr (q_call c_check_move (hr.mono (by decide)) (passes_call (takes_of rfl rfl rfl rfl) fun _ _ _ _ h => h) (qa_cons (qv 0) (qa_nil)))) (qs_one (q_ifS (qt_w (qw_and (qt_cmp od_ge (q_ix (qv 0) (q_int)) (q_int)) (qw_and (qt_cmp od_ge (q_ix (qv 0) (q_int)) (q_int)) (qw_one_and (qt_cmp od_gt (q_op od_add (q_ix (qv 0) (q_int)) (q_ix (qv 0) (q_int))) (q_glob k_MOST_DIRECT.v)))))) (qs_one (q_never)) (qs_nil)))
theorem sc_direct_walks : FnScope (["move"] : List Str) (["move"] : List Str) (defScope s_direct_walks) := ⟨rfl, rfl, rfl, by decide +kernel, rfl, by decide +kernel, by decide +kernel⟩
theorem ok_direct_walks (F : FunD K "direct_walks" "direct_walks" (defArgs s_direct_walks) (defBody s_direct_walks) (defScope s_direct_walks) [] [] f fd) (c_check_direct : FnG P w K mg base "check_direct" 4 m_check_direct) (c_direct_count : FnG P w K mg base "direct_count" 2 m_direct_count) : Pm P w K mg base (L2.CX P w) 5 f fd (["move"] : List Str) (spM K m_direct_walks) := by unfold m_direct_walks; exact fn_ok F sc_direct_walks rfl rfl fun cdv A outer s H E hr => have hu := hr.units; have hg := hr.g; qs_cons (q_expr (q_call c_check_direct (hr.mono (by decide)) (passes_call (takes_of rfl rfl rfl rfl) fun _ _ _ _ h => h) (qa_cons (qv 0) (qa_nil)))) (qs_one (q_ret (q_call c_direct_count (hr.mono (by decide)) (passes_call (takes_of rfl rfl rfl rfl) fun _ _ _ _ h => h) (qa_cons (qv 0) (qa_nil)))))
theorem sc_is_count : FnScope (["value"] : List Str) (["value"] : List Str) (defScope s_is_count) := ⟨rfl, rfl, rfl, by decide +kernel, rfl, by decide +kernel, by decide +kernel⟩
theorem ok_is_count (F : FunD K "is_count" "is_count" (defArgs s_is_count) (defBody s_is_count) (defScope s_is_count) [] [] f fd) (c_is_integer : FnG P w K mg base "is_integer" 1 m_is_integer) : Pm P w K mg base (L2.CX P w) 2 f fd (["value"] : List Str) (spM K m_is_count) := by unfold m_is_count; exact fn_ok F sc_is_count rfl rfl fun cdv A outer s H E hr => have hu := hr.units; have hg := hr.g; qs_one (q_ret (q_and (q_call c_is_integer (hr.mono (by decide)) (passes_call (takes_of rfl rfl rfl rfl) fun _ _ _ _ h => h) (qa_cons (qv 0) (qa_nil))) (q_one (q_cmp od_ge (qv 0) (q_int)))))
theorem sc_direct_walk : FnScope (["move", "index", "many", "x", "y", "s", "found", "left", "ahead"] : List Str) (["move", "index"] : List Str) (defScope s_direct_walk) := ⟨rfl, rfl, rfl, by decide +kernel, rfl, by decide +kernel, by decide +kernel⟩
theorem ok_direct_walk (F : FunD K "direct_walk" "direct_walk" (defArgs s_direct_walk) (defBody s_direct_walk) (defScope s_direct_walk) [] [] f fd) (ex_InvalidIndex : ExG P w K mg base "InvalidIndex" "given") (e0_NoWalk : Ex0 K mg "NoWalk") (c_check_direct : FnG P w K mg base "check_direct" 4 m_check_direct) (c_direct_count : FnG P w K mg base "direct_count" 2 m_direct_count) (c_is_count : FnG P w K mg base "is_count" 2 m_is_count) : Pm P w K mg base (L2.CX P w) 5 f fd (["move", "index"] : List Str) (spM K m_direct_walk) := by unfold m_direct_walk; exact fn_ok F sc_direct_walk rfl rfl fun cdv A outer s H E hr => have hu := hr.units; have hg := hr.g; qs_cons (q_expr (q_call c_check_direct (hr.mono (by decide)) (passes_call (takes_of rfl rfl rfl rfl) fun _ _ _ _ h => h) (qa_cons (qv 0) (qa_nil)))) (qs_cons (q_set 2 sc_direct_walk.nd (q_call c_direct_count (hr.mono (by decide)) (passes_call (takes_of rfl rfl rfl rfl) fun _ _ _ _ h => h) (qa_cons (qv 0) (qa_nil)))) (qs_cons (q_ifS (qt_cmp (od_eq hu) (qv 2) (q_int)) (qs_one (q_raise0 e0_NoWalk rfl (takes_of rfl rfl rfl rfl))) (qs_nil)) (qs_cons (q_ifS (qt_w (qw_or (qt_not (qt_tru (q_call c_is_count (hr.mono (by decide)) (passes_call (takes_of rfl rfl rfl rfl) fun _ _ _ _ h => h) (qa_cons (qv 1) (qa_nil))))) (qw_one_or (qt_cmp od_ge (qv 1) (qv 2))))) (qs_one (q_raise ex_InvalidIndex rfl (hr.mono (by decide)) (takes_of rfl rfl rfl rfl) (qa_cons (qv 1) (qa_nil)))) (qs_nil)) (qs_cons (q_asg (qv 0) (qg_tup rfl (qgs_cons (qg_name 3 sc_direct_walk.nd) (qgs_cons (qg_name 4 sc_direct_walk.nd) (qgs_cons (qg_name 5 sc_direct_walk.nd) (qgs_nil)))))) (qs_cons (q_par 6 7 rfl sc_direct_walk.nd (qa_cons (q_str) (qa_cons (qv 1) (qa_nil)))) (qs_cons (q_while (passes_of rfl) (qt_cmp od_gt (q_op od_add (qv 3) (qv 4)) (q_int)) (qs_cons (q_set 8 sc_direct_walk.nd (q_call c_direct_count (hr.mono (by decide)) (passes_call (takes_of rfl rfl rfl rfl) fun _ _ _ _ h => h) (qa_cons (q_tup (qa_cons (q_op od_subI (qv 3) (q_int)) (qa_cons (qv 4) (qa_cons (q_op od_subI (qv 5) (qv 4)) (qa_nil))))) (qa_nil)))) (qs_one (q_ifS (qt_cmp od_lt (qv 7) (qv 8)) (qs_one (q_par3 6 3 5 rfl sc_direct_walk.nd (qa_cons (q_op od_add (qv 6) (q_str)) (qa_cons (q_op od_subI (qv 3) (q_int)) (qa_cons (q_op od_subI (qv 5) (qv 4)) (qa_nil)))))) (qs_one (q_par3 6 4 7 rfl sc_direct_walk.nd (qa_cons (q_op od_add (qv 6) (q_str)) (qa_cons (q_op od_subI (qv 4) (q_int)) (qa_cons (q_op od_subI (qv 7) (qv 8)) (qa_nil)))))))))) (qs_one (q_ret (qv 6)))))))))
theorem sc_place_of : FnScope (["walk", "x", "y", "s", "found", "letter", "ahead"] : List Str) (["walk"] : List Str) (defScope s_place_of) := ⟨rfl, rfl, rfl, by decide +kernel, rfl, by decide +kernel, by decide +kernel⟩
theorem ok_place_of (F : FunD K "place_of" "place_of" (defArgs s_place_of) (defBody s_place_of) (defScope s_place_of) [] [] f fd) (b_len : mg "len" = none) (k_MOST_DIRECT : GloC K mg "MOST_DIRECT" (.int 24)) (c_direct_count : FnG P w K mg base "direct_count" 2 m_direct_count) (c_is_walk : FnG P w K mg base "is_walk" 1 m_is_walk) (c_walk_move : FnG P w K mg base "walk_move" 2 m_walk_move) : Pm P w K mg base (L2.CX P w) 3 f fd (["walk"] : List Str) (spM K m_place_of) := by unfold m_place_of; exact fn_ok F sc_place_of rfl rfl fun cdv A outer s H E hr => have hu := hr.units; have hg := hr.g; qs_cons (q_ifS (qt_w (qw_or (qt_not (qt_tru (q_call c_is_walk (hr.mono (by decide)) (passes_call (takes_of rfl rfl rfl rfl) fun _ _ _ _ h => h) (qa_cons (qv 0) (qa_cons (q_str) (qa_nil)))))) (qw_one_or (qt_cmp od_gt (q_callB (cd_len) b_len rfl (qa_cons (qv 0) (qa_nil))) (q_glob k_MOST_DIRECT.v))))) (qs_one (q_never)) (qs_nil)) (qs_cons (q_asg (q_call c_walk_move (hr.mono (by decide)) (passes_call (takes_of rfl rfl rfl rfl) fun _ _ _ _ h => h) (qa_cons (qv 0) (qa_nil))) (qg_tup rfl (qgs_cons (qg_name 1 sc_place_of.nd) (qgs_cons (qg_name 2 sc_place_of.nd) (qgs_cons (qg_name 3 sc_place_of.nd) (qgs_nil)))))) (qs_cons (q_set 4 sc_place_of.nd (q_int)) (qs_cons (q_for (passes_of rfl) rfl (qi_seq (qv 0)) (qg_name 5 sc_place_of.nd) (qs_cons (q_set 6 sc_place_of.nd (q_call c_direct_count (hr.mono (by decide)) (passes_call (takes_of rfl rfl rfl rfl) fun _ _ _ _ h => h) (qa_cons (q_tup (qa_cons (q_op od_subI (qv 1) (q_int)) (qa_cons (qv 2) (qa_cons (q_op od_subI (qv 3) (qv 2)) (qa_nil))))) (qa_nil)))) (qs_one (q_ifS (qt_cmp (od_eq hu) (qv 5) (q_str)) (qs_one (q_par 1 3 rfl sc_place_of.nd (qa_cons (q_op od_subI (qv 1) (q_int)) (qa_cons (q_op od_subI (qv 3) (qv 2)) (qa_nil))))) (qs_one (q_par 2 4 rfl sc_place_of.nd (qa_cons (q_op od_subI (qv 2) (q_int)) (qa_cons (q_op od_add (qv 4) (qv 6)) (qa_nil))))))))) (qs_one (q_ret (qv 4))))))
theorem sc__law_dip : FnScope (["well", "sides", "digit", "by"] : List Str) (["well", "sides"] : List Str) (defScope s__law_dip) := ⟨rfl, rfl, rfl, by decide +kernel, rfl, by decide +kernel, by decide +kernel⟩
theorem ok__law_dip (F : FunD K "_law_dip" "_law_dip" (defArgs s__law_dip) (defBody s__law_dip) (defScope s__law_dip) [] [] f fd) (b_divmod : mg "divmod" = none) (b_int : mg "int" = none) : Pm P w K mg base (L2.CX P w) 1 f fd (["well", "sides"] : List Str) (spM K m__law_dip) := by unfold m__law_dip; exact fn_ok F sc__law_dip rfl rfl fun cdv A outer s H E hr => have hu := hr.units; have hg := hr.g; qs_cons (q_asg (q_op od_add (q_ix (qv 0) (q_int)) (q_int)) (qg_sub (qv 0) (q_int))) (qs_cons (q_ifS (qt_cmp od_gt (q_ix (qv 0) (q_int)) (q_int)) (qs_cons (q_asg (q_callB (cd_divmod) b_divmod rfl (qa_cons (q_ix (qv 0) (q_int)) (qa_cons (qv 1) (qa_nil)))) (qg_tup rfl (qgs_cons (qg_sub (qv 0) (q_int)) (qgs_cons (qg_name 2 sc__law_dip.nd) (qgs_nil))))) (qs_one (q_ret (qv 2)))) (qs_nil)) (qs_cons (q_set 3 sc__law_dip.nd (q_op od_add (q_int) (q_op od_mul (q_int) (q_ix (qv 0) (q_int))))) (qs_cons (q_asg (q_op od_modI (q_callTy cd_int b_int rfl (qa_cons (q_op od_add (q_op od_add (q_op od_mul (q_ix (qv 0) (q_int)) (qv 3)) (q_op od_mul (q_int) (q_ix (qv 0) (q_int)))) (q_int)) (qa_nil))) (q_int)) (qg_sub (qv 0) (q_int))) (qs_one (q_ret (q_op od_modI (q_callTy cd_int b_int rfl (qa_cons (q_op od_divI (q_ix (qv 0) (q_int)) (q_int)) (qa_nil))) (qv 1)))))))
theorem sc__law_one_of : FnScope (["well", "some"] : List Str) (["well", "some"] : List Str) (defScope s__law_one_of) := ⟨rfl, rfl, rfl, by decide +kernel, rfl, by decide +kernel, by decide +kernel⟩
theorem ok__law_one_of (F : FunD K "_law_one_of" "_law_one_of" (defArgs s__law_one_of) (defBody s__law_one_of) (defScope s__law_one_of) [] [] f fd) (b_len : mg "len" = none) (c__law_dip : FnG P w K mg base "_law_dip" 1 m__law_dip) : Pm P w K mg base (L2.CX P w) 2 f fd (["well", "some"] : List Str) (spM K m__law_one_of) := by unfold m__law_one_of; exact fn_ok F sc__law_one_of rfl rfl fun cdv A outer s H E hr => have hu := hr.units; have hg := hr.g; qs_one (q_ret (q_ix (qv 1) (q_call c__law_dip (hr.mono (by decide)) (passes_call (takes_of rfl rfl rfl rfl) fun _ _ _ _ h => h) (qa_cons (qv 0) (qa_cons (q_callB (cd_len) b_len rfl (qa_cons (qv 1) (qa_nil))) (qa_nil))))))
theorem sc__law_step : FnScope (["spot", "letter", "x", "y", "s"] : List Str) (["spot", "letter"] : List Str) (defScope s__law_step) := ⟨rfl, rfl, rfl, by decide +kernel, rfl, by decide +kernel, by decide +kernel⟩
theorem ok__law_step (F : FunD K "_law_step" "_law_step" (defArgs s__law_step) (defBody s__law_step) (defScope s__law_step) [] [] f fd) : Pm P w K mg base (L2.CX P w) 1 f fd (["spot", "letter"] : List Str) (spM K m__law_step) := by unfold m__law_step; exact fn_ok F sc__law_step rfl rfl fun cdv A outer s H E hr => have hu := hr.units; have hg := hr.g; qs_cons (q_asg (qv 0) (qg_tup rfl (qgs_cons (qg_name 2 sc__law_step.nd) (qgs_cons (qg_name 3 sc__law_step.nd) (qgs_cons (qg_name 4 sc__law_step.nd) (qgs_nil)))))) (qs_cons (q_ifS (qt_cmp (od_eq hu) (qv 1) (q_str)) (qs_one (q_ret (q_tup (qa_cons (q_op od_add (qv 2) (q_int)) (qa_cons (qv 3) (qa_cons (qv 4) (qa_nil))))))) (qs_nil)) (qs_cons (q_ifS (qt_cmp (od_eq hu) (qv 1) (q_str)) (qs_one (q_ret (q_tup (qa_cons (q_op od_subI (qv 2) (q_int)) (qa_cons (qv 3) (qa_cons (qv 4) (qa_nil))))))) (qs_nil)) (qs_one (q_ret (q_if (qt_cmp (od_eq hu) (qv 1) (q_str)) (q_tup (qa_cons (qv 2) (qa_cons (q_op od_add (qv 3) (q_int)) (qa_cons (q_op od_add (qv 4) (qv 2)) (qa_nil))))) (q_tup (qa_cons (qv 2) (qa_cons (q_op od_subI (qv 3) (q_int)) (qa_cons (q_op od_subI (qv 4) (qv 2)) (qa_nil))))))))))
theorem sc__law_led : FnScope (["word", "spot", "letter"] : List Str) (["word"] : List Str) (defScope s__law_led) := ⟨rfl, rfl, rfl, by decide +kernel, rfl, by decide +kernel, by decide +kernel⟩
theorem ok__law_led (F : FunD K "_law_led" "_law_led" (defArgs s__law_led) (defBody s__law_led) (defScope s__law_led) [] [] f fd) (c__law_step : FnG P w K mg base "_law_step" 1 m__law_step) : Pm P w K mg base (L2.CX P w) 2 f fd (["word"] : List Str) (spM K m__law_led) := by unfold m__law_led; exact fn_ok F sc__law_led rfl rfl fun cdv A outer s H E hr => have hu := hr.units; have hg := hr.g; qs_cons (q_set 1 sc__law_led.nd (q_tup (qa_cons (q_int) (qa_cons (q_int) (qa_cons (q_int) (qa_nil)))))) (qs_cons (q_for (passes_of rfl) rfl (qi_seq (qv 0)) (qg_name 2 sc__law_led.nd) (qs_one (q_set 1 sc__law_led.nd (q_call c__law_step (hr.mono (by decide)) (passes_call (takes_of rfl rfl rfl rfl) fun _ _ _ _ h => h) (qa_cons (qv 1) (qa_cons (qv 2) (qa_nil))))))) (qs_one (q_ret (qv 1))))
theorem sc__law_stroll : FnScope (["well", "letters", "most", "turn"] : List Str) (["well", "letters", "most"] : List Str) (defScope s__law_stroll) := ⟨rfl, rfl, rfl, by decide +kernel, rfl, by decide +kernel, by decide +kernel⟩
theorem ok__law_stroll (F : FunD K "_law_stroll" "_law_stroll" (defArgs s__law_stroll) (defBody s__law_stroll) (defScope s__law_stroll) [] [] f fd) (b_range : mg "range" = none) (c__law_dip : FnG P w K mg base "_law_dip" 1 m__law_dip) (c__law_one_of : FnG P w K mg base "_law_one_of" 2 m__law_one_of) : Pm P w K mg base (L2.CX P w) 3 f fd (["well", "letters", "most"] : List Str) (spM K m__law_stroll) := by unfold m__law_stroll; exact fn_ok F sc__law_stroll rfl rfl fun cdv A outer s H E hr => have hu := hr.units; have hg := hr.g; qs_one (q_ret (q_join (q_str) (q_lc [("turn", 3)] fin_L rfl sc__law_stroll.nd (qi_range1 b_range (qa_cons (q_call c__law_dip (hr.mono (by decide)) (passes_call (takes_of rfl rfl rfl rfl) fun _ _ _ _ h => h) (qa_cons (qv 0) (qa_cons (q_op od_add (qv 2) (q_int)) (qa_nil)))) (qa_nil))) (blk rfl (by kernel_rfl) (by kernel_rfl) (by kernel_rfl) (by kernel_rfl)) (qgb_name 3 sc__law_stroll.nd) (fun _ _ _ _ _ => qts_nil) (fun _ _ _ _ _ => q_call c__law_one_of (hr.mono (by decide)) passL (qa_cons (qv 0) (qa_cons (qv 1) (qa_nil)))))))
theorem sc__law_direct : FnScope (["x", "y", "found", "turn", "later", "word", "east_here", "north_here", "each"] : List Str) (["x", "y"] : List Str) (defScope s__law_direct) := ⟨rfl, rfl, rfl, by decide +kernel, rfl, by decide +kernel, by decide +kernel⟩
theorem ok__law_direct (F : FunD K "_law_direct" "_law_direct" (defArgs s__law_direct) (defBody s__law_direct) (defScope s__law_direct) [] [] f fd) (b_range : mg "range" = none) : Pm P w K mg base (L2.CX P w) 1 f fd (["x", "y"] : List Str) (spM K m__law_direct) := by unfold m__law_direct; exact fn_ok F sc__law_direct rfl rfl fun cdv A outer s H E hr => have hu := hr.units; have hg := hr.g; qs_cons (q_set 2 sc__law_direct.nd (q_lst (qa_cons (q_tup (qa_cons (q_str) (qa_cons (q_int) (qa_cons (q_int) (qa_nil))))) (qa_nil)))) (qs_cons (q_for (passes_of rfl) rfl (qi_range1 b_range (qa_cons (q_op od_add (qv 0) (qv 1)) (qa_nil))) (qg_name 3 sc__law_direct.nd) (qs_cons (q_set 4 sc__law_direct.nd (q_lstM (qa_nil))) (qs_cons (q_for (passes_of rfl) rfl (qi_seq (qv 2)) (qg_tup rfl (qgs_cons (qg_name 5 sc__law_direct.nd) (qgs_cons (qg_name 6 sc__law_direct.nd) (qgs_cons (qg_name 7 sc__law_direct.nd) (qgs_nil))))) (qs_cons (q_ifS (qt_cmp od_lt (qv 6) (qv 0)) (qs_one (q_expr (q_append (qv 4) (q_tup (qa_cons (q_op od_add (qv 5) (q_str)) (qa_cons (q_op od_add (qv 6) (q_int)) (qa_cons (qv 7) (qa_nil)))))))) (qs_nil)) (qs_one (q_ifS (qt_cmp od_lt (qv 7) (qv 1)) (qs_one (q_expr (q_append (qv 4) (q_tup (qa_cons (q_op od_add (qv 5) (q_str)) (qa_cons (qv 6) (qa_cons (q_op od_add (qv 7) (q_int)) (qa_nil)))))))) (qs_nil))))) (qs_one (q_set 2 sc__law_direct.nd (qv 4)))))) (qs_one (q_ret (q_lc [("each", 8)] fin_L rfl sc__law_direct.nd (qi_seq (qv 2)) (blk rfl (by kernel_rfl) (by kernel_rfl) (by kernel_rfl) (by kernel_rfl)) (qgb_name 8 sc__law_direct.nd) (fun _ _ _ _ _ => qts_nil) (fun _ _ _ _ _ => q_ix (qv 8) (q_int))))))
theorem sc__law_right : FnScope (["well", "turn", "x", "y", "every", "goal", "own", "k", "far", "word", "at", "last"] : List Str) (["well"] : List Str) (defScope s__law_right) := ⟨rfl, rfl, rfl, by decide +kernel, rfl, by decide +kernel, by decide +kernel⟩
theorem ok__law_right (F : FunD K "_law_right" "_law_right" (defArgs s__law_right) (defBody s__law_right) (defScope s__law_right) [] [] (He.fAd K ("_law_right", none)) fd) (b_len : mg "len" = none) (b_range : mg "range" = none) (b_repr : mg "repr" = none) (b_sorted : mg "sorted" = none) (er__law_tried : EndR P w K mg base "_law_tried" 20 res__law_tried) (tb__law_right : LamX.TabB base mg (He.codeOf K ("_law_right", none)) (He.cT K ("_law_right", none)).2) (c__law_dip : FnG P w K mg base "_law_dip" 1 m__law_dip) (c__law_direct : FnG P w K mg base "_law_direct" 1 m__law_direct) (c__law_led : FnG P w K mg base "_law_led" 2 m__law_led) (c__law_one_of : FnG P w K mg base "_law_one_of" 2 m__law_one_of) (c__law_stroll : FnG P w K mg base "_law_stroll" 3 m__law_stroll) (c_direct_walk : FnG P w K mg base "direct_walk" 5 m_direct_walk) (c_direct_walks : FnG P w K mg base "direct_walks" 5 m_direct_walks) (c_place_of : FnG P w K mg base "place_of" 3 m_place_of) (c_walked : FnG P w K mg base "walked" 3 m_walked) (w_direct_walk_0_index_move : FnK P w K mg base "direct_walk" 5 0 (["index", "move"] : List Str) [1, 0] m_direct_walk) (w_place_of_0_walk : FnK P w K mg base "place_of" 3 0 (["walk"] : List Str) [0] m_place_of) : Pm P w K mg base (L2.CX P w) 22 (He.fAd K ("_law_right", none)) fd (["well"] : List Str) (spM K (m__law_right (tPK K))) := by unfold m__law_right; exact fn_okC F sc__law_right rfl rfl fun A outer s H E hr => have hu := hr.units; have hg := hr.g; qs_cons (q_for (passes_of rfl) rfl (qi_range1 b_range (qa_cons (q_int) (qa_nil))) (qg_name 1 sc__law_right.nd) (qs_cons (q_par 2 3 rfl sc__law_right.nd (qa_cons (q_call c__law_dip (hr.mono (by decide)) (passes_call (takes_of rfl rfl rfl rfl) fun _ _ _ _ h => h) (qa_cons (qv 0) (qa_cons (q_int) (qa_nil)))) (qa_cons (q_call c__law_dip (hr.mono (by decide)) (passes_call (takes_of rfl rfl rfl rfl) fun _ _ _ _ h => h) (qa_cons (qv 0) (qa_cons (q_int) (qa_nil)))) (qa_nil)))) (qs_cons (q_asg (q_tup (qa_cons (q_call c__law_direct (hr.mono (by decide)) (passes_call (takes_of rfl rfl rfl rfl) fun _ _ _ _ h => h) (qa_cons (qv 2) (qa_cons (qv 3) (qa_nil)))) (qa_cons (q_call c__law_led (hr.mono (by decide)) (passes_call (takes_of rfl rfl rfl rfl) fun _ _ _ _ h => h) (qa_cons (q_call c__law_one_of (hr.mono (by decide)) (passes_call (takes_of rfl rfl rfl rfl) fun _ _ _ _ h => h) (qa_cons (qv 0) (qa_cons (q_call c__law_direct (hr.mono (by decide)) (passes_call (takes_of rfl rfl rfl rfl) fun _ _ _ _ h => h) (qa_cons (qv 2) (qa_cons (qv 3) (qa_nil)))) (qa_nil)))) (qa_nil))) (qa_nil)))) (qg_tup rfl (qgs_cons (qg_name 4 sc__law_right.nd) (qgs_cons (qg_name 5 sc__law_right.nd) (qgs_nil))))) (qs_cons (q_set 6 sc__law_right.nd (q_lc [("word", 9)] fin_L rfl sc__law_right.nd (qi_seq (qv 4)) (blk rfl (by kernel_rfl) (by kernel_rfl) (by kernel_rfl) (by kernel_rfl)) (qgb_name 9 sc__law_right.nd) (fun _ _ _ _ _ => qts_one (qt_cmp (od_eq hu) (q_call c__law_led (hr.mono (by decide)) passL (qa_cons (qv 9) (qa_nil))) (qv 5))) (fun _ _ _ _ _ => qv 9))) (qs_cons (q_ifS (qt_cmp (od_ne hu) (qv 6) (q_callB (cd_sortS) b_sorted rfl (qa_cons (qv 6) (qa_nil)))) (qs_one (q_ret (q_bl))) (qs_nil)) (qs_cons (q_for (passes_of rfl) rfl (qi_range1 b_range (qa_cons (q_callB (cd_len) b_len rfl (qa_cons (qv 6) (qa_nil))) (qa_nil))) (qg_name 7 sc__law_right.nd) (qs_cons (q_ifS (qt_cmp (od_ne hu) (q_lst (qa_cons (q_call c_direct_walk (hr.mono (by decide)) (passes_call (takes_of rfl rfl rfl rfl) fun _ _ _ _ h => h) (qa_cons (qv 5) (qa_cons (qv 7) (qa_nil)))) (qa_cons (q_callK0 w_direct_walk_0_index_move (hr.mono (by decide)) (passes_call (takes_of rfl rfl rfl rfl) fun _ _ _ _ h => h) (qk_cons (qv 7) (qk_cons (qv 5) (qk_nil)))) (qa_nil)))) (q_lst (qa_cons (q_ix (qv 6) (qv 7)) (qa_cons (q_ix (qv 6) (qv 7)) (qa_nil))))) (qs_one (q_ret (q_bl))) (qs_nil)) (qs_one (q_ifS (qt_cmp (od_ne hu) (q_callB ((((cd_repr hg hu).or (cd_reprE hg hu)).or (cd_reprD hg hu))) b_repr rfl (qa_cons (q_lst (qa_cons (q_call c_place_of (hr.mono (by decide)) (passes_call (takes_of rfl rfl rfl rfl) fun _ _ _ _ h => h) (qa_cons (q_ix (qv 6) (qv 7)) (qa_nil))) (qa_cons (q_callK0 w_place_of_0_walk (hr.mono (by decide)) (passes_call (takes_of rfl rfl rfl rfl) fun _ _ _ _ h => h) (qk_cons (q_ix (qv 6) (qv 7)) (qk_nil))) (qa_nil)))) (qa_nil))) (q_callB ((((cd_repr hg hu).or (cd_reprE hg hu)).or (cd_reprD hg hu))) b_repr rfl (qa_cons (q_lst (qa_cons (qv 7) (qa_cons (qv 7) (qa_nil)))) (qa_nil)))) (qs_one (q_ret (q_bl))) (qs_nil))))) (qs_cons (q_ifS (qt_cmp (od_ne hu) (q_lamR (lv := 20) (j := 19) er__law_tried tb__law_right rfl (hr.mono (by decide)) (by decide) (LamX.lamS_by (by kernel_rfl)) rfl (fun _ _ _ _ _ => rfl) (fun A o s H E f k hr => have hu := hr.units; have hg := hr.g; q_call c_direct_walk (hr.mono (by decide)) (passes_call (takes_of rfl rfl rfl rfl) fun _ _ _ _ h => h) (qa_cons (qv 5) (qa_cons (q_callB (cd_len) b_len rfl (qa_cons (qv 6) (qa_nil))) (qa_nil))))) (q_tup (qa_cons (q_str) (qa_cons (q_callB (cd_len) b_len rfl (qa_cons (qv 6) (qa_nil))) (qa_nil))))) (qs_one (q_ret (q_bl))) (qs_nil)) (qs_one (q_for (passes_of rfl) rfl (qi_seq (q_lst (qa_cons (q_tup (qa_cons (qv 2) (qa_cons (qv 3) (qa_cons (q_op od_add (q_op od_mul (qv 2) (qv 3)) (q_int)) (qa_nil))))) (qa_cons (q_tup (qa_cons (qv 2) (qa_cons (qv 3) (qa_cons (q_neg (q_int)) (qa_nil))))) (qa_cons (q_tup (qa_cons (qv 2) (qa_cons (q_neg (q_int)) (qa_cons (q_int) (qa_nil))))) (qa_cons (q_tup (qa_cons (q_neg (q_int)) (qa_cons (qv 3) (qa_cons (q_int) (qa_nil))))) (qa_nil))))))) (qg_name 8 sc__law_right.nd) (qs_one (q_ifS (qt_cmp (od_ne hu) (q_lamR (lv := 20) (j := 19) er__law_tried tb__law_right rfl (hr.mono (by decide)) (by decide) (LamX.lamS_by (by kernel_rfl)) rfl (fun _ _ _ _ _ => rfl) (fun A o s H E f k hr => have hu := hr.units; have hg := hr.g; q_call c_direct_walk (hr.mono (by decide)) (passes_call (takes_of rfl rfl rfl rfl) fun _ _ _ _ h => h) (qa_cons (qv 8) (qa_cons (q_int) (qa_nil))))) (q_str)) (qs_one (q_ret (q_bl))) (qs_nil)))))))))))) (qs_cons (q_set 9 sc__law_right.nd (q_call c__law_stroll (hr.mono (by decide)) (passes_call (takes_of rfl rfl rfl rfl) fun _ _ _ _ h => h) (qa_cons (qv 0) (qa_cons (q_call c__law_one_of (hr.mono (by decide)) (passes_call (takes_of rfl rfl rfl rfl) fun _ _ _ _ h => h) (qa_cons (qv 0) (qa_cons (q_lst (qa_cons (q_str) (qa_cons (q_str) (qa_cons (q_str) (qa_nil))))) (qa_nil)))) (qa_cons (q_int) (qa_nil)))))) (qs_cons (q_asg (q_tup (qa_cons (q_call c_walked (hr.mono (by decide)) (passes_call (takes_of rfl rfl rfl rfl) fun _ _ _ _ h => h) (qa_cons (qv 9) (qa_nil))) (qa_cons (q_call c_place_of (hr.mono (by decide)) (passes_call (takes_of rfl rfl rfl rfl) fun _ _ _ _ h => h) (qa_cons (qv 9) (qa_nil))) (qa_nil)))) (qg_tup rfl (qgs_cons (qg_name 5 sc__law_right.nd) (qgs_cons (qg_name 10 sc__law_right.nd) (qgs_nil))))) (qs_cons (q_ifS (qt_w (qw_or (qt_cmp (od_ne hu) (q_call c_direct_walk (hr.mono (by decide)) (passes_call (takes_of rfl rfl rfl rfl) fun _ _ _ _ h => h) (qa_cons (qv 5) (qa_cons (qv 10) (qa_nil)))) (qv 9)) (qw_one_or (qt_notInRg b_range (qv 10) (q_call c_direct_walks (hr.mono (by decide)) (passes_call (takes_of rfl rfl rfl rfl) fun _ _ _ _ h => h) (qa_cons (qv 5) (qa_nil))))))) (qs_one (q_ret (q_bl))) (qs_nil)) (qs_cons (q_set 11 sc__law_right.nd (q_call c__law_dip (hr.mono (by decide)) (passes_call (takes_of rfl rfl rfl rfl) fun _ _ _ _ h => h) (qa_cons (qv 0) (qa_cons (q_call c_direct_walks (hr.mono (by decide)) (passes_call (takes_of rfl rfl rfl rfl) fun _ _ _ _ h => h) (qa_cons (qv 5) (qa_nil))) (qa_nil))))) (qs_one (q_ret (q_and (q_cmp (od_eq hu) (q_call c_place_of (hr.mono (by decide)) (passes_call (takes_of rfl rfl rfl rfl) fun _ _ _ _ h => h) (qa_cons (q_call c_direct_walk (hr.mono (by decide)) (passes_call (takes_of rfl rfl rfl rfl) fun _ _ _ _ h => h) (qa_cons (qv 5) (qa_cons (qv 11) (qa_nil)))) (qa_nil))) (qv 11)) (q_one (q_cmp (od_eq hu) (q_call c_walked (hr.mono (by decide)) (passes_call (takes_of rfl rfl rfl rfl) fun _ _ _ _ h => h) (qa_cons (q_call c_direct_walk (hr.mono (by decide)) (passes_call (takes_of rfl rfl rfl rfl) fun _ _ _ _ h => h) (qa_cons (qv 5) (qa_cons (qv 11) (qa_nil)))) (qa_nil))) (qv 5))))))))))
theorem sc_law : FnScope (["cells", "turn"] : List Str) (["cells"] : List Str) (defScope s_law) := ⟨rfl, rfl, rfl, by decide +kernel, rfl, by decide +kernel, by decide +kernel⟩
theorem ok_law (F : FunD K "law" "law" (defArgs s_law) (defBody s_law) (defScope s_law) [] [] f fd) (b_all : mg "all" = none) (b_len : mg "len" = none) (b_max : mg "max" = none) (b_min : mg "min" = none) (b_range : mg "range" = none) (c__law_right : FnG P w K mg base "_law_right" 22 (m__law_right (tPK K))) (c__law_well : FnG P w K mg base "_law_well" 1 m__law_well) : Pm P w K mg base (L2.CX P w) 23 f fd (["cells"] : List Str) (spM K (m_law (tPK K))) := by unfold m_law; exact fn_ok F sc_law rfl rfl fun cdv A outer s H E hr => have hu := hr.units; have hg := hr.g; qs_one (q_ret (q_callB (cd_all rfl) b_all rfl (qa_cons (q_lc [("turn", 1)] fin_L rfl sc_law.nd (qi_range1 b_range (qa_cons (q_callB (cd_max rfl) b_max rfl (qa_cons (q_int) (qa_cons (q_callB (cd_min rfl) b_min rfl (qa_cons (q_callB (cd_len) b_len rfl (qa_cons (qv 0) (qa_nil))) (qa_cons (q_int) (qa_nil)))) (qa_nil)))) (qa_nil))) (blk rfl (by kernel_rfl) (by kernel_rfl) (by kernel_rfl) (by kernel_rfl)) (qgb_name 1 sc_law.nd) (fun _ _ _ _ _ => qts_nil) (fun _ _ _ _ _ => q_call c__law_right (hr.mono (by decide)) passL (qa_cons (q_call c__law_well (hr.mono (by decide)) passL (qa_cons (qv 0) (qa_cons (qv 1) (qa_nil)))) (qa_nil)))) (qa_nil))))
theorem sc__law_tried : FnScope (["act", "e"] : List Str) (["act"] : List Str) (defScope s__law_tried) := ⟨rfl, rfl, rfl, by decide +kernel, rfl, by decide +kernel, by decide +kernel⟩
theorem gi__law_tried (F : FunD K "_law_tried" "_law_tried" (defArgs s__law_tried) (defBody s__law_tried) (defScope s__law_tried) [] [] f fd) (hm : mg "_law_tried" = some (.ref f)) (hbn : L2.Binds K fd ["act"] []) (gc_InvalidIndex : mg "InvalidIndex" = some (.ref (He.ga K "InvalidIndex"))) (ct_InvalidIndex : ∀ y o, (y, o) ∈ tabE → PySem.W.exmOne K (.ref (He.ga K y)) (.ref (He.ga K "InvalidIndex")) = some (catE y "InvalidIndex")) (gc_NoWalk : mg "NoWalk" = some (.ref (He.ga K "NoWalk"))) (ct_NoWalk : ∀ y o, (y, o) ∈ tabE → PySem.W.exmOne K (.ref (He.ga K y)) (.ref (He.ga K "NoWalk")) = some (catE y "NoWalk")) (ef : ∀ y f, (y, some f) ∈ tabE → ErrE K y) (hfin : ∀ (f k : Addr) (q : Str) (σ0 : L2.St) (Γ0 : Gam) (de : DE) (μ : Mu), (dB__law_tried (dActK f k q σ0 Γ0 de) ([D.clo f k q σ0 Γ0].map some ++ List.replicate (2 - 1) none) μ).fin = res__law_tried (de Γ0 μ)) (hnx : ∀ r e μ, res__law_tried r ≠ .exc e μ) : EndR P w K mg base "_law_tried" 20 res__law_tried := ⟨⟨f, fd, _, _, _, (["act", "e"] : List Str), "act", hm, F, hbn, sc__law_tried, rfl, Or.inl rfl, by decide, by decide, fun cd A o s H f2 k q σ0 Γ0 de hr act => ⟨dB__law_tried (dActK f2 k q σ0 Γ0 de), have hu := hr.units; have hg := hr.g; by unfold dB__law_tried; exact qs_one (q_tryR rfl rfl sc__law_tried.nd (fun W pn xe tk => q_act act tk) (.plain ⟨rfl, by decide, .inl gc_NoWalk⟩ ct_NoWalk (fun y a dd oe pn => by unfold su__law_tried_0; exact qs_one (q_ret (q_str))) hsu__law_tried_0 (.named rfl rfl ⟨rfl, by decide, .inl gc_InvalidIndex⟩ ct_InvalidIndex (fun y h => by simp [tabE] at h <;> (subst h; decide)) (fun y f hy a dd oe pn hx => by unfold su__law_tried_1; exact qs_one (q_ret (q_tup (qa_cons (q_str) (qa_cons (q_xf (ef y f hy).c (ef y f hy).g hx (qv 1)) (qa_nil)))))) hsu__law_tried_1 .nil))), fun μ => hfin f2 k q σ0 Γ0 de μ⟩⟩, hnx⟩
abbrev i_InvalidIndex : Stmt := clsAt (top 2) 0
theorem sci_InvalidIndex : FnScope (["self", "given"] : List Str) (["self", "given"] : List Str) (defScope i_InvalidIndex) := ⟨rfl, rfl, rfl, by decide +kernel, rfl, by decide +kernel, by decide +kernel⟩
end
end A10

set_option Elab.async false
set_option linter.all false
set_option maxRecDepth 100000
set_option maxHeartbeats 0
namespace A10
open PySem PySem.Spec PyProof.Rows L2 Ar
theorem fin_exc {r : RS} {e : ExK} {μ : Mu} (h : r.fin = .exc e μ) : r = .exc e μ := by cases r <;> first | (cases h; rfl) | cases h
theorem hfin__law_tried (f k : Addr) (q : Str) (σ0 : L2.St) (Γ0 : Gam) (de : DE) (μ : Mu) : (dB__law_tried (dActK f k q σ0 Γ0 de) ([D.clo f k q σ0 Γ0].map some ++ List.replicate (2 - 1) none) μ).fin = res__law_tried (de Γ0 μ) := by
  unfold res__law_tried dB__law_tried
  have e : dActK f k q σ0 Γ0 de ([D.clo f k q σ0 Γ0].map some ++ List.replicate (2 - 1) none) μ = de Γ0 μ := if_pos rfl
  simp only [dTryH, dLst, dTup, daCons, daNil, dC, R.bind, e]
theorem hnx__law_tried (r : R D) (e : ExK) (μ : Mu) : res__law_tried r ≠ .exc e μ := by
  unfold res__law_tried dB__law_tried
  exact fun h => tryH_nx (fun _ _ _ _ _ h => by cases h) _ _ (fin_exc h)
end A10

set_option Elab.async false
set_option linter.all false
set_option maxRecDepth 100000
set_option maxHeartbeats 0
namespace A10
open PySem PySem.Spec PyProof.Rows L2 Ar
def dd (i : Nat) (x : Str) : He.DefD := ⟨(x, none), x, x, defArgs (top i), defBody (top i), defScope (top i), [], []⟩
def ddi (i j : Nat) (x : Str) : He.DefD := ⟨(x, some "__init__"), "__init__", x ++ ".__init__", defArgs (clsAt (top i) j), defBody (clsAt (top i) j), defScope (clsAt (top i) j), [], []⟩
def fn : List He.DefD := ([dd 29 "_law_well", dd 19 "is_walk", dd 16 "then_move", dd 20 "walk_move", dd 24 "walked", dd 21 "areas_of", dd 22 "direct_count", dd 10 "is_integer", dd 14 "is_move", dd 15 "check_move", dd 23 "check_direct", dd 25 "direct_walks", dd 11 "is_count", dd 26 "direct_walk", dd 27 "place_of", dd 30 "_law_dip", dd 31 "_law_one_of", dd 32 "_law_step", dd 33 "_law_led", dd 34 "_law_stroll", dd 35 "_law_direct", dd 37 "_law_right", dd 38 "law", dd 36 "_law_tried", ddi 2 0 "InvalidIndex"] : List He.DefD)
def fa : List He.Fa := ([.glo "_law_well", .glo "is_walk", .glo "then_move", .glo "walk_move", .glo "walked", .glo "areas_of", .glo "direct_count", .glo "is_integer", .glo "is_move", .glo "check_move", .glo "check_direct", .glo "direct_walks", .glo "is_count", .glo "direct_walk", .glo "place_of", .glo "_law_dip", .glo "_law_one_of", .glo "_law_step", .glo "_law_led", .glo "_law_stroll", .glo "_law_direct", .glo "_law_right", .glo "law", .glo "_law_tried", .free "abs", .free "all", .free "bool", .free "divmod", .free "enumerate", .free "int"] : List He.Fa) ++ ([.free "isinstance", .free "len", .free "max", .free "min", .free "range", .free "repr", .free "sorted", .free "str", .free "tuple", .int "MOST_DIRECT" 24, .glo "PLAIN", .glo "STEPS", .glo "InvalidIndex", .glo "NoWalk", .meth "InvalidIndex" "__init__"] : List He.Fa)
def tf : List He.Defn := [("_law_right", none)]
def ex (K : PySem.W.Frag) : Bool := He.tupB K "PLAIN" [.int 0, .int 0, .int 0] && (tabB K "STEPS" [("e", .tup [.int 1, .int 0, .int 0]), ("n", .tup [.int 0, .int 1, .int 0]), ("w", .tup [.int (-1), .int 0, .int 0]), ("s", .tup [.int 0, .int (-1), .int 0])] && (ex0B K "NoWalk" && (errE K "InvalidIndex" && (catB K "InvalidIndex" "InvalidIndex" (catE "InvalidIndex" "InvalidIndex") && (catB K "NoWalk" "InvalidIndex" (catE "NoWalk" "InvalidIndex") && (catB K "InvalidIndex" "NoWalk" (catE "InvalidIndex" "NoWalk") && (catB K "NoWalk" "NoWalk" (catE "NoWalk" "NoWalk"))))))))
abbrev R : PySem.W.OpenRow := PySem.W.OpenLaw.row PySem.Challenge.rw_arealots_k10_whole_direct_walks_in_order
def ts : List He.Tab := [(fun K => He.ga K "STEPS", ["e", "n", "w", "s"])]
def asL : List Addr := ([3, 24, 44, 113, 126, 135, 142, 143, 148, 155, 162, 163, 172, 179, 184, 191, 198, 205, 212, 219, 226, 233, 240, 247, 254, 261, 266, 271, 278, 283] : List Addr) ++ ([288, 23, 43, 112, 125, 134, 141, 147, 154, 161, 164, 165, 166, 167, 171, 178, 183, 190, 197, 204, 211, 218, 225, 232, 239, 246, 253, 260, 265, 270] : List Addr) ++ ([277, 282, 287, 41, 40] : List Addr)
def wr : List WrD := []
abbrev hk : PySem.W.Hook := hookW asL fa fn ts wr tf ex
theorem facts {P : Program} {w : World} {K : PySem.W.Frag} {h : Heap} {mg : Str → Option Value} {f : Addr} (X : K.In h) (G : h.Ns mainGlobals mg) (hfa : mg ("law" : Str) = some (.ref f)) (ccw : SaysW fa fn ts wr tf ex w h K) :
    ∃ fd : FuncData, (∀ (s : Shared) (v : Value), BindsTo s fd ⟨[v], []⟩ [("cells", v)]) ∧ ∀ base : Heap, K.In base → base.Ns mainGlobals mg → (∀ p ∈ tf.map (He.cT K), LamX.TabB base mg p.1 p.2) → Pm P w K mg base (L2.CX P w) 23 f fd ["cells"] (spM K (m_law (tPK K))) := by
  have ccz := ccw.z
  have cc := ccz.y
  obtain ⟨c, cx⟩ := cc.x.both
  obtain ⟨x_PLAIN, cx⟩ := He.ba cx
  obtain ⟨x_STEPS, cx⟩ := He.ba cx
  obtain ⟨x_ex0_NoWalk, cx⟩ := He.ba cx
  obtain ⟨x_err_InvalidIndex, cx⟩ := He.ba cx
  obtain ⟨x_cat_InvalidIndex_InvalidIndex, cx⟩ := He.ba cx
  obtain ⟨x_cat_NoWalk_InvalidIndex, cx⟩ := He.ba cx
  obtain ⟨x_cat_InvalidIndex_NoWalk, cx⟩ := He.ba cx
  have x_cat_NoWalk_NoWalk := cx
  obtain ⟨fd__law_well, F__law_well⟩ := c.def_ 0 (d := dd 29 "_law_well") rfl
  have g__law_well := He.glo_ok X G (c.fact 0 (f := .glo "_law_well") rfl)
  obtain ⟨fd_is_walk, F_is_walk⟩ := c.def_ 1 (d := dd 19 "is_walk") rfl
  have g_is_walk := He.glo_ok X G (c.fact 1 (f := .glo "is_walk") rfl)
  obtain ⟨fd_then_move, F_then_move⟩ := c.def_ 2 (d := dd 16 "then_move") rfl
  have g_then_move := He.glo_ok X G (c.fact 2 (f := .glo "then_move") rfl)
  obtain ⟨fd_walk_move, F_walk_move⟩ := c.def_ 3 (d := dd 20 "walk_move") rfl
  have g_walk_move := He.glo_ok X G (c.fact 3 (f := .glo "walk_move") rfl)
  obtain ⟨fd_walked, F_walked⟩ := c.def_ 4 (d := dd 24 "walked") rfl
  have g_walked := He.glo_ok X G (c.fact 4 (f := .glo "walked") rfl)
  obtain ⟨fd_areas_of, F_areas_of⟩ := c.def_ 5 (d := dd 21 "areas_of") rfl
  have g_areas_of := He.glo_ok X G (c.fact 5 (f := .glo "areas_of") rfl)
  obtain ⟨fd_direct_count, F_direct_count⟩ := c.def_ 6 (d := dd 22 "direct_count") rfl
  have g_direct_count := He.glo_ok X G (c.fact 6 (f := .glo "direct_count") rfl)
  obtain ⟨fd_is_integer, F_is_integer⟩ := c.def_ 7 (d := dd 10 "is_integer") rfl
  have g_is_integer := He.glo_ok X G (c.fact 7 (f := .glo "is_integer") rfl)
  obtain ⟨fd_is_move, F_is_move⟩ := c.def_ 8 (d := dd 14 "is_move") rfl
  have g_is_move := He.glo_ok X G (c.fact 8 (f := .glo "is_move") rfl)
  obtain ⟨fd_check_move, F_check_move⟩ := c.def_ 9 (d := dd 15 "check_move") rfl
  have g_check_move := He.glo_ok X G (c.fact 9 (f := .glo "check_move") rfl)
  obtain ⟨fd_check_direct, F_check_direct⟩ := c.def_ 10 (d := dd 23 "check_direct") rfl
  have g_check_direct := He.glo_ok X G (c.fact 10 (f := .glo "check_direct") rfl)
  obtain ⟨fd_direct_walks, F_direct_walks⟩ := c.def_ 11 (d := dd 25 "direct_walks") rfl
  have g_direct_walks := He.glo_ok X G (c.fact 11 (f := .glo "direct_walks") rfl)
  obtain ⟨fd_is_count, F_is_count⟩ := c.def_ 12 (d := dd 11 "is_count") rfl
  have g_is_count := He.glo_ok X G (c.fact 12 (f := .glo "is_count") rfl)
  obtain ⟨fd_direct_walk, F_direct_walk⟩ := c.def_ 13 (d := dd 26 "direct_walk") rfl
  have g_direct_walk := He.glo_ok X G (c.fact 13 (f := .glo "direct_walk") rfl)
  obtain ⟨fd_place_of, F_place_of⟩ := c.def_ 14 (d := dd 27 "place_of") rfl
  have g_place_of := He.glo_ok X G (c.fact 14 (f := .glo "place_of") rfl)
  obtain ⟨fd__law_dip, F__law_dip⟩ := c.def_ 15 (d := dd 30 "_law_dip") rfl
  have g__law_dip := He.glo_ok X G (c.fact 15 (f := .glo "_law_dip") rfl)
  obtain ⟨fd__law_one_of, F__law_one_of⟩ := c.def_ 16 (d := dd 31 "_law_one_of") rfl
  have g__law_one_of := He.glo_ok X G (c.fact 16 (f := .glo "_law_one_of") rfl)
  obtain ⟨fd__law_step, F__law_step⟩ := c.def_ 17 (d := dd 32 "_law_step") rfl
  have g__law_step := He.glo_ok X G (c.fact 17 (f := .glo "_law_step") rfl)
  obtain ⟨fd__law_led, F__law_led⟩ := c.def_ 18 (d := dd 33 "_law_led") rfl
  have g__law_led := He.glo_ok X G (c.fact 18 (f := .glo "_law_led") rfl)
  obtain ⟨fd__law_stroll, F__law_stroll⟩ := c.def_ 19 (d := dd 34 "_law_stroll") rfl
  have g__law_stroll := He.glo_ok X G (c.fact 19 (f := .glo "_law_stroll") rfl)
  obtain ⟨fd__law_direct, F__law_direct⟩ := c.def_ 20 (d := dd 35 "_law_direct") rfl
  have g__law_direct := He.glo_ok X G (c.fact 20 (f := .glo "_law_direct") rfl)
  obtain ⟨fd__law_right, F__law_right⟩ := c.def_ 21 (d := dd 37 "_law_right") rfl
  have g__law_right := He.glo_ok X G (c.fact 21 (f := .glo "_law_right") rfl)
  obtain ⟨fd_law, F_law⟩ := c.def_ 22 (d := dd 38 "law") rfl
  have g_law := He.glo_ok X G (c.fact 22 (f := .glo "law") rfl)
  obtain ⟨fd__law_tried, F__law_tried⟩ := c.def_ 23 (d := dd 36 "_law_tried") rfl
  have g__law_tried := He.glo_ok X G (c.fact 23 (f := .glo "_law_tried") rfl)
  have b_abs := He.free_ok X G (c.fact 24 (f := .free "abs") rfl)
  have b_all := He.free_ok X G (c.fact 25 (f := .free "all") rfl)
  have b_bool := He.free_ok X G (c.fact 26 (f := .free "bool") rfl)
  have b_divmod := He.free_ok X G (c.fact 27 (f := .free "divmod") rfl)
  have b_enumerate := He.free_ok X G (c.fact 28 (f := .free "enumerate") rfl)
  have b_int := He.free_ok X G (c.fact 29 (f := .free "int") rfl)
  have b_isinstance := He.free_ok X G (c.fact 30 (f := .free "isinstance") rfl)
  have b_len := He.free_ok X G (c.fact 31 (f := .free "len") rfl)
  have b_max := He.free_ok X G (c.fact 32 (f := .free "max") rfl)
  have b_min := He.free_ok X G (c.fact 33 (f := .free "min") rfl)
  have b_range := He.free_ok X G (c.fact 34 (f := .free "range") rfl)
  have b_repr := He.free_ok X G (c.fact 35 (f := .free "repr") rfl)
  have b_sorted := He.free_ok X G (c.fact 36 (f := .free "sorted") rfl)
  have b_str := He.free_ok X G (c.fact 37 (f := .free "str") rfl)
  have b_tuple := He.free_ok X G (c.fact 38 (f := .free "tuple") rfl)
  have k_MOST_DIRECT := glo_int X G (c.fact 39 (f := .int "MOST_DIRECT" 24) rfl)
  have k_PLAIN : GloC K mg "PLAIN" (.tup [.int 0, .int 0, .int 0]) := glo_tup X G (c.fact 40 (f := .glo "PLAIN") rfl) x_PLAIN rfl
  have k_STEPS : DctC K w mg "STEPS" [("e", .tup [.int 1, .int 0, .int 0]), ("n", .tup [.int 0, .int 1, .int 0]), ("w", .tup [.int (-1), .int 0, .int 0]), ("s", .tup [.int 0, .int (-1), .int 0])] := glo_dct X G (c.fact 41 (f := .glo "STEPS") rfl) (cc.tab 0 rfl) x_STEPS rfl
  have gc_InvalidIndex := He.glo_ok X G (c.fact 42 (f := .glo "InvalidIndex") rfl)
  have gc_NoWalk := He.glo_ok X G (c.fact 43 (f := .glo "NoWalk") rfl)
  have e0_NoWalk : Ex0 K mg "NoWalk" := ex0B_ok x_ex0_NoWalk gc_NoWalk
  have ct_InvalidIndex : ∀ y o, (y, o) ∈ tabE → PySem.W.exmOne K (.ref (He.ga K y)) (.ref (He.ga K "InvalidIndex")) = some (catE y "InvalidIndex") := by
    intro y o h
    simp only [tabE, List.mem_cons, Prod.mk.injEq, Option.some.injEq, List.not_mem_nil, or_false, reduceCtorEq, and_false] at h
    rcases h with ⟨rfl, rfl⟩ | ⟨rfl, rfl⟩
    · exact catB_ok x_cat_InvalidIndex_InvalidIndex
    · exact catB_ok x_cat_NoWalk_InvalidIndex
  have ct_NoWalk : ∀ y o, (y, o) ∈ tabE → PySem.W.exmOne K (.ref (He.ga K y)) (.ref (He.ga K "NoWalk")) = some (catE y "NoWalk") := by
    intro y o h
    simp only [tabE, List.mem_cons, Prod.mk.injEq, Option.some.injEq, List.not_mem_nil, or_false, reduceCtorEq, and_false] at h
    rcases h with ⟨rfl, rfl⟩ | ⟨rfl, rfl⟩
    · exact catB_ok x_cat_InvalidIndex_NoWalk
    · exact catB_ok x_cat_NoWalk_NoWalk
  have ef : ∀ y f, (y, some f) ∈ tabE → ErrE K y := by
    intro y o h
    simp only [tabE, List.mem_cons, Prod.mk.injEq, Option.some.injEq, List.not_mem_nil, or_false, reduceCtorEq, and_false] at h
    obtain ⟨rfl, rfl⟩ := h
    · exact errE_ok x_err_InvalidIndex
  obtain ⟨fdi_InvalidIndex, Fi_InvalidIndex⟩ := c.def_ 24 (d := ddi 2 0 "InvalidIndex") rfl
  have mi_InvalidIndex := He.meth_ok (c.fact 44 (f := .meth "InvalidIndex" "__init__") rfl)
  have e := hfa.symm.trans g_law
  cases e
  have b := FunD.bindsA (ps := ["cells"]) F_law fun _ _ _ _ _ _ us hl => match us, hl with | [_], _ => rfl
  refine ⟨fd_law, fun s v => b s [v] rfl, fun base _ _ hTB => ?_⟩
  have tb__law_right : LamX.TabB base mg (He.codeOf K ("_law_right", none)) (He.cT K ("_law_right", none)).2 := hTB (He.cT K ("_law_right", none)) (List.mem_map.mpr ⟨_, by simp [tf], rfl⟩)
  have ex_InvalidIndex : ExG P w K mg base "InvalidIndex" "given" := ⟨gc_InvalidIndex, (errE_ok x_err_InvalidIndex).o, (errE_ok x_err_InvalidIndex).g, _, fdi_InvalidIndex, _, mi_InvalidIndex.at_, isFn_ty mi_InvalidIndex.fn, Fi_InvalidIndex.bindsN (fun _ _ _ _ _ _ us hl => match us, hl with | [_, _], _ => rfl), ini_ok Fi_InvalidIndex sci_InvalidIndex (Or.inl rfl) (Or.inl rfl)⟩
  have er__law_tried : EndR P w K mg base "_law_tried" 20 res__law_tried := gi__law_tried F__law_tried g__law_tried (F__law_tried.bindsN (fun _ _ _ _ _ _ us hl => match us, hl with | [_], _ => rfl)) gc_InvalidIndex ct_InvalidIndex gc_NoWalk ct_NoWalk ef hfin__law_tried hnx__law_tried
  have o__law_well : Pm P w K mg base (L2.CX P w) 1 _ fd__law_well _ (spM K m__law_well) := ok__law_well F__law_well b_abs b_int b_len
  have c__law_well : FnG P w K mg base "_law_well" 1 m__law_well := fng F__law_well g__law_well (fun _ _ _ _ _ _ us hl => match us, hl with | [_, _], _ => rfl) o__law_well
  have o_is_walk : Pm P w K mg base (L2.CX P w) 1 _ fd_is_walk _ (spM K m_is_walk) := ok_is_walk F_is_walk b_all b_isinstance b_str
  have c_is_walk : FnG P w K mg base "is_walk" 1 m_is_walk := fng F_is_walk g_is_walk (fun _ _ _ _ _ _ us hl => match us, hl with | [_, _], _ => rfl) o_is_walk
  have o_then_move : Pm P w K mg base (L2.CX P w) 1 _ fd_then_move _ (spM K m_then_move) := ok_then_move F_then_move
  have c_then_move : FnG P w K mg base "then_move" 1 m_then_move := fng F_then_move g_then_move (fun _ _ _ _ _ _ us hl => match us, hl with | [_, _], _ => rfl) o_then_move
  have o_walk_move : Pm P w K mg base (L2.CX P w) 2 _ fd_walk_move _ (spM K m_walk_move) := ok_walk_move F_walk_move k_PLAIN k_STEPS c_then_move
  have c_walk_move : FnG P w K mg base "walk_move" 2 m_walk_move := fng F_walk_move g_walk_move (fun _ _ _ _ _ _ us hl => match us, hl with | [_], _ => rfl) o_walk_move
  have o_walked : Pm P w K mg base (L2.CX P w) 3 _ fd_walked _ (spM K m_walked) := ok_walked F_walked c_is_walk c_walk_move
  have c_walked : FnG P w K mg base "walked" 3 m_walked := fng F_walked g_walked (fun _ _ _ _ _ _ us hl => match us, hl with | [_], _ => rfl) o_walked
  have o_areas_of : Pm P w K mg base (L2.CX P w) 1 _ fd_areas_of _ (spM K m_areas_of) := ok_areas_of F_areas_of b_enumerate b_range
  have c_areas_of : FnG P w K mg base "areas_of" 1 m_areas_of := fng F_areas_of g_areas_of (fun _ _ _ _ _ _ us hl => match us, hl with | [_, _], _ => rfl) o_areas_of
  have o_direct_count : Pm P w K mg base (L2.CX P w) 2 _ fd_direct_count _ (spM K m_direct_count) := ok_direct_count F_direct_count c_areas_of
  have c_direct_count : FnG P w K mg base "direct_count" 2 m_direct_count := fng F_direct_count g_direct_count (fun _ _ _ _ _ _ us hl => match us, hl with | [_], _ => rfl) o_direct_count
  have o_is_integer : Pm P w K mg base (L2.CX P w) 1 _ fd_is_integer _ (spM K m_is_integer) := ok_is_integer F_is_integer b_bool b_int b_isinstance
  have c_is_integer : FnG P w K mg base "is_integer" 1 m_is_integer := fng F_is_integer g_is_integer (fun _ _ _ _ _ _ us hl => match us, hl with | [_], _ => rfl) o_is_integer
  have o_is_move : Pm P w K mg base (L2.CX P w) 2 _ fd_is_move _ (spM K m_is_move) := ok_is_move F_is_move b_all b_isinstance b_len b_tuple c_is_integer
  have c_is_move : FnG P w K mg base "is_move" 2 m_is_move := fng F_is_move g_is_move (fun _ _ _ _ _ _ us hl => match us, hl with | [_], _ => rfl) o_is_move
  have o_check_move : Pm P w K mg base (L2.CX P w) 3 _ fd_check_move _ (spM K m_check_move) := ok_check_move F_check_move c_is_move
  have c_check_move : FnG P w K mg base "check_move" 3 m_check_move := fng F_check_move g_check_move (fun _ _ _ _ _ _ us hl => match us, hl with | [_], _ => rfl) o_check_move
  have o_check_direct : Pm P w K mg base (L2.CX P w) 4 _ fd_check_direct _ (spM K m_check_direct) := ok_check_direct F_check_direct k_MOST_DIRECT c_check_move
  have c_check_direct : FnG P w K mg base "check_direct" 4 m_check_direct := fng F_check_direct g_check_direct (fun _ _ _ _ _ _ us hl => match us, hl with | [_], _ => rfl) o_check_direct
  have o_direct_walks : Pm P w K mg base (L2.CX P w) 5 _ fd_direct_walks _ (spM K m_direct_walks) := ok_direct_walks F_direct_walks c_check_direct c_direct_count
  have c_direct_walks : FnG P w K mg base "direct_walks" 5 m_direct_walks := fng F_direct_walks g_direct_walks (fun _ _ _ _ _ _ us hl => match us, hl with | [_], _ => rfl) o_direct_walks
  have o_is_count : Pm P w K mg base (L2.CX P w) 2 _ fd_is_count _ (spM K m_is_count) := ok_is_count F_is_count c_is_integer
  have c_is_count : FnG P w K mg base "is_count" 2 m_is_count := fng F_is_count g_is_count (fun _ _ _ _ _ _ us hl => match us, hl with | [_], _ => rfl) o_is_count
  have o_direct_walk : Pm P w K mg base (L2.CX P w) 5 _ fd_direct_walk _ (spM K m_direct_walk) := ok_direct_walk F_direct_walk ex_InvalidIndex e0_NoWalk c_check_direct c_direct_count c_is_count
  have c_direct_walk : FnG P w K mg base "direct_walk" 5 m_direct_walk := fng F_direct_walk g_direct_walk (fun _ _ _ _ _ _ us hl => match us, hl with | [_, _], _ => rfl) o_direct_walk
  have w_direct_walk_0_index_move : FnK P w K mg base "direct_walk" 5 0 ["index", "move"] [1, 0] m_direct_walk := fnk F_direct_walk g_direct_walk 0 ["index", "move"] [1, 0] (fun _ _ _ _ _ _ us ws hl hl2 => match us, ws, hl, hl2 with | [], [_, _], _, _ => rfl) o_direct_walk
  have o_place_of : Pm P w K mg base (L2.CX P w) 3 _ fd_place_of _ (spM K m_place_of) := ok_place_of F_place_of b_len k_MOST_DIRECT c_direct_count c_is_walk c_walk_move
  have c_place_of : FnG P w K mg base "place_of" 3 m_place_of := fng F_place_of g_place_of (fun _ _ _ _ _ _ us hl => match us, hl with | [_], _ => rfl) o_place_of
  have w_place_of_0_walk : FnK P w K mg base "place_of" 3 0 ["walk"] [0] m_place_of := fnk F_place_of g_place_of 0 ["walk"] [0] (fun _ _ _ _ _ _ us ws hl hl2 => match us, ws, hl, hl2 with | [], [_], _, _ => rfl) o_place_of
  have o__law_dip : Pm P w K mg base (L2.CX P w) 1 _ fd__law_dip _ (spM K m__law_dip) := ok__law_dip F__law_dip b_divmod b_int
  have c__law_dip : FnG P w K mg base "_law_dip" 1 m__law_dip := fng F__law_dip g__law_dip (fun _ _ _ _ _ _ us hl => match us, hl with | [_, _], _ => rfl) o__law_dip
  have o__law_one_of : Pm P w K mg base (L2.CX P w) 2 _ fd__law_one_of _ (spM K m__law_one_of) := ok__law_one_of F__law_one_of b_len c__law_dip
  have c__law_one_of : FnG P w K mg base "_law_one_of" 2 m__law_one_of := fng F__law_one_of g__law_one_of (fun _ _ _ _ _ _ us hl => match us, hl with | [_, _], _ => rfl) o__law_one_of
  have o__law_step : Pm P w K mg base (L2.CX P w) 1 _ fd__law_step _ (spM K m__law_step) := ok__law_step F__law_step
  have c__law_step : FnG P w K mg base "_law_step" 1 m__law_step := fng F__law_step g__law_step (fun _ _ _ _ _ _ us hl => match us, hl with | [_, _], _ => rfl) o__law_step
  have o__law_led : Pm P w K mg base (L2.CX P w) 2 _ fd__law_led _ (spM K m__law_led) := ok__law_led F__law_led c__law_step
  have c__law_led : FnG P w K mg base "_law_led" 2 m__law_led := fng F__law_led g__law_led (fun _ _ _ _ _ _ us hl => match us, hl with | [_], _ => rfl) o__law_led
  have o__law_stroll : Pm P w K mg base (L2.CX P w) 3 _ fd__law_stroll _ (spM K m__law_stroll) := ok__law_stroll F__law_stroll b_range c__law_dip c__law_one_of
  have c__law_stroll : FnG P w K mg base "_law_stroll" 3 m__law_stroll := fng F__law_stroll g__law_stroll (fun _ _ _ _ _ _ us hl => match us, hl with | [_, _, _], _ => rfl) o__law_stroll
  have o__law_direct : Pm P w K mg base (L2.CX P w) 1 _ fd__law_direct _ (spM K m__law_direct) := ok__law_direct F__law_direct b_range
  have c__law_direct : FnG P w K mg base "_law_direct" 1 m__law_direct := fng F__law_direct g__law_direct (fun _ _ _ _ _ _ us hl => match us, hl with | [_, _], _ => rfl) o__law_direct
  have o__law_right : Pm P w K mg base (L2.CX P w) 22 _ fd__law_right _ (spM K (m__law_right (tPK K))) := ok__law_right F__law_right b_len b_range b_repr b_sorted er__law_tried tb__law_right c__law_dip c__law_direct c__law_led c__law_one_of c__law_stroll c_direct_walk c_direct_walks c_place_of c_walked w_direct_walk_0_index_move w_place_of_0_walk
  have c__law_right : FnG P w K mg base "_law_right" 22 (m__law_right (tPK K)) := fng F__law_right g__law_right (fun _ _ _ _ _ _ us hl => match us, hl with | [_], _ => rfl) o__law_right
  exact ok_law F_law b_all b_len b_max b_min b_range c__law_right c__law_well
def tsT (tP : Str → Addr) : List (Addr × Str) := [(tP "_law_right", ("_law_right" : Str) ++ ".<locals>." ++ "<lambda>")]
theorem tsT_nd {w : World} {h : Heap} (K : PySem.W.Frag) (c : SaysW fa fn ts wr tf ex w h K) : ((tsT (tPK K)).map (·.1)).Nodup := by simp [tsT]
end A10

set_option Elab.async false
set_option linter.all false
set_option maxRecDepth 100000
set_option maxHeartbeats 0
open PySem PySem.W PySem.Calls PyProof.Rows
theorem PySem.Challenge.cw_arealots_k10_whole_direct_walks_in_order_holds : PySem.Challenge.rw_arealots_k10_whole_direct_walks_in_order.Holds := by
  w_on; o_law
  o_head A10.hk
  case hw => w_witness2
  case hc =>
    refine Ar.walkT (l := PySem.Challenge.rw_arealots_k10_whole_direct_walks_in_order) (n := 63) (k := 23) (x := "cells") rfl (by decide) rfl ⟨⟨rfl, by decide, by decide⟩, rfl⟩ ?F
    intro w mg fa h Y G hmg0
    obtain ⟨K, KX, c⟩ := Y
    have hmg : mg ("law" : PySem.Str) = some (.ref fa) := hmg0
    obtain ⟨fd, hb, hF⟩ := A10.facts (P := (PySem.Challenge.rw_arealots_k10_whole_direct_walks_in_order).prog) (w := w) KX G hmg c
    have nd : ((A10.tsT (A10.tPK K)).map (·.1)).Nodup := A10.tsT_nd K c
    refine ⟨K, fd, A10.m_law (A10.tPK K), A10.tf.map (He.cT K), A10.tsT (A10.tPK K), KX, fun p hp => ?_, fun p hp => ?_, fun p hp => ?_, rfl, nd, hb, A10.law_true (A10.tPK K), hF⟩
    · obtain ⟨q, hq, rfl⟩ := List.mem_map.mp hp
      exact c.mt q hq
    · obtain ⟨q, hq, rfl⟩ := List.mem_map.mp hp
      exact c.out q hq
    · obtain ⟨q, hq, rfl⟩ := List.mem_map.mp hp
      exact PySem.W.codeHd_of_K KX (c.hd q hq)
