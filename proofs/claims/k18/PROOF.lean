import PyProof.Rows.All
import Wide.All
import OpenK.AllK
import Wide.FinOn
import HandS.ForMost
import HandS.ForExc
import HandS.Wide
import HandS.WideMore
import HandS.Defaults
import HandS.Slots
import HandS.Lambda
import HandS.SlotsOwn
import HandS.IsInst
import HandS.Zip
import HandS.HeadHook2
import HandS.TupAny
import HandS.Style
import HandS.Flow
import KE.DataEq
import HandS.WideBits
import HandS.Iter
import HandS.Ends
import KE.GoesEnum
import KE.KStateDown
import HandS.Head0
import HandS.Head1
import HandS.Head2
import HandS.HeadEnd
import HandS.HeadHook3
import HandS.WrittenGet
import PyProof.StrBlock2
import PyProof.SliceStr2
import KE.KRevSl
import HandS.RaiseMore
import HandS.Star
import HandS.NoneIn
import KE.DataMinMax
import HandS.NamedTupGet
import HandS.Conv
import HandS.TupMul
import KE.KCallOwn
import KE.KFmtOwn
import PyProof.CallFns
import HandS.ClsMeth
import HandS.HotCalls
import HandS.ExcInit
import HandS.ExcIs
import HandS.ExcField
import KE.KTryMore
import HandS.EndTab
import HandS.HeadHook4
import HandS.MakeKwOnly
import HandS.ReplaceLit
import HandS.More
import HandS.FStr
import HandS.Text
import PySem.Challenge.RW_arealots_k18_lots_compared
set_option Elab.async false
set_option linter.all false
set_option maxRecDepth 100000
set_option maxHeartbeats 2000000
/-! Ar1: data D beside the layer's values, the second heap F of what never changes, results R, what simulates what -/
namespace Ar
open PySem PySem.Spec PyProof.Rows L2

/-! ### data -/
inductive D where
  | non | bl (b : Bool) | int (i : Int) | str (x : Str)
  | tup (ds : List D) | lst (ds : List D) | scr (ds : List D)
  | ins (C : Str) (fs : List (Str × D))
  | slt (C : Str) (ds : List D)
  | dK (kvs : List (Key × D))
  | loc (n : Nat)
  | glo (x : Str)
  | ty (n : String)
  | exn (a dd : Addr) (f : Str) (d : D)
  | adr (a : Addr)
  | clo (f c : Addr) (q : Str) (σ : L2.St) (Γ : List (Option D))
  deriving Inhabited
/-- what a place holds that may change -/
inductive MO where
  | dead
  | lst (ds : List D)
  | frz (ds : List D)
  | ins (C : Str) (fs : List (Str × D))
  | dK (kvs : List (Key × D))
  | dT (kvs : List (List Key × D))
  | tab (P : Addr) (q : Str)
  deriving Inhabited
abbrev Mu := List MO
abbrev Gam := List (Option D)
abbrev ExK := Str × Option (Str × D)

mutual
inductive Dn (K : PySem.W.Frag) (ρ : List Addr) (F : Hp) : V → D → Prop
  | non : Dn K ρ F .non .non
  | bl (b : Bool) : Dn K ρ F (.bl b) (.bl b)
  | int (i : Int) : Dn K ρ F (.int i) (.int i)
  | str (x : Str) : Dn K ρ F (.str x) (.str x)
  | tup {a : Addr} {vs : List V} {ds : List D} : SqT K F a vs → DnAll K ρ F vs ds → Dn K ρ F (.ref a) (.tup ds)
  | lst {a : Addr} {vs : List V} {ds : List D} : F a = some (.lst vs) → DnAll K ρ F vs ds → Dn K ρ F (.ref a) (.lst ds)
  | scr {a : Addr} {vs : List V} {ds : List D} : SqL K F a vs → DnAll K ρ F vs ds → Dn K ρ F (.ref a) (.scr ds)
  | ins {a dx : Addr} {C : Str} {vs : List (Str × V)} {fs : List (Str × D)} : F a = some (.ins (He.ga K C) dx vs) → DnF K ρ F vs fs → Dn K ρ F (.ref a) (.ins C fs)
  | slt {a dx : Addr} {C : Str} {vs : List V} {ds : List D} : F a = some (SlX.SlO a (He.ga K C) dx (vs.map some)) → F dx = some (.xd []) → DnAll K ρ F vs ds → Dn K ρ F (.ref a) (.slt C ds)
  | dK {a : Addr} {vs : List (Key × V)} {kvs : List (Key × D)} : F a = some (.dK vs) → DnK K ρ F vs kvs → Dn K ρ F (.ref a) (.dK kvs)
  | loc {a : Addr} {n : Nat} : ρ[n]? = some a → Dn K ρ F (.ref a) (.loc n)
  | glo (x : Str) : Dn K ρ F (.ref (He.ga K x)) (.glo x)
  | ty (n : String) : Dn K ρ F (.ty n) (.ty n)
  | exn {a dd : Addr} {f : Str} {v : V} {d : D} : F dd = some (.xd [(f, v)]) → Dn K ρ F v d → Dn K ρ F (.ref a) (.exn a dd f d)
  | adr (a : Addr) : Dn K ρ F (.ref a) (.adr a)
  | clo {f c : Addr} {q : Str} {σ : L2.St} {Γ : List (Option D)} : F c = some (LamX.CodeO c q) → DnO K ρ F σ Γ → Dn K ρ F (.ref f) (.clo f c q σ Γ)
inductive DnO (K : PySem.W.Frag) (ρ : List Addr) (F : Hp) : L2.St → List (Option D) → Prop
  | nil : DnO K ρ F [] []
  | skip {o : Option V} {σ : L2.St} {Γ : List (Option D)} : DnO K ρ F σ Γ → DnO K ρ F (o :: σ) (none :: Γ)
  | cons {v : V} {d : D} {σ : L2.St} {Γ : List (Option D)} : Dn K ρ F v d → DnO K ρ F σ Γ → DnO K ρ F (some v :: σ) (some d :: Γ)
inductive DnAll (K : PySem.W.Frag) (ρ : List Addr) (F : Hp) : List V → List D → Prop
  | nil : DnAll K ρ F [] []
  | cons {v : V} {vs : List V} {d : D} {ds : List D} : Dn K ρ F v d → DnAll K ρ F vs ds → DnAll K ρ F (v :: vs) (d :: ds)
inductive DnF (K : PySem.W.Frag) (ρ : List Addr) (F : Hp) : List (Str × V) → List (Str × D) → Prop
  | nil : DnF K ρ F [] []
  | cons {f : Str} {v : V} {vs : List (Str × V)} {d : D} {ds : List (Str × D)} : Dn K ρ F v d → DnF K ρ F vs ds → DnF K ρ F ((f, v) :: vs) ((f, d) :: ds)
inductive DnK (K : PySem.W.Frag) (ρ : List Addr) (F : Hp) : List (Key × V) → List (Key × D) → Prop
  | nil : DnK K ρ F [] []
  | cons {f : Key} {v : V} {vs : List (Key × V)} {d : D} {ds : List (Key × D)} : Dn K ρ F v d → DnK K ρ F vs ds → DnK K ρ F ((f, v) :: vs) ((f, d) :: ds)
end
/-- the same of a dict with tuple keys -/
inductive DnT (K : PySem.W.Frag) (ρ : List Addr) (F : Hp) : List (List Key × V) → List (List Key × D) → Prop
  | nil : DnT K ρ F [] []
  | cons {f : List Key} {v : V} {vs : List (List Key × V)} {d : D} {ds : List (List Key × D)} : Dn K ρ F v d → DnT K ρ F vs ds → DnT K ρ F ((f, v) :: vs) ((f, d) :: ds)

def Sub (F H : Hp) : Prop := ∀ a o, F a = some o → H a = some o
theorem Sub.refl (F : Hp) : Sub F F := fun _ _ h => h
theorem Sub.trans {F G H : Hp} (a : Sub F G) (b : Sub G H) : Sub F H := fun x o h => b x o (a x o h)
theorem Sub.rd {F H : Hp} {a : Addr} {u : HO} (e : Sub F H) (h : Rd F a u) : Rd H a u := by
  rcases h with h | ⟨o, h⟩
  · exact Or.inl (e a _ h)
  · exact Or.inr ⟨o, e a _ h⟩
theorem Sub.sqL {K : PySem.W.Frag} {F H : Hp} {a : Addr} {xs : List V} (e : Sub F H) (h : SqL K F a xs) : SqL K H a xs := by
  rcases h with h | h
  · exact Or.inl (e.rd h)
  · exact Or.inr h
theorem Sub.sqT {K : PySem.W.Frag} {F H : Hp} {a : Addr} {xs : List V} (e : Sub F H) (h : SqT K F a xs) : SqT K H a xs := by
  rcases h with h | h
  · exact Or.inl (e.rd h)
  · exact Or.inr h

section
variable {K : PySem.W.Frag} {ρ ρ' : List Addr} {F F' : Hp}
mutual
theorem Dn.mono (p : ∀ (n : Nat) a, ρ[n]? = some a → ρ'[n]? = some a) (e : Sub F F') : ∀ {v : V} {d : D}, Dn K ρ F v d → Dn K ρ' F' v d
  | _, _, .non => .non
  | _, _, .bl b => .bl b
  | _, _, .int i => .int i
  | _, _, .str x => .str x
  | _, _, .tup h t => .tup (e.sqT h) (DnAll.mono p e t)
  | _, _, .lst h t => .lst (e _ _ h) (DnAll.mono p e t)
  | _, _, .scr h t => .scr (e.sqL h) (DnAll.mono p e t)
  | _, _, .ins h t => .ins (e _ _ h) (DnF.mono p e t)
  | _, _, .slt h h2 t => .slt (e _ _ h) (e _ _ h2) (DnAll.mono p e t)
  | _, _, .dK h t => .dK (e _ _ h) (DnK.mono p e t)
  | _, _, .loc h => .loc (p _ _ h)
  | _, _, .glo x => .glo x
  | _, _, .ty n => .ty n
  | _, _, .exn h t => .exn (e _ _ h) (Dn.mono p e t)
  | _, _, .adr a => .adr a
  | _, _, .clo h t => .clo (e _ _ h) (DnO.mono p e t)
theorem DnO.mono (p : ∀ (n : Nat) a, ρ[n]? = some a → ρ'[n]? = some a) (e : Sub F F') : ∀ {σ : L2.St} {Γ : List (Option D)}, DnO K ρ F σ Γ → DnO K ρ' F' σ Γ
  | _, _, .nil => .nil
  | _, _, .skip t => .skip (DnO.mono p e t)
  | _, _, .cons h t => .cons (Dn.mono p e h) (DnO.mono p e t)
theorem DnAll.mono (p : ∀ (n : Nat) a, ρ[n]? = some a → ρ'[n]? = some a) (e : Sub F F') : ∀ {vs : List V} {ds : List D}, DnAll K ρ F vs ds → DnAll K ρ' F' vs ds
  | _, _, .nil => .nil
  | _, _, .cons h t => .cons (Dn.mono p e h) (DnAll.mono p e t)
theorem DnF.mono (p : ∀ (n : Nat) a, ρ[n]? = some a → ρ'[n]? = some a) (e : Sub F F') : ∀ {vs : List (Str × V)} {ds : List (Str × D)}, DnF K ρ F vs ds → DnF K ρ' F' vs ds
  | _, _, .nil => .nil
  | _, _, .cons h t => .cons (Dn.mono p e h) (DnF.mono p e t)
theorem DnK.mono (p : ∀ (n : Nat) a, ρ[n]? = some a → ρ'[n]? = some a) (e : Sub F F') : ∀ {vs : List (Key × V)} {ds : List (Key × D)}, DnK K ρ F vs ds → DnK K ρ' F' vs ds
  | _, _, .nil => .nil
  | _, _, .cons h t => .cons (Dn.mono p e h) (DnK.mono p e t)
end
theorem DnT.mono (p : ∀ (n : Nat) a, ρ[n]? = some a → ρ'[n]? = some a) (e : Sub F F') : ∀ {vs : List (List Key × V)} {ds : List (List Key × D)}, DnT K ρ F vs ds → DnT K ρ' F' vs ds
  | _, _, .nil => .nil
  | _, _, .cons h t => .cons (h.mono p e) (DnT.mono p e t)
theorem DnAll.length : ∀ {vs : List V} {ds : List D}, DnAll K ρ F vs ds → vs.length = ds.length
  | _, _, .nil => rfl
  | _, _, .cons _ t => congrArg Nat.succ (DnAll.length t)
theorem DnAll.get : ∀ {vs : List V} {ds : List D} {i : Nat} {d : D}, DnAll K ρ F vs ds → ds[i]? = some d → ∃ v, vs[i]? = some v ∧ Dn K ρ F v d
  | _, _, 0, _, .cons h _, e => ⟨_, rfl, by simp at e; subst e; exact h⟩
  | _, _, i + 1, _, .cons _ t, e => by
    obtain ⟨v, h1, h2⟩ := DnAll.get (i := i) t (by simpa using e)
    exact ⟨v, by simpa using h1, h2⟩
  | _, _, _, _, .nil, e => by simp at e
theorem DnAll.getV : ∀ {vs : List V} {ds : List D} {i : Nat} {v : V}, DnAll K ρ F vs ds → vs[i]? = some v → ∃ d, ds[i]? = some d ∧ Dn K ρ F v d
  | _, _, 0, _, .cons h _, e => ⟨_, rfl, by simp at e; subst e; exact h⟩
  | _, _, i + 1, _, .cons _ t, e => by
    obtain ⟨v, h1, h2⟩ := DnAll.getV (i := i) t (by simpa using e)
    exact ⟨v, by simpa using h1, h2⟩
  | _, _, _, _, .nil, e => by simp at e
theorem DnAll.append : ∀ {vs ws : List V} {ds es : List D}, DnAll K ρ F vs ds → DnAll K ρ F ws es → DnAll K ρ F (vs ++ ws) (ds ++ es)
  | _, _, _, _, .nil, t => t
  | _, _, _, _, .cons h r, t => .cons h (DnAll.append r t)
theorem DnAll.take : ∀ {vs : List V} {ds : List D} (n : Nat), DnAll K ρ F vs ds → DnAll K ρ F (vs.take n) (ds.take n)
  | _, _, 0, _ => .nil
  | _, _, _ + 1, .nil => .nil
  | _, _, n + 1, .cons h t => .cons h (DnAll.take n t)
theorem DnAll.drop : ∀ {vs : List V} {ds : List D} (n : Nat), DnAll K ρ F vs ds → DnAll K ρ F (vs.drop n) (ds.drop n)
  | _, _, 0, h => h
  | _, _, _ + 1, .nil => .nil
  | _, _, n + 1, .cons _ t => DnAll.drop n t
theorem DnAll.set {v : V} {d : D} (h : Dn K ρ F v d) : ∀ {vs : List V} {ds : List D} (n : Nat), DnAll K ρ F vs ds → DnAll K ρ F (vs.set n v) (ds.set n d)
  | _, _, _, .nil => .nil
  | _, _, 0, .cons _ t => .cons h t
  | _, _, n + 1, .cons q t => .cons q (DnAll.set h n t)
end

/-! ### the two heaps -/
def MOk (K : PySem.W.Frag) (ρ : List Addr) (F H : Hp) (a : Addr) : MO → Prop
  | .dead => ∃ o, H a = some o
  | .lst ds => F a = none ∧ ∃ vs, H a = some (.lst vs) ∧ DnAll K ρ F vs ds
  | .frz ds => ∃ vs, F a = some (.lst vs) ∧ DnAll K ρ F vs ds
  | .ins C fs => F a = none ∧ ∃ dx vs, H a = some (.ins (He.ga K C) dx vs) ∧ DnF K ρ F vs fs
  | .dK kvs => F a = none ∧ ∃ vs, H a = some (.dK vs) ∧ DnK K ρ F vs kvs
  | .dT kvs => F a = none ∧ ∃ vs, H a = some (.dT vs) ∧ DnT K ρ F vs kvs
  | .tab P q => a = P ∧ F a = none ∧ ∃ ps : Array Value, H a = some (.tbl ps) ∧ TriplesOk ps.toList ∧ ∀ (pos : Pos) (cv : Value), codeAmong pos ps.toList = some cv → ∃ c, cv = .ref c ∧ F c = some (LamX.CodeO c q)

structure HpOk (K : PySem.W.Frag) (ρ : List Addr) (μ : Mu) (F H : Hp) : Prop where
  ex : Sub F H
  len : μ.length = ρ.length
  nd : ρ.Nodup
  mu : ∀ (n : Nat) a o, ρ[n]? = some a → μ[n]? = some o → MOk K ρ F H a o

/-- growth -/
structure Nx (ρ : List Addr) (F H : Hp) (ρ' : List Addr) (F' H' : Hp) : Prop where
  pre : ∀ (n : Nat) a, ρ[n]? = some a → ρ'[n]? = some a
  ex : Sub F F'
  keep : ∀ a o, H a = some o → a ∉ ρ → H' a = some o
  newR : ∀ a, a ∈ ρ' → a ∈ ρ ∨ H a = none
  newF : ∀ a o, F' a = some o → F a = some o ∨ H a = none ∨ a ∈ ρ
  there : ∀ a, H' a = none → H a = none

section
variable {K : PySem.W.Frag} {ρ ρ' ρ'' : List Addr} {F F' F'' H H' H'' : Hp} {μ μ' : Mu}
theorem Nx.refl : Nx ρ F H ρ F H := ⟨fun _ _ h => h, fun _ _ h => h, fun _ _ h _ => h, fun _ h => .inl h, fun _ _ h => .inl h, fun _ h => h⟩
theorem Nx.mem (x : Nx ρ F H ρ' F' H') {a : Addr} (h : a ∈ ρ) : a ∈ ρ' := by
  obtain ⟨n, e⟩ := List.mem_iff_getElem?.mp h
  exact List.mem_of_getElem? (x.pre n a e)
theorem Nx.trans (a : Nx ρ F H ρ' F' H') (b : Nx ρ' F' H' ρ'' F'' H'') : Nx ρ F H ρ'' F'' H'' where
  pre := fun n x h => b.pre n x (a.pre n x h)
  ex := a.ex.trans b.ex
  keep := fun x o h hn => b.keep x o (a.keep x o h hn) fun z => by
    rcases a.newR x z with z | z
    · exact hn z
    · rw [h] at z
      cases z
  newR := fun x h => by
    rcases b.newR x h with z | z
    · exact a.newR x z
    · exact .inr (a.there x z)
  newF := fun x o h => by
    rcases b.newF x o h with z | z | z
    · exact a.newF x o z
    · exact .inr (.inl (a.there x z))
    · rcases a.newR x z with y | y
      · exact .inr (.inr y)
      · exact .inr (.inl y)
  there := fun x h => a.there x (b.there x h)
theorem Dn.nx (x : Nx ρ F H ρ' F' H') {v : V} {d : D} (h : Dn K ρ F v d) : Dn K ρ' F' v d := h.mono x.pre x.ex
theorem DnAll.nx (x : Nx ρ F H ρ' F' H') {v : List V} {d : List D} (h : DnAll K ρ F v d) : DnAll K ρ' F' v d := h.mono x.pre x.ex

theorem HpOk.tracked (k : HpOk K ρ μ F H) {n : Nat} {a : Addr} (e : ρ[n]? = some a) : ∃ o, H a = some o := by
  have hn : n < μ.length := by
    rw [k.len]
    exact (List.getElem?_eq_some_iff.mp e).1
  have h := k.mu n a μ[n] e (List.getElem?_eq_getElem hn)
  cases hm : μ[n] with
  | dead => rw [hm] at h; exact h
  | lst ds => rw [hm] at h; obtain ⟨_, vs, e1, _⟩ := h; exact ⟨_, e1⟩
  | frz ds => rw [hm] at h; obtain ⟨vs, e1, _⟩ := h; exact ⟨_, k.ex _ _ e1⟩
  | ins C fs => rw [hm] at h; obtain ⟨_, dx, vs, e1, _⟩ := h; exact ⟨_, e1⟩
  | dK kvs => rw [hm] at h; obtain ⟨_, vs, e1, _⟩ := h; exact ⟨_, e1⟩
  | dT kvs => rw [hm] at h; obtain ⟨_, vs, e1, _⟩ := h; exact ⟨_, e1⟩
  | tab P q => rw [hm] at h; obtain ⟨_, _, ps, e1, _⟩ := h; exact ⟨_, e1⟩
theorem HpOk.fresh (k : HpOk K ρ μ F H) {a : Addr} (h : H a = none) : a ∉ ρ := fun z => by
  obtain ⟨n, e⟩ := List.mem_iff_getElem?.mp z
  obtain ⟨o, q⟩ := k.tracked e
  rw [h] at q
  cases q
theorem HpOk.freshF (k : HpOk K ρ μ F H) {a : Addr} (h : H a = none) : F a = none := by
  cases e : F a with
  | none => rfl
  | some o =>
    rw [k.ex a o e] at h
    cases h
/-- a place's entry stays where F grows and its object stays -/
theorem MOk.mono {a : Addr} {o : MO} (h : MOk K ρ F H a o) (p : ∀ (n : Nat) a, ρ[n]? = some a → ρ'[n]? = some a) (e : Sub F F') (ha : H' a = H a) (hf : F a = none → F' a = none) : MOk K ρ' F' H' a o := by
  cases o with
  | dead => obtain ⟨o, q⟩ := h; exact ⟨o, by rw [ha]; exact q⟩
  | lst ds => obtain ⟨z, vs, q, t⟩ := h; exact ⟨hf z, vs, by rw [ha]; exact q, t.mono p e⟩
  | frz ds => obtain ⟨vs, q, t⟩ := h; exact ⟨vs, e _ _ q, t.mono p e⟩
  | ins C fs => obtain ⟨z, dx, vs, q, t⟩ := h; exact ⟨hf z, dx, vs, by rw [ha]; exact q, t.mono p e⟩
  | dK kvs => obtain ⟨z, vs, q, t⟩ := h; exact ⟨hf z, vs, by rw [ha]; exact q, t.mono p e⟩
  | dT kvs => obtain ⟨z, vs, q, t⟩ := h; exact ⟨hf z, vs, by rw [ha]; exact q, t.mono p e⟩
  | tab P q =>
    obtain ⟨z0, z, ps, q1, q2, q3⟩ := h
    exact ⟨z0, hf z, ps, by rw [ha]; exact q1, q2, fun pos cv hc => by obtain ⟨c, e1, e2⟩ := q3 pos cv hc; exact ⟨c, e1, e _ _ e2⟩⟩
/-- a new object that never changes -/
theorem HpOk.newF (k : HpOk K ρ μ F H) {p : Addr} {o : HO} (hp : H p = none) : HpOk K ρ μ (upd F p o) (upd H p o) := by
  have sub : Sub F (upd F p o) := fun a u e => by
    rw [upd_ne (ne_of_none (k.ex a u e) hp)]
    exact e
  refine ⟨fun a u e => ?_, k.len, k.nd, fun n a u e1 e2 => ?_⟩
  · by_cases h : a = p
    · subst h
      rw [upd_same] at e ⊢
      exact e
    · rw [upd_ne h] at e ⊢
      exact k.ex a u e
  · obtain ⟨w, hw⟩ := k.tracked e1
    have ne : a ≠ p := ne_of_none hw hp
    exact (k.mu n a u e1 e2).mono (fun _ _ h => h) sub (upd_ne ne) fun z => by rw [upd_ne ne]; exact z
theorem Nx.newF_ (k : HpOk K ρ μ F H) {p : Addr} {o : HO} (hp : H p = none) : Nx ρ F H ρ (upd F p o) (upd H p o) := by
  refine ⟨fun _ _ h => h, fun a u e => ?_, fun a u e _ => ?_, fun _ h => .inl h, fun a u e => ?_, fun a e => ?_⟩
  · rw [upd_ne (ne_of_none (k.ex a u e) hp)]; exact e
  · rw [upd_ne (ne_of_none e hp)]; exact e
  · by_cases h : a = p
    · subst h; exact .inr (.inl hp)
    · rw [upd_ne h] at e; exact .inl e
  · by_cases h : a = p
    · subst h; exact hp
    · rw [upd_ne h] at e; exact e
/-- an object beside, tracked but not told of -/
theorem HpOk.beside (k : HpOk K ρ μ F H) {p : Addr} {o : HO} (hp : p ∉ ρ) (hf : F p = none) : HpOk K ρ μ F (upd H p o) := by
  refine ⟨fun a u e => ?_, k.len, k.nd, fun n a u e1 e2 => ?_⟩
  · rw [upd_ne fun z => by subst z; rw [hf] at e; cases e]
    exact k.ex a u e
  · have ne : a ≠ p := fun z => by subst z; exact hp (List.mem_of_getElem? e1)
    exact (k.mu n a u e1 e2).mono (fun _ _ h => h) (fun _ _ h => h) (upd_ne ne) fun z => z
/-- a place is written -/
theorem HpOk.write (k : HpOk K ρ μ F H) {n : Nat} {a : Addr} {o : HO} {m : MO} (e : ρ[n]? = some a) (hf : F a = none) (new : MOk K ρ F (upd H a o) a m) : HpOk K ρ (μ.set n m) F (upd H a o) := by
  have hn : n < μ.length := by
    rw [k.len]
    exact (List.getElem?_eq_some_iff.mp e).1
  refine ⟨fun b u q => ?_, by rw [List.length_set]; exact k.len, k.nd, fun j b u e1 e2 => ?_⟩
  · rw [upd_ne fun z => by subst z; rw [hf] at q; cases q]
    exact k.ex b u q
  · by_cases h : j = n
    · subst h
      rw [List.getElem?_set_self hn] at e2
      rw [e] at e1
      cases e1
      cases e2
      exact new
    · rw [List.getElem?_set_ne (Ne.symm h)] at e2
      have ne : b ≠ a := fun z => by
        subst z
        obtain ⟨h1, q1⟩ := List.getElem?_eq_some_iff.mp e1
        obtain ⟨h2, q2⟩ := List.getElem?_eq_some_iff.mp e
        exact h ((List.getElem_inj k.nd).mp (q1.trans q2.symm))
      exact (k.mu j b u e1 e2).mono (fun _ _ h => h) (fun _ _ h => h) (upd_ne ne) fun z => z
theorem Nx.write_ {n : Nat} {a : Addr} {o : HO} (e : ρ[n]? = some a) (hf : F a = none) (ht : H a ≠ none) : Nx ρ F H ρ F (upd H a o) := by
  refine ⟨fun _ _ h => h, fun _ _ h => h, fun b u q hb => ?_, fun _ h => .inl h, fun _ _ h => .inl h, fun b q => ?_⟩
  · rw [upd_ne fun z => hb (by rw [z]; exact List.mem_of_getElem? e)]; exact q
  · by_cases h : b = a
    · subst h; rw [upd_same] at q; cases q
    · rw [upd_ne h] at q; exact q
/-- a new place -/
theorem HpOk.newM (k : HpOk K ρ μ F H) {p : Addr} {o : HO} {m : MO} (hp : H p = none) (new : MOk K (ρ ++ [p]) F (upd H p o) p m) : HpOk K (ρ ++ [p]) (μ ++ [m]) F (upd H p o) := by
  have pf := k.freshF hp
  have pr := k.fresh hp
  have pre : ∀ (n : Nat) a, ρ[n]? = some a → (ρ ++ [p])[n]? = some a := fun n a e => by
    rw [List.getElem?_append_left (List.getElem?_eq_some_iff.mp e).1]; exact e
  refine ⟨fun a u e => ?_, by simp [k.len], ?_, fun j b u e1 e2 => ?_⟩
  · rw [upd_ne fun z => by subst z; rw [pf] at e; cases e]
    exact k.ex a u e
  · rw [List.nodup_append]
    refine ⟨k.nd, by simp, fun a ha b hb => ?_⟩
    have : b = p := by simpa using hb
    subst this
    intro z
    subst z
    exact pr ha
  · by_cases h : j < ρ.length
    · rw [List.getElem?_append_left h] at e1
      rw [List.getElem?_append_left (by rw [k.len]; exact h)] at e2
      have ne : b ≠ p := fun z => by subst z; exact pr (List.mem_of_getElem? e1)
      exact (k.mu j b u e1 e2).mono pre (fun _ _ h => h) (upd_ne ne) fun z => z
    · have hj : j < (ρ ++ [p]).length := (List.getElem?_eq_some_iff.mp e1).1
      rw [List.length_append, List.length_singleton] at hj
      have hj : j = ρ.length := by omega
      subst hj
      have eb : b = p := by simpa using e1.symm
      have eu : u = m := by
        rw [← k.len] at e2
        simpa using e2.symm
      subst eb eu
      exact new
theorem Nx.newM_ (k : HpOk K ρ μ F H) {p : Addr} {o : HO} (hp : H p = none) : Nx ρ F H (ρ ++ [p]) F (upd H p o) := by
  refine ⟨fun n a e => ?_, fun _ _ h => h, fun a u e _ => ?_, fun a h => ?_, fun _ _ h => .inl h, fun a e => ?_⟩
  · rw [List.getElem?_append_left (List.getElem?_eq_some_iff.mp e).1]; exact e
  · rw [upd_ne (ne_of_none e hp)]; exact e
  · rcases List.mem_append.mp h with h | h
    · exact .inl h
    · have : a = p := by simpa using h
      subst this
      exact .inr hp
  · by_cases h : a = p
    · subst h; exact hp
    · rw [upd_ne h] at e; exact e
/-- a list of ours is frozen -/
theorem HpOk.freeze (k : HpOk K ρ μ F H) {n : Nat} {a : Addr} {ds : List D} {vs : List V} (e : ρ[n]? = some a) (hf : F a = none) (hv : H a = some (.lst vs)) (hd : DnAll K ρ F vs ds) :
    HpOk K ρ (μ.set n (.frz ds)) (upd F a (.lst vs)) H ∧ Nx ρ F H ρ (upd F a (.lst vs)) H := by
  have hn : n < μ.length := by
    rw [k.len]
    exact (List.getElem?_eq_some_iff.mp e).1
  have sub : Sub F (upd F a (.lst vs)) := fun b u q => by
    rw [upd_ne fun z => by subst z; rw [hf] at q; cases q]
    exact q
  refine ⟨⟨fun b u q => ?_, by rw [List.length_set]; exact k.len, k.nd, fun j b u e1 e2 => ?_⟩, ⟨fun _ _ h => h, sub, fun _ _ h _ => h, fun _ h => .inl h, fun b u q => ?_, fun _ h => h⟩⟩
  · by_cases h : b = a
    · subst h
      rw [upd_same] at q
      cases q
      exact hv
    · rw [upd_ne h] at q
      exact k.ex b u q
  · by_cases h : j = n
    · subst h
      rw [List.getElem?_set_self hn] at e2
      rw [e] at e1
      cases e1
      cases e2
      exact ⟨vs, upd_same, hd.mono (fun _ _ h => h) sub⟩
    · rw [List.getElem?_set_ne (Ne.symm h)] at e2
      have ne : b ≠ a := fun z => by
        subst z
        obtain ⟨h1, q1⟩ := List.getElem?_eq_some_iff.mp e1
        obtain ⟨h2, q2⟩ := List.getElem?_eq_some_iff.mp e
        exact h ((List.getElem_inj k.nd).mp (q1.trans q2.symm))
      exact (k.mu j b u e1 e2).mono (fun _ _ h => h) sub rfl fun z => by rw [upd_ne ne]; exact z
  · by_cases h : b = a
    · subst h; exact .inr (.inr (List.mem_of_getElem? e))
    · rw [upd_ne h] at q; exact .inl q
end

/-! ### results -/
inductive R (α : Type) where
  | ok (a : α) (μ : Mu)
  | exc (e : ExK) (μ : Mu)
  | stk
def R.bind {α β : Type} : R α → (α → Mu → R β) → R β
  | .ok a μ, f => f a μ
  | .exc e μ, _ => .exc e μ
  | .stk, _ => .stk
def WpR {α : Type} (r : R α) (Q : α → Mu → Prop) (X : ExK → Mu → Prop) : Prop := match r with
  | .ok a μ => Q a μ
  | .exc e μ => X e μ
  | .stk => False
theorem WpR.bind {α β : Type} {r : R α} {f : α → Mu → R β} {Q : β → Mu → Prop} {X : ExK → Mu → Prop} (h : WpR (r.bind f) Q X) : WpR r (fun a μ => WpR (f a μ) Q X) X := by
  cases r with
  | ok a μ => exact h
  | exc e μ => exact h
  | stk => exact h
theorem WpR.mono {α : Type} {r : R α} {Q Q' : α → Mu → Prop} {X X' : ExK → Mu → Prop} (h : WpR r Q X) (hq : ∀ a μ, Q a μ → Q' a μ) (hx : ∀ e μ, X e μ → X' e μ) : WpR r Q' X' := by
  cases r with
  | ok a μ => exact hq _ _ h
  | exc e μ => exact hx _ _ h
  | stk => exact h
/-- from an option -/
def R.of {α : Type} (μ : Mu) : Option α → R α
  | some a => .ok a μ
  | none => .stk
theorem WpR.of {α : Type} {μ : Mu} {o : Option α} {Q : α → Mu → Prop} {X : ExK → Mu → Prop} (h : WpR (R.of μ o) Q X) : ∃ a, o = some a ∧ Q a μ := by
  cases o with
  | some a => exact ⟨a, rfl, h⟩
  | none => exact False.elim h
/-- no exception may come -/
def R.nox {α : Type} : R α → R α
  | .ok a μ => .ok a μ
  | _ => .stk
theorem WpR.nox {α : Type} {r : R α} {Q : α → Mu → Prop} {X X' : ExK → Mu → Prop} (h : WpR r.nox Q X) : WpR r Q X' := by
  cases r with
  | ok a μ => exact h
  | exc e μ => exact False.elim h
  | stk => exact False.elim h
/-- how a statement ends -/
inductive RS where
  | nx (Γ : Gam) (μ : Mu)
  | rt (d : D) (μ : Mu)
  | bk (Γ : Gam) (μ : Mu)
  | ct (Γ : Gam) (μ : Mu)
  | exc (e : ExK) (μ : Mu)
  | stk
structure PE4 where
  nx : Gam → Mu → Prop
  rt : D → Mu → Prop
  bk : Gam → Mu → Prop
  ct : Gam → Mu → Prop
  ex : ExK → Mu → Prop
def WpS (r : RS) (P : PE4) : Prop := match r with
  | .nx Γ μ => P.nx Γ μ
  | .rt d μ => P.rt d μ
  | .bk Γ μ => P.bk Γ μ
  | .ct Γ μ => P.ct Γ μ
  | .exc e μ => P.ex e μ
  | .stk => False
def R.thenS {α : Type} : R α → (α → Mu → RS) → RS
  | .ok a μ, f => f a μ
  | .exc e μ, _ => .exc e μ
  | .stk, _ => .stk
theorem WpS.thenS {α : Type} {r : R α} {f : α → Mu → RS} {P : PE4} (h : WpS (r.thenS f) P) : WpR r (fun a μ => WpS (f a μ) P) P.ex := by
  cases r with
  | ok a μ => exact h
  | exc e μ => exact h
  | stk => exact h
def RS.thenN : RS → (Gam → Mu → RS) → RS
  | .nx Γ μ, f => f Γ μ
  | r, _ => r
theorem WpS.thenN {r : RS} {f : Gam → Mu → RS} {P : PE4} (h : WpS (r.thenN f) P) : WpS r { P with nx := fun Γ μ => WpS (f Γ μ) P } := by
  cases r <;> exact h
theorem WpS.mono {r : RS} {P P' : PE4} (h : WpS r P) (h1 : ∀ Γ μ, P.nx Γ μ → P'.nx Γ μ) (h2 : ∀ d μ, P.rt d μ → P'.rt d μ) (h3 : ∀ Γ μ, P.bk Γ μ → P'.bk Γ μ) (h4 : ∀ Γ μ, P.ct Γ μ → P'.ct Γ μ) (h5 : ∀ e μ, P.ex e μ → P'.ex e μ) : WpS r P' := by
  cases r with
  | nx Γ μ => exact h1 _ _ h
  | rt d μ => exact h2 _ _ h
  | bk Γ μ => exact h3 _ _ h
  | ct Γ μ => exact h4 _ _ h
  | exc e μ => exact h5 _ _ h
  | stk => exact h

abbrev DE := Gam → Mu → R D
abbrev DT := Gam → Mu → R Bool
abbrev DA := Gam → Mu → R (List D)
abbrev DS := Gam → Mu → RS
abbrev DG := D → Gam → Mu → R Gam
abbrev DO := Gam → Mu → R (Option Int)

/-! ### what simulates what -/
structure Slots (K : PySem.W.Frag) (ρ : List Addr) (F : Hp) (Γ : Gam) (σ : L2.St) : Prop where
  len : Γ.length = σ.length
  at_ : ∀ (i : Nat) d, Γ[i]? = some (some d) → ∃ v, σ[i]? = some (some v) ∧ Dn K ρ F v d
theorem Slots.nx {K : PySem.W.Frag} {ρ ρ' : List Addr} {F F' H H' : Hp} {Γ : Gam} {σ : L2.St} (x : Nx ρ F H ρ' F' H') (h : Slots K ρ F Γ σ) : Slots K ρ' F' Γ σ := ⟨h.len, fun i d e =>
  let ⟨v, a, b⟩ := h.at_ i d e
  ⟨v, a, b.nx x⟩⟩
theorem Slots.set {K : PySem.W.Frag} {ρ : List Addr} {F : Hp} {Γ : Gam} {σ : L2.St} (h : Slots K ρ F Γ σ) {v : V} {d : D} (r : Dn K ρ F v d) (i : Nat) : Slots K ρ F (Γ.set i (some d)) (σ.set i (some v)) := by
  refine ⟨by rw [List.length_set, List.length_set]; exact h.len, fun j e hj => ?_⟩
  by_cases hi : i = j
  · subst hi
    have hl : i < Γ.length := by
      have := (List.getElem?_eq_some_iff.mp hj).1
      rw [List.length_set] at this
      exact this
    rw [List.getElem?_set_self hl] at hj
    cases hj
    exact ⟨v, List.getElem?_set_self (by rw [← h.len]; exact hl), r⟩
  · rw [List.getElem?_set_ne hi] at hj ⊢
    exact h.at_ j e hj
theorem Slots.unset {K : PySem.W.Frag} {ρ : List Addr} {F : Hp} {Γ : Gam} {σ : L2.St} (h : Slots K ρ F Γ σ) (o : Option V) (i : Nat) : Slots K ρ F (Γ.set i none) (σ.set i o) := by
  refine ⟨by rw [List.length_set, List.length_set]; exact h.len, fun j e hj => ?_⟩
  by_cases hi : i = j
  · subst hi
    have hl : i < Γ.length := by
      have := (List.getElem?_eq_some_iff.mp hj).1
      rw [List.length_set] at this
      exact this
    rw [List.getElem?_set_self hl] at hj
    cases hj
  · rw [List.getElem?_set_ne hi] at hj ⊢
    exact h.at_ j e hj

/-- what is wanted of an exception, in terms of data -/
def XOf (K : PySem.W.Frag) (E : XK) (e : ExK) (ρ : List Addr) (F H : Hp) : Prop := match e with
  | (x, none) => E (.ref (He.ga K x)) none H
  | (x, some (f, d)) => ∀ dd v, F dd = some (.xd [(f, v)]) → Dn K ρ F v d → E (.ref (He.ga K x)) (some dd) H
def XP (K : PySem.W.Frag) (E : XK) (ρ : List Addr) (F H : Hp) : ExK → Mu → Prop := fun e μ' => ∀ ρ' F' H', Nx ρ F H ρ' F' H' → HpOk K ρ' μ' F' H' → XOf K E e ρ' F' H'
theorem XP.nx {K : PySem.W.Frag} {E : XK} {ρ ρ' : List Addr} {F F' H H' : Hp} (x : Nx ρ F H ρ' F' H') {e : ExK} {μ : Mu} (h : XP K E ρ F H e μ) : XP K E ρ' F' H' e μ := fun ρ2 F2 H2 y k => h ρ2 F2 H2 (x.trans y) k

/-- the end of an expression -/
def QV (K : PySem.W.Frag) (ρ : List Addr) (F H : Hp) (Q : VK) : D → Mu → Prop := fun d μ' => ∀ ρ' F' H' v, Nx ρ F H ρ' F' H' → HpOk K ρ' μ' F' H' → Dn K ρ' F' v d → Q v H'
theorem QV.nx {K : PySem.W.Frag} {ρ ρ' : List Addr} {F F' H H' : Hp} {Q : VK} (x : Nx ρ F H ρ' F' H') {d : D} {μ : Mu} (h : QV K ρ F H Q d μ) : QV K ρ' F' H' Q d μ := fun ρ2 F2 H2 v y k r => h ρ2 F2 H2 v (x.trans y) k r
def SimE (K : PySem.W.Frag) (E : XK) (te : TE) (de : DE) : Prop := ∀ (ρ : List Addr) (F H : Hp) (Γ : Gam) (μ : Mu) (σ : L2.St), HpOk K ρ μ F H → Slots K ρ F Γ σ → ∀ Q : VK, WpR (de Γ μ) (QV K ρ F H Q) (XP K E ρ F H) → te σ H Q
def SimT (K : PySem.W.Frag) (E : XK) (tt : TT) (dt : DT) : Prop := ∀ (ρ : List Addr) (F H : Hp) (Γ : Gam) (μ : Mu) (σ : L2.St), HpOk K ρ μ F H → Slots K ρ F Γ σ → ∀ Q : Bool → Hp → Prop,
  WpR (dt Γ μ) (fun b μ' => ∀ ρ' F' H', Nx ρ F H ρ' F' H' → HpOk K ρ' μ' F' H' → Q b H') (XP K E ρ F H) → tt σ H Q
def SimA (K : PySem.W.Frag) (E : XK) (ta : TA) (da : DA) : Prop := ∀ (ρ : List Addr) (F H : Hp) (Γ : Gam) (μ : Mu) (σ : L2.St), HpOk K ρ μ F H → Slots K ρ F Γ σ → ∀ Q : List V → Hp → Prop,
  WpR (da Γ μ) (fun ds μ' => ∀ ρ' F' H' vs, Nx ρ F H ρ' F' H' → HpOk K ρ' μ' F' H' → DnAll K ρ' F' vs ds → Q vs H') (XP K E ρ F H) → ta σ H Q
def SimO (K : PySem.W.Frag) (E : XK) (to : TO) (do_ : DO) : Prop := ∀ (ρ : List Addr) (F H : Hp) (Γ : Gam) (μ : Mu) (σ : L2.St), HpOk K ρ μ F H → Slots K ρ F Γ σ → ∀ Q : Option Int → Hp → Prop,
  WpR (do_ Γ μ) (fun b μ' => ∀ ρ' F' H', Nx ρ F H ρ' F' H' → HpOk K ρ' μ' F' H' → Q b H') (XP K E ρ F H) → to σ H Q
def SimG (K : PySem.W.Frag) (E : XK) (g : TG) (dg : DG) : Prop := ∀ (ρ : List Addr) (F H : Hp) (Γ : Gam) (μ : Mu) (σ : L2.St) (v : V) (d : D), HpOk K ρ μ F H → Slots K ρ F Γ σ → Dn K ρ F v d → ∀ Q : L2.St → Hp → Prop,
  WpR (dg d Γ μ) (fun Γ' μ' => ∀ ρ' F' H' σ', Nx ρ F H ρ' F' H' → HpOk K ρ' μ' F' H' → Slots K ρ' F' Γ' σ' → Q σ' H') (XP K E ρ F H) → g v σ H Q
def QS (K : PySem.W.Frag) (E : XK) (ρ : List Addr) (F H : Hp) (D : Ends) : PE4 where
  nx := fun Γ μ => ∀ ρ' F' H' σ', Nx ρ F H ρ' F' H' → HpOk K ρ' μ F' H' → Slots K ρ' F' Γ σ' → D.nx σ' H'
  rt := QV K ρ F H D.rt
  bk := fun Γ μ => ∀ ρ' F' H' σ', Nx ρ F H ρ' F' H' → HpOk K ρ' μ F' H' → Slots K ρ' F' Γ σ' → D.bk σ' H'
  ct := fun Γ μ => ∀ ρ' F' H' σ', Nx ρ F H ρ' F' H' → HpOk K ρ' μ F' H' → Slots K ρ' F' Γ σ' → D.ct σ' H'
  ex := XP K E ρ F H
def SimS (K : PySem.W.Frag) (E : XK) (ts : TS) (ds : DS) : Prop := ∀ (ρ : List Addr) (F H : Hp) (Γ : Gam) (μ : Mu) (σ : L2.St), HpOk K ρ μ F H → Slots K ρ F Γ σ → ∀ D : Ends, WpS (ds Γ μ) (QS K E ρ F H D) → ts D σ H
theorem QS.nx_ {K : PySem.W.Frag} {E : XK} {ρ ρ' : List Addr} {F F' H H' : Hp} {D : Ends} (x : Nx ρ F H ρ' F' H') {r : RS} (h : WpS r (QS K E ρ F H D)) : WpS r (QS K E ρ' F' H' D) :=
  h.mono (fun Γ μ q ρ2 F2 H2 σ2 y k s => q ρ2 F2 H2 σ2 (x.trans y) k s) (fun d μ q => QV.nx x q) (fun Γ μ q ρ2 F2 H2 σ2 y k s => q ρ2 F2 H2 σ2 (x.trans y) k s) (fun Γ μ q ρ2 F2 H2 σ2 y k s => q ρ2 F2 H2 σ2 (x.trans y) k s) (fun e μ q => XP.nx x q)

/-- what is walked: the items ds, while what never changes stands -/
structure ItOk (K : PySem.W.Frag) (ρ : List Addr) (F : Hp) (J : It) (ds : List D) : Prop where
  go : ∀ i H, Sub F H → i < ds.length → J.go i H
  stop : ∀ i H, Sub F H → i = ds.length → J.stop i H
  yld : ∀ i ρ' F' H μ' x H', Sub F F' → (∀ (n : Nat) a, ρ[n]? = some a → ρ'[n]? = some a) → HpOk K ρ' μ' F' H → J.yld i H x H' → i < ds.length → ∃ d F2, ds[i]? = some d ∧ Nx ρ' F' H ρ' F2 H' ∧ HpOk K ρ' μ' F2 H' ∧ Dn K ρ' F2 x d
def SimI (K : PySem.W.Frag) (E : XK) (wi : TI) (di : DA) : Prop := ∀ (ρ : List Addr) (F H : Hp) (Γ : Gam) (μ : Mu) (σ : L2.St), HpOk K ρ μ F H → Slots K ρ F Γ σ → ∀ Rr : It → Hp → Prop,
  WpR (di Γ μ) (fun ds μ' => ∀ ρ' F' H' J, Nx ρ F H ρ' F' H' → HpOk K ρ' μ' F' H' → ItOk K ρ' F' J ds → Rr J H') (XP K E ρ F H) → wi σ H Rr
end Ar

set_option Elab.async false
set_option linter.all false
set_option maxRecDepth 100000
set_option maxHeartbeats 2000000
/-! Ar2: expressions -/
namespace Ar
open PySem PySem.Spec PyProof.Rows L2

/-! ### judgements: the syntax and its combinator -/
structure QE (X : Cx) (E : XK) (e : Expr) (de : DE) : Prop where
  ex : ∃ te, PE X e te ∧ SimE X.K E te de
structure QT (X : Cx) (E : XK) (e : Expr) (dt : DT) : Prop where
  ex : ∃ tt, PT X e tt ∧ SimT X.K E tt dt
structure QW (X : Cx) (E : XK) (e : Expr) (dt : DT) : Prop where
  ex : ∃ tt, PW X e tt ∧ SimT X.K E tt dt
structure QA (X : Cx) (E : XK) (es : List Expr) (da : DA) : Prop where
  ex : ∃ ta, PA X es ta ∧ SimA X.K E ta da
structure QO (X : Cx) (E : XK) (e : Option Expr) (do_ : DO) : Prop where
  ex : ∃ to, PO X e to ∧ SimO X.K E to do_
structure QG (X : Cx) (E : XK) (e : Expr) (dg : DG) : Prop where
  ex : ∃ g, PG X e g ∧ SimG X.K E g dg
structure QSt (X : Cx) (E : XK) (st : Stmt) (ds : DS) : Prop where
  ex : ∃ ts, PS X st ts ∧ SimS X.K E ts ds
structure QSs (X : Cx) (E : XK) (st : List Stmt) (ds : DS) : Prop where
  ex : ∃ ts, PSs X st ts ∧ SimS X.K E ts ds
structure QI (X : Cx) (E : XK) (tg iter : Expr) (di : DA) : Prop where
  ex : ∃ wi, PI X tg iter wi ∧ SimI X.K E wi di

/-! ### values -/
def dVar (i : Nat) : DE := fun Γ μ => match Γ[i]? with
  | some (some d) => .ok d μ
  | _ => .stk
def dC (d : D) : DE := fun _ μ => .ok d μ
section
variable {X : Cx} {E : XK}
theorem sim_var {K : PySem.W.Frag} {i : Nat} : SimE K E (tVar i) (dVar i) := by
  intro ρ F H Γ μ σ k s Q h
  unfold dVar at h
  split at h
  · rename_i d e
    obtain ⟨v, e1, r⟩ := s.at_ i d e
    exact ⟨v, e1, h ρ F H v Nx.refl k r⟩
  · exact False.elim h
theorem sim_c {K : PySem.W.Frag} {v : V} {d : D} (hv : ∀ ρ F, Dn K ρ F v d) : SimE K E (tC v) (dC d) := by
  intro ρ F H Γ μ σ k s Q h
  exact h ρ F H v Nx.refl k (hv ρ F)
theorem qv (i : Nat) {x : Str} {pos : Pos} (hN : X.N[i]? = some x := by rfl) (hv : Vis X.env.scope x := by first | exact Or.inl rfl | exact Or.inr (Or.inl rfl) | exact Or.inr (Or.inr rfl)) (hd : (x == ("__debug__" : Str)) = false := by decide)
    (hcd : (x == ("__classdict__" : Str)) = false := by decide) : QE X E (.Name x pos) (dVar i) := ⟨_, pe_var hN hv hd hcd, sim_var⟩
theorem q_int {i j pos} : QE X E (.Constant (.int i) j pos) (dC (.int i)) := ⟨_, pe_int, sim_c fun _ _ => .int i⟩
theorem q_bl {b j pos} : QE X E (.Constant (.bool b) j pos) (dC (.bl b)) := ⟨_, pe_bl, sim_c fun _ _ => .bl b⟩
theorem q_non {j pos} : QE X E (.Constant .none j pos) (dC .non) := ⟨_, pe_non, sim_c fun _ _ => .non⟩
theorem q_str {x j pos} : QE X E (.Constant (.str x) j pos) (dC (.str x)) := ⟨_, pe_str, sim_c fun _ _ => .str x⟩
/-- a module's name -/
structure GloV (X : Cx) (x : Str) (d : D) : Prop where
  ex : ∃ v u, X.mg x = some u ∧ RelV v u ∧ ∀ ρ F, Dn X.K ρ F v d
theorem q_glob {x : Str} {d : D} {pos : Pos} (g : GloV X x d) (hg : Gl X x := by rfl) (hd : (x == ("__debug__" : Str)) = false := by decide) : QE X E (.Name x pos) (dC d) := by
  obtain ⟨v, u, hm, r, hv⟩ := g.ex
  exact ⟨_, pe_glob hg hm r hd, sim_c hv⟩
/-- a built-in class as a value -/
theorem q_ty {x : Str} {n : String} {pos : Pos} (hm : X.mg x = none) (hv : bootBuiltins x = some (.type n)) (hg : Gl X x := by rfl) (hn : x ≠ "__name__" := by decide) (hd : (x == ("__debug__" : Str)) = false := by decide) :
    QE X E (.Name x pos) (dC (.ty n)) := ⟨_, pe_bltn (v := .ty n) hg hm hv rfl hn hd, sim_c fun _ _ => .ty n⟩
end

/-! ### operators -/
def OpS (K : PySem.W.Frag) (r : R2) (f : Mu → D → D → Option D) : Prop := ∀ (ρ : List Addr) (F H : Hp) (μ : Mu) (v w : V) (d e z : D), HpOk K ρ μ F H → Dn K ρ F v d → Dn K ρ F w e → f μ d e = some z → ∀ Q : VK, QV K ρ F H Q z μ → r v w H Q
structure OpD (X : Cx) (g : Value → Value → Sem Value) (f : Mu → D → D → Option D) : Prop where
  ex : ∃ r, OpR X g r ∧ OpS X.K r f
def dBin (f : Mu → D → D → Option D) (a b : DE) : DE := fun Γ μ => (a Γ μ).bind fun x μ1 => (b Γ μ1).bind fun y μ2 => R.of μ2 (f μ2 x y)
def dUn (f : Mu → D → Option D) (a : DE) : DE := fun Γ μ => (a Γ μ).bind fun x μ1 => R.of μ1 (f μ1 x)
/-- one or the other -/
def orF (f g : Mu → D → D → Option D) : Mu → D → D → Option D := fun μ x y => match f μ x y with
  | some z => some z
  | none => g μ x y
section
variable {X : Cx} {E : XK} {K : PySem.W.Frag} {a b : Expr} {da db : DE} {pos : Pos}
theorem sim_bin {r : R2} {f : Mu → D → D → Option D} {ta tb : TE} (hr : OpS K r f) (ha : SimE K E ta da) (hb : SimE K E tb db) : SimE K E (tOp r ta tb) (dBin f da db) := by
  intro ρ F H Γ μ σ k s Q h
  refine ha ρ F H Γ μ σ k s _ (h.bind.mono (fun x μ1 h1 => ?_) fun _ _ q => q)
  intro ρ1 F1 H1 v n1 k1 r1
  refine hb ρ1 F1 H1 Γ μ1 σ k1 (s.nx n1) _ (h1.bind.mono (fun y μ2 h2 => ?_) fun _ _ q => XP.nx n1 q)
  intro ρ2 F2 H2 w n2 k2 r2
  obtain ⟨z, ez, q⟩ := h2.of
  exact hr ρ2 F2 H2 μ2 v w x y z k2 (r1.nx n2) r2 ez Q (QV.nx (n1.trans n2) q)
theorem OpD.or {g : Value → Value → Sem Value} {f f' : Mu → D → D → Option D} (h : OpD X g f) (h' : OpD X g f') : OpD X g (orF f f') := by
  obtain ⟨r, h1, h2⟩ := h.ex
  obtain ⟨r', h1', h2'⟩ := h'.ex
  refine ⟨_, h1.or h1', fun ρ F H μ v w d e z k rv rw' ez Q q => ?_⟩
  unfold orF at ez
  split at ez
  · rename_i z' e1
    cases ez
    exact .inl (h2 ρ F H μ v w d e z k rv rw' e1 Q q)
  · exact .inr (h2' ρ F H μ v w d e z k rv rw' ez Q q)
theorem q_op {op : Operator} {f : Mu → D → D → Option D} (ho : OpD X (binaryOp op) f) (ha : QE X E a da) (hb : QE X E b db) : QE X E (.BinOp a op b pos) (dBin f da db) := by
  obtain ⟨r, h1, h2⟩ := ho.ex
  obtain ⟨ta, a1, a2⟩ := ha.ex
  obtain ⟨tb, b1, b2⟩ := hb.ex
  exact ⟨_, pe_op h1 a1 b1, sim_bin h2 a2 b2⟩
theorem q_cmp {op : CmpOp} {f : Mu → D → D → Option D} (ho : OpD X (compareOp op) f) (ha : QE X E a da) (hb : QE X E b db) (hm : behindInMarks op b = false := by first | exact nomark _ | rfl) : QE X E (.Compare a [op] [b] pos) (dBin f da db) := by
  obtain ⟨r, h1, h2⟩ := ho.ex
  obtain ⟨ta, a1, a2⟩ := ha.ex
  obtain ⟨tb, b1, b2⟩ := hb.ex
  exact ⟨_, pe_cmpR h1 a1 b1 hm, sim_bin h2 a2 b2⟩
/-- a truth value -/
def dTest (a : DE) : DT := fun Γ μ => (a Γ μ).bind fun x μ1 => match x with
  | .bl b => .ok b μ1
  | _ => .stk
theorem sim_test {ta : TE} (ha : SimE K E ta da) : SimT K E (tTest ta) (dTest da) := by
  intro ρ F H Γ μ σ k s Q h
  refine ha ρ F H Γ μ σ k s _ (h.bind.mono (fun x μ1 h1 => ?_) fun _ _ q => q)
  intro ρ1 F1 H1 v n1 k1 r1
  cases x with
  | bl b => cases r1; exact ⟨b, rfl, h1 ρ1 F1 H1 n1 k1⟩
  | _ => exact False.elim h1
theorem sim_B {ta : TE} (ha : SimE K E ta da) : SimT K E (tB ta) (dTest da) := sim_test ha
theorem qt_cmp {op : CmpOp} {f : Mu → D → D → Option D} (ho : OpD X (compareOp op) f) (ha : QE X E a da) (hb : QE X E b db) (hm : behindInMarks op b = false := by first | exact nomark _ | rfl) : QT X E (.Compare a [op] [b] pos) (dTest (dBin f da db)) := by
  obtain ⟨r, h1, h2⟩ := ho.ex
  obtain ⟨ta, a1, a2⟩ := ha.ex
  obtain ⟨tb, b1, b2⟩ := hb.ex
  exact ⟨_, pt_cmpR h1 a1 b1 hm, sim_test (sim_bin h2 a2 b2)⟩
/-- a value's truth -/
def truD (μ : Mu) : D → Option Bool
  | .non => some false
  | .bl b => some b
  | .int i => some (i != 0)
  | .str y => if y.length ≤ 1000000 then some ((y.length : Int) != 0) else none
  | .lst ds => some (!ds.isEmpty)
  | .tup ds => some (!ds.isEmpty)
  | .loc n => match μ[n]? with
    | some (.lst ds) => some (!ds.isEmpty)
    | some (.frz ds) => some (!ds.isEmpty)
    | _ => none
  | _ => none
theorem million : (1000000 : Nat) ≤ sizeLine := by rw [sizeLine_eq]; decide
theorem lt_million {n : Nat} (h : n < 1000000) : n < sizeLine := Nat.lt_of_lt_of_le h million
theorem le_million {n : Nat} (h : n ≤ 1000000) : n ≤ sizeLine := Nat.le_trans h million
theorem emptyAll {ρ : List Addr} {F : Hp} {vs : List V} {ds : List D} (h : DnAll K ρ F vs ds) : vs.isEmpty = ds.isEmpty := by cases h <;> rfl
theorem tru_of {ρ : List Addr} {F H : Hp} {μ : Mu} {v : V} {d : D} {b : Bool} (k : HpOk K ρ μ F H) (r : Dn K ρ F v d) (h : truD μ d = some b) : TruV K v H b := by
  cases r with
  | non => cases h; exact rfl
  | bl x => cases h; exact rfl
  | int i => cases h; exact rfl
  | str y =>
    have h : (if y.length ≤ 1000000 then some ((y.length : Int) != 0) else none) = some b := h
    split at h
    · rename_i hy
      cases h
      exact ⟨le_million hy, rfl⟩
    · cases h
  | tup hs ha =>
    cases h
    exact .inr (.inl ⟨_, k.ex.sqT hs, by rw [emptyAll ha]⟩)
  | lst hs ha =>
    cases h
    exact .inl ⟨_, .inl (Rd.of (k.ex _ _ hs)), by rw [emptyAll ha]⟩
  | @loc a n e =>
    have h : (match μ[n]? with
      | some (.lst ds) => some (!ds.isEmpty)
      | some (.frz ds) => some (!ds.isEmpty)
      | _ => none) = some b := h
    split at h
    · rename_i ds em
      cases h
      obtain ⟨_, vs, e1, e2⟩ := k.mu n a _ e em
      exact .inl ⟨_, SqL.of e1, by rw [emptyAll e2]⟩
    · rename_i ds em
      cases h
      obtain ⟨vs, e1, e2⟩ := k.mu n a _ e em
      exact .inl ⟨_, SqL.of (k.ex _ _ e1), by rw [emptyAll e2]⟩
    · cases h
  | scr _ _ => cases h
  | ins _ _ => cases h
  | slt _ _ _ => cases h
  | dK _ _ => cases h
  | glo x => cases h
  | ty n => cases h
  | adr => cases h
  | clo => cases h
  | exn => cases h
def dTru (a : DE) : DT := fun Γ μ => (a Γ μ).bind fun x μ1 => R.of μ1 (truD μ1 x)
theorem qt_tru (ha : QE X E a da) (he : ∀ whole, isTrue a X.env whole = (do let v ← whole; standAt a.pos; holding [v] (truthy v)) := by intro _; rfl) : QT X E a (dTru da) := by
  obtain ⟨ta, a1, a2⟩ := ha.ex
  refine ⟨_, pt_truth a1 he, ?_⟩
  intro ρ F H Γ μ σ k s Q h
  refine a2 ρ F H Γ μ σ k s _ (h.bind.mono (fun x μ1 h1 => ?_) fun _ _ q => q)
  intro ρ1 F1 H1 v n1 k1 r1
  obtain ⟨z, ez, q⟩ := h1.of
  exact ⟨z, tru_of k1 r1 ez, q ρ1 F1 H1 n1 k1⟩
theorem qt_val (ha : QE X E a da) (he : ∀ whole, isTrue a X.env whole = (do let v ← whole; standAt a.pos; holding [v] (truthy v)) := by intro _; rfl) : QT X E a (dTest da) := by
  obtain ⟨ta, a1, a2⟩ := ha.ex
  exact ⟨_, pt_val a1 he, sim_B a2⟩
/-! and, or, not: tests -/
def dAnd (t u : DT) : DT := fun Γ μ => (t Γ μ).bind fun c μ1 => match c with
  | true => u Γ μ1
  | false => .ok false μ1
def dOr (t u : DT) : DT := fun Γ μ => (t Γ μ).bind fun c μ1 => match c with
  | true => .ok true μ1
  | false => u Γ μ1
def dNot (t : DT) : DT := fun Γ μ => (t Γ μ).bind fun c μ1 => .ok (!c) μ1
variable {t u : DT} {rest : List Expr}
theorem sim_and {t' u' : TT} (h1 : SimT K E t' t) (h2 : SimT K E u' u) : SimT K E (tAnd t' u') (dAnd t u) := by
  intro ρ F H Γ μ σ k s Q h
  refine h1 ρ F H Γ μ σ k s _ (h.bind.mono (fun x μ1 q => ?_) fun _ _ q => q)
  intro ρ1 F1 H1 n1 k1
  cases x with
  | true =>
    show u' σ H1 Q
    refine h2 ρ1 F1 H1 Γ μ1 σ k1 (s.nx n1) Q (WpR.mono q (fun b μ2 q2 => ?_) fun _ _ q => XP.nx n1 q)
    exact fun ρ2 F2 H2 n2 k2 => q2 ρ2 F2 H2 (n1.trans n2) k2
  | false => exact q ρ1 F1 H1 n1 k1
theorem sim_or {t' u' : TT} (h1 : SimT K E t' t) (h2 : SimT K E u' u) : SimT K E (tOr t' u') (dOr t u) := by
  intro ρ F H Γ μ σ k s Q h
  refine h1 ρ F H Γ μ σ k s _ (h.bind.mono (fun x μ1 q => ?_) fun _ _ q => q)
  intro ρ1 F1 H1 n1 k1
  cases x with
  | false =>
    show u' σ H1 Q
    refine h2 ρ1 F1 H1 Γ μ1 σ k1 (s.nx n1) Q (WpR.mono q (fun b μ2 q2 => ?_) fun _ _ q => XP.nx n1 q)
    exact fun ρ2 F2 H2 n2 k2 => q2 ρ2 F2 H2 (n1.trans n2) k2
  | true => exact q ρ1 F1 H1 n1 k1
theorem sim_not {t' : TT} (h1 : SimT K E t' t) : SimT K E (tNot t') (dNot t) := by
  intro ρ F H Γ μ σ k s Q h
  exact h1 ρ F H Γ μ σ k s _ (h.bind.mono (fun x μ1 q => q) fun _ _ q => q)
theorem qw_one_and (h : QT X E a t) : QW X E (.BoolOp .And [a] pos) t := by
  obtain ⟨t', h1, h2⟩ := h.ex
  exact ⟨_, pw_and1 h1, h2⟩
theorem qw_one_or (h : QT X E a t) : QW X E (.BoolOp .Or [a] pos) t := by
  obtain ⟨t', h1, h2⟩ := h.ex
  exact ⟨_, pw_or1 h1, h2⟩
theorem qw_and (h : QT X E a t) (h' : QW X E (.BoolOp .And (b :: rest) pos) u) : QW X E (.BoolOp .And (a :: b :: rest) pos) (dAnd t u) := by
  obtain ⟨t', h1, h2⟩ := h.ex
  obtain ⟨u', g1, g2⟩ := h'.ex
  exact ⟨_, pw_and h1 g1, sim_and h2 g2⟩
theorem qw_or (h : QT X E a t) (h' : QW X E (.BoolOp .Or (b :: rest) pos) u) : QW X E (.BoolOp .Or (a :: b :: rest) pos) (dOr t u) := by
  obtain ⟨t', h1, h2⟩ := h.ex
  obtain ⟨u', g1, g2⟩ := h'.ex
  exact ⟨_, pw_or h1 g1, sim_or h2 g2⟩
theorem qt_w {e : Expr} (h : QW X E e t) : QT X E e t := by
  obtain ⟨t', h1, h2⟩ := h.ex
  exact ⟨_, h1.pt, h2⟩
theorem qt_not (h : QT X E a t) : QT X E (.UnaryOp .Not a pos) (dNot t) := by
  obtain ⟨t', h1, h2⟩ := h.ex
  exact ⟨_, pt_not h1, sim_not h2⟩
/-! as values -/
def dAndV (x y : DE) : DE := fun Γ μ => (x Γ μ).bind fun c μ1 => match c with
  | .bl true => y Γ μ1
  | .bl false => .ok (.bl false) μ1
  | _ => .stk
def dOrV (x y : DE) : DE := fun Γ μ => (x Γ μ).bind fun c μ1 => match c with
  | .bl true => .ok (.bl true) μ1
  | .bl false => y Γ μ1
  | _ => .stk
def dNotV (x : DE) : DE := fun Γ μ => (x Γ μ).bind fun c μ1 => match c with
  | .bl b => .ok (.bl (!b)) μ1
  | _ => .stk
theorem q_one {op} (h : QE X E a da) : QE X E (.BoolOp op [a] pos) da := by
  obtain ⟨t', h1, h2⟩ := h.ex
  exact ⟨_, pe_one h1, h2⟩
theorem q_and (h : QE X E a da) (h' : QE X E (.BoolOp .And (b :: rest) pos) db) : QE X E (.BoolOp .And (a :: b :: rest) pos) (dAndV da db) := by
  obtain ⟨ta, a1, a2⟩ := h.ex
  obtain ⟨tb, b1, b2⟩ := h'.ex
  refine ⟨_, pe_and a1 b1, ?_⟩
  intro ρ F H Γ μ σ k s Q h
  refine a2 ρ F H Γ μ σ k s _ (h.bind.mono (fun x μ1 q => ?_) fun _ _ q => q)
  intro ρ1 F1 H1 v n1 k1 r1
  cases r1 with
  | bl c =>
    refine ⟨c, rfl, ?_⟩
    cases c with
    | true =>
      show tb σ H1 Q
      refine b2 ρ1 F1 H1 Γ μ1 σ k1 (s.nx n1) Q (WpR.mono q (fun b μ2 q2 => ?_) fun _ _ q => XP.nx n1 q)
      exact QV.nx n1 q2
    | false => exact q ρ1 F1 H1 _ n1 k1 (.bl false)
  | _ => exact False.elim q
theorem q_or (h : QE X E a da) (h' : QE X E (.BoolOp .Or (b :: rest) pos) db) : QE X E (.BoolOp .Or (a :: b :: rest) pos) (dOrV da db) := by
  obtain ⟨ta, a1, a2⟩ := h.ex
  obtain ⟨tb, b1, b2⟩ := h'.ex
  refine ⟨_, pe_or a1 b1, ?_⟩
  intro ρ F H Γ μ σ k s Q h
  refine a2 ρ F H Γ μ σ k s _ (h.bind.mono (fun x μ1 q => ?_) fun _ _ q => q)
  intro ρ1 F1 H1 v n1 k1 r1
  cases r1 with
  | bl c =>
    refine ⟨c, rfl, ?_⟩
    cases c with
    | false =>
      show tb σ H1 Q
      refine b2 ρ1 F1 H1 Γ μ1 σ k1 (s.nx n1) Q (WpR.mono q (fun b μ2 q2 => ?_) fun _ _ q => XP.nx n1 q)
      exact QV.nx n1 q2
    | true => exact q ρ1 F1 H1 _ n1 k1 (.bl true)
  | _ => exact False.elim q
theorem q_not (h : QE X E a da) : QE X E (.UnaryOp .Not a pos) (dNotV da) := by
  obtain ⟨ta, a1, a2⟩ := h.ex
  refine ⟨_, pe_not a1, ?_⟩
  intro ρ F H Γ μ σ k s Q h
  refine a2 ρ F H Γ μ σ k s _ (h.bind.mono (fun x μ1 q => ?_) fun _ _ q => q)
  intro ρ1 F1 H1 v n1 k1 r1
  cases r1 with
  | bl c => exact ⟨c, rfl, q ρ1 F1 H1 _ n1 k1 (.bl _)⟩
  | _ => exact False.elim q
/-- a if t else b -/
def dIf (t : DT) (x y : DE) : DE := fun Γ μ => (t Γ μ).bind fun c μ1 => match c with
  | true => x Γ μ1
  | false => y Γ μ1
theorem q_if {c : Expr} (hc : QT X E c t) (ha : QE X E a da) (hb : QE X E b db) : QE X E (.IfExp c a b pos) (dIf t da db) := by
  obtain ⟨tc, c1, c2⟩ := hc.ex
  obtain ⟨ta, a1, a2⟩ := ha.ex
  obtain ⟨tb, b1, b2⟩ := hb.ex
  refine ⟨_, pe_ifExp c1 a1 b1, ?_⟩
  intro ρ F H Γ μ σ k s Q h
  refine c2 ρ F H Γ μ σ k s _ (h.bind.mono (fun x μ1 q => ?_) fun _ _ q => q)
  intro ρ1 F1 H1 n1 k1
  cases x with
  | true =>
    show ta σ H1 Q
    exact a2 ρ1 F1 H1 Γ μ1 σ k1 (s.nx n1) Q (WpR.mono q (fun b μ2 q2 => QV.nx n1 q2) fun _ _ q => XP.nx n1 q)
  | false =>
    show tb σ H1 Q
    exact b2 ρ1 F1 H1 Γ μ1 σ k1 (s.nx n1) Q (WpR.mono q (fun b μ2 q2 => QV.nx n1 q2) fun _ _ q => XP.nx n1 q)
/-- a chain of two comparisons -/
def dChain (f f' : Mu → D → D → Option D) (x y z : DE) : DE := fun Γ μ => (x Γ μ).bind fun u μ1 => (y Γ μ1).bind fun v μ2 => match f μ2 u v with
  | some (.bl true) => (z Γ μ2).bind fun w μ3 => R.of μ3 (f' μ3 v w)
  | some (.bl false) => .ok (.bl false) μ2
  | _ => .stk
end

/-! ### arguments, tuples, lists -/
def daNil : DA := fun _ μ => .ok [] μ
def daCons (a : DE) (r : DA) : DA := fun Γ μ => (a Γ μ).bind fun x μ1 => (r Γ μ1).bind fun xs μ2 => .ok (x :: xs) μ2
def dTup (a : DA) : DE := fun Γ μ => (a Γ μ).bind fun xs μ1 => if xs.length ≤ 1000000 then .ok (.tup xs) μ1 else .stk
/-- a list that never changes -/
def dLst (a : DA) : DE := fun Γ μ => (a Γ μ).bind fun xs μ1 => if xs.length ≤ 1000000 then .ok (.lst xs) μ1 else .stk
/-- a list that may change -/
def dLstM (a : DA) : DE := fun Γ μ => (a Γ μ).bind fun xs μ1 => if xs.length ≤ 1000000 then .ok (.loc μ1.length) (μ1 ++ [.lst xs]) else .stk
section
variable {X : Cx} {E : XK} {K : PySem.W.Frag} {e : Expr} {es : List Expr} {de : DE} {da : DA} {pos : Pos}
theorem sim_nil : SimA K E tNil daNil := by
  intro ρ F H Γ μ σ k s Q h
  exact h ρ F H [] Nx.refl k .nil
theorem sim_cons {te : TE} {ta : TA} (h1 : SimE K E te de) (h2 : SimA K E ta da) : SimA K E (tCons te ta) (daCons de da) := by
  intro ρ F H Γ μ σ k s Q h
  refine h1 ρ F H Γ μ σ k s _ (h.bind.mono (fun x μ1 q => ?_) fun _ _ q => q)
  intro ρ1 F1 H1 v n1 k1 r1
  refine h2 ρ1 F1 H1 Γ μ1 σ k1 (s.nx n1) _ (q.bind.mono (fun xs μ2 q2 => ?_) fun _ _ q => XP.nx n1 q)
  intro ρ2 F2 H2 vs n2 k2 r2
  exact q2 ρ2 F2 H2 (v :: vs) (n1.trans n2) k2 (.cons (r1.nx n2) r2)
theorem qa_nil : QA X E [] daNil := ⟨_, pa_nil, sim_nil⟩
theorem qa_cons (ha : QE X E e de) (hr : QA X E es da) (hs : starEach (e :: es) X.env = (false, eval e X.env) :: starEach es X.env := by rfl) : QA X E (e :: es) (daCons de da) := by
  obtain ⟨te, a1, a2⟩ := ha.ex
  obtain ⟨ta, b1, b2⟩ := hr.ex
  exact ⟨_, pa_cons a1 b1 hs, sim_cons a2 b2⟩
/-- a new object of ours that never changes -/
theorem new_tup {ρ : List Addr} {F H : Hp} {μ : Mu} {vs : List V} {ds : List D} (k : HpOk K ρ μ F H) (r : DnAll K ρ F vs ds) {p : Addr} (hp : H p = none) : Nx ρ F H ρ (upd F p (.tup vs)) (upd H p (.tup vs)) ∧ HpOk K ρ μ (upd F p (.tup vs)) (upd H p (.tup vs)) ∧ Dn K ρ (upd F p (.tup vs)) (.ref p) (.tup ds) := by
  have n := Nx.newF_ (o := .tup vs) k hp
  exact ⟨n, k.newF hp, .tup (SqT.of upd_same) (r.nx n)⟩
theorem new_lst {ρ : List Addr} {F H : Hp} {μ : Mu} {vs : List V} {ds : List D} (k : HpOk K ρ μ F H) (r : DnAll K ρ F vs ds) {p : Addr} (hp : H p = none) : Nx ρ F H ρ (upd F p (.lst vs)) (upd H p (.lst vs)) ∧ HpOk K ρ μ (upd F p (.lst vs)) (upd H p (.lst vs)) ∧ Dn K ρ (upd F p (.lst vs)) (.ref p) (.lst ds) := by
  have n := Nx.newF_ (o := .lst vs) k hp
  exact ⟨n, k.newF hp, .lst upd_same (r.nx n)⟩
theorem new_lstM {ρ : List Addr} {F H : Hp} {μ : Mu} {vs : List V} {ds : List D} (k : HpOk K ρ μ F H) (r : DnAll K ρ F vs ds) {p : Addr} (hp : H p = none) : Nx ρ F H (ρ ++ [p]) F (upd H p (.lst vs)) ∧ HpOk K (ρ ++ [p]) (μ ++ [.lst ds]) F (upd H p (.lst vs)) ∧ Dn K (ρ ++ [p]) F (.ref p) (.loc μ.length) := by
  have n := Nx.newM_ (o := .lst vs) k hp
  refine ⟨n, k.newM hp ⟨k.freshF hp, vs, upd_same, r.nx n⟩, .loc ?_⟩
  rw [k.len]
  simp
theorem q_tup {x1} (h : QA X E es da) : QE X E (.Tuple es x1 pos) (dTup da) := by
  obtain ⟨ta, a1, a2⟩ := h.ex
  refine ⟨_, pe_tup a1, ?_⟩
  intro ρ F H Γ μ σ k s Q h
  refine a2 ρ F H Γ μ σ k s _ (h.bind.mono (fun x μ1 q => ?_) fun _ _ q => q)
  intro ρ1 F1 H1 vs n1 k1 r1
  split at q
  · rename_i hl
    refine ⟨by rw [r1.length]; exact le_million hl, fun p hp => ?_⟩
    obtain ⟨n2, k2, r2⟩ := new_tup k1 r1 hp
    exact q _ _ _ _ (n1.trans n2) k2 r2
  · exact False.elim q
theorem q_lst (h : QA X E es da) : QE X E (.List es pos) (dLst da) := by
  obtain ⟨ta, a1, a2⟩ := h.ex
  refine ⟨_, pe_lst a1, ?_⟩
  intro ρ F H Γ μ σ k s Q h
  refine a2 ρ F H Γ μ σ k s _ (h.bind.mono (fun x μ1 q => ?_) fun _ _ q => q)
  intro ρ1 F1 H1 vs n1 k1 r1
  split at q
  · rename_i hl
    refine ⟨by rw [r1.length]; exact le_million hl, fun p hp => ?_⟩
    obtain ⟨n2, k2, r2⟩ := new_lst k1 r1 hp
    exact q _ _ _ _ (n1.trans n2) k2 r2
  · exact False.elim q
theorem q_lstM (h : QA X E es da) : QE X E (.List es pos) (dLstM da) := by
  obtain ⟨ta, a1, a2⟩ := h.ex
  refine ⟨_, pe_lst a1, ?_⟩
  intro ρ F H Γ μ σ k s Q h
  refine a2 ρ F H Γ μ σ k s _ (h.bind.mono (fun x μ1 q => ?_) fun _ _ q => q)
  intro ρ1 F1 H1 vs n1 k1 r1
  split at q
  · rename_i hl
    refine ⟨by rw [r1.length]; exact le_million hl, fun p hp => ?_⟩
    obtain ⟨n2, k2, r2⟩ := new_lstM k1 r1 hp
    exact q _ _ _ _ (n1.trans n2) k2 r2
  · exact False.elim q
end

/-! ### what a sequence holds -/
def seqL (μ : Mu) : D → Option (List D)
  | .lst ds => some ds
  | .loc n => match μ[n]? with
    | some (.lst ds) => some ds
    | some (.frz ds) => some ds
    | _ => none
  | _ => none
def seqT : D → Option (List D)
  | .tup ds => some ds
  | _ => none
section
variable {K : PySem.W.Frag} {ρ : List Addr} {F H : Hp} {μ : Mu} {v : V} {d : D} {ds : List D}
theorem seqL_ok (k : HpOk K ρ μ F H) (r : Dn K ρ F v d) (h : seqL μ d = some ds) : ∃ a vs, v = .ref a ∧ Rd H a (.lst vs) ∧ DnAll K ρ F vs ds := by
  unfold seqL at h
  split at h
  · cases h
    cases r with
    | lst hs ha => exact ⟨_, _, rfl, Rd.of (k.ex _ _ hs), ha⟩
  · rename_i n
    cases r with
    | @loc a _ e =>
      split at h
      · rename_i em
        cases h
        obtain ⟨_, vs, e1, e2⟩ := k.mu n a _ e em
        exact ⟨a, vs, rfl, Rd.of e1, e2⟩
      · rename_i em
        cases h
        obtain ⟨vs, e1, e2⟩ := k.mu n a _ e em
        exact ⟨a, vs, rfl, Rd.of (k.ex _ _ e1), e2⟩
      · cases h
  · cases h
theorem seqT_ok (k : HpOk K ρ μ F H) (r : Dn K ρ F v d) (h : seqT d = some ds) : ∃ a vs, v = .ref a ∧ SqT K H a vs ∧ DnAll K ρ F vs ds := by
  unfold seqT at h
  split at h
  · cases h
    cases r with
    | tup hs ha => exact ⟨_, _, rfl, k.ex.sqT hs, ha⟩
  · cases h
theorem DnAll.atI {vs : List V} {i : Int} (h : DnAll K ρ F vs ds) (e : L2.atI ds i = some d) : ∃ v, L2.atI vs i = some v ∧ Dn K ρ F v d := by
  unfold L2.atI at e ⊢
  rw [h.length]
  cases q : ixN ds.length i with
  | none => rw [q] at e; cases e
  | some j =>
    rw [q] at e
    exact h.get e
end

/-! ### the operators by kinds -/
def fII (g : Int → Int → Option D) : Mu → D → D → Option D := fun _ x y => match x, y with
  | .int i, .int j => g i j
  | _, _ => none
theorem fII_some {g : Int → Int → Option D} {μ : Mu} {x y z : D} (h : fII g μ x y = some z) : ∃ i j, x = .int i ∧ y = .int j ∧ g i j = some z := by
  unfold fII at h
  split at h
  · exact ⟨_, _, rfl, rfl, h⟩
  · cases h
def fSS (g : Str → Str → Option D) : Mu → D → D → Option D := fun _ x y => match x, y with
  | .str i, .str j => g i j
  | _, _ => none
theorem fSS_some {g : Str → Str → Option D} {μ : Mu} {x y z : D} (h : fSS g μ x y = some z) : ∃ i j, x = .str i ∧ y = .str j ∧ g i j = some z := by
  unfold fSS at h
  split at h
  · exact ⟨_, _, rfl, rfl, h⟩
  · cases h
section
variable {X : Cx}
/-- an operator on two ints that gives an int -/
theorem opII {g : Value → Value → Sem Value} {C : Int → Int → Prop} [∀ i j, Decidable (C i j)] {f : Int → Int → Int} (h : OpR X g (rI C fun i j => .int (f i j))) : OpD X g (fII fun i j => if C i j then some (.int (f i j)) else none) := by
  refine ⟨_, h, fun ρ F H μ v w d e z k rv rw' ez Q q => ?_⟩
  obtain ⟨i, j, rfl, rfl, e2⟩ := fII_some ez
  clear ez
  cases rv
  cases rw'
  have ez := e2
  split at ez
  · rename_i hc
    cases ez
    exact ⟨i, j, rfl, rfl, hc, q ρ F H _ Nx.refl k (.int _)⟩
  · cases ez
theorem opII0 {g : Value → Value → Sem Value} {f : Int → Int → Int} (h : OpR X g (rI0 fun i j => .int (f i j))) : OpD X g (fII fun i j => some (.int (f i j))) := by
  refine ⟨_, h, fun ρ F H μ v w d e z k rv rw' ez Q q => ?_⟩
  obtain ⟨i, j, rfl, rfl, ez⟩ := fII_some ez
  cases rv
  cases rw'
  cases ez
  exact ⟨i, j, rfl, rfl, q ρ F H _ Nx.refl k (.int _)⟩
theorem opIB0 {g : Value → Value → Sem Value} {f : Int → Int → Bool} (h : OpR X g (rI0 fun i j => .bl (f i j))) : OpD X g (fII fun i j => some (.bl (f i j))) := by
  refine ⟨_, h, fun ρ F H μ v w d e z k rv rw' ez Q q => ?_⟩
  obtain ⟨i, j, rfl, rfl, ez⟩ := fII_some ez
  cases rv
  cases rw'
  cases ez
  exact ⟨i, j, rfl, rfl, q ρ F H _ Nx.refl k (.bl _)⟩
def fAddI := fII fun i j => some (.int (i + j))
def fSubI := fII fun i j => some (.int (i - j))
theorem od_addI : OpD X (binaryOp .Add) fAddI := opII0 op_add
theorem od_subI : OpD X (binaryOp .Sub) fSubI := opII0 op_sub
def mulOk (i j : Int) : Bool := Nat.blt i.natAbs (2 ^ 64) || Nat.blt j.natAbs (2 ^ 64) || Nat.blt (i.natAbs.log2 + j.natAbs.log2) 1000000
theorem mulOk_ok {i j : Int} (h : mulOk i j = true) : IntMulOk i j := by
  unfold mulOk at h
  rw [Bool.or_eq_true, Bool.or_eq_true] at h
  rcases h with (h | h) | h
  · have h : i.natAbs < 2 ^ 64 := Nat.le_of_ble_eq_true h
    exact CMul.ok (.inl ⟨by omega, by omega⟩)
  · have h : j.natAbs < 2 ^ 64 := Nat.le_of_ble_eq_true h
    exact CMul.ok (.inr ⟨by omega, by omega⟩)
  · exact CMulW.ok (Nat.le_of_ble_eq_true h)
theorem op_mulA : OpR X (binaryOp .Mult) (rI (fun i j => mulOk i j = true) fun i j => .int (i * j)) := opI (f := binaryOp .Mult) (C := fun i j => mulOk i j = true) (g := fun i j => i * j) fun _ _ _ _ _ _ _ hc q => mul_int q (mulOk_ok hc)
def fMulI := fII fun i j => if mulOk i j = true then some (.int (i * j)) else none
theorem od_mulI : OpD X (binaryOp .Mult) fMulI := opII op_mulA
/-- // and % -/
def divOk (j : Int) : Bool := decide (j ≠ 0) && (decide (j.natAbs < 1073741824) || decide (j.natAbs.log2 < 9000))
def fModI := fII fun i j => if j ≠ 0 then some (.int (i.fmod j)) else none
theorem od_modI : OpD X (binaryOp .Mod) fModI := opII (C := fun _ j => j ≠ 0) op_modN
def powOk (i j : Int) : Bool := decide (0 ≤ j) && (decide (j ≤ 1000000) && decide (i.natAbs < 2 ^ 64))
def fPowI := fII fun i j => if powOk i j = true then some (.int (i ^ j.toNat)) else none
theorem od_powI : OpD X (binaryOp .Pow) fPowI := by
  have h : OpR X (binaryOp .Pow) (rI (fun i j => powOk i j = true) fun i j => .int (i ^ j.toNat)) := by
    intro pins s σ H x y v u Q I rx ry hh
    refine op_pow pins s σ H x y v u Q I rx ry ?_
    obtain ⟨i, j, e1, e2, hc, q⟩ := hh
    unfold powOk at hc
    rw [Bool.and_eq_true, Bool.and_eq_true] at hc
    exact ⟨i, j, e1, e2, ⟨of_decide_eq_true hc.1, of_decide_eq_true hc.2.1, of_decide_eq_true hc.2.2⟩, q⟩
  exact opII h
def fLt := fII fun i j => some (.bl (decide (i < j)))
def fLe := fII fun i j => some (.bl (decide (i ≤ j)))
def fGt := fII fun i j => some (.bl (decide (j < i)))
def fGe := fII fun i j => some (.bl (decide (j ≤ i)))
theorem od_lt : OpD X (compareOp .Lt) fLt := opIB0 op_lt
theorem od_le : OpD X (compareOp .LtE) fLe := opIB0 op_le
theorem od_gt : OpD X (compareOp .Gt) fGt := opIB0 op_gt
theorem od_ge : OpD X (compareOp .GtE) fGe := opIB0 op_ge
def fAddS := fSS fun i j => if i.length + j.length ≤ 1000000 then some (.str (i ++ j)) else none
theorem od_addS : OpD X (binaryOp .Add) fAddS := by
  refine ⟨_, op_add_str, fun ρ F H μ v w d e z k rv rw' ez Q q => ?_⟩
  obtain ⟨i, j, rfl, rfl, e2⟩ := fSS_some ez
  clear ez
  cases rv
  cases rw'
  have ez := e2
  split at ez
  · rename_i hc
    cases ez
    exact ⟨i, j, rfl, rfl, le_million hc, q ρ F H _ Nx.refl k (.str _)⟩
  · cases ez
end
end Ar

set_option Elab.async false
set_option linter.all false
set_option maxRecDepth 100000
set_option maxHeartbeats 2000000
/-! Ar3: more operators, subscripts, slices -/
namespace Ar
open PySem PySem.Spec PyProof.Rows L2

/-! ### == of data -/
mutual
def toP : D → PyData
  | .non => .none
  | .bl b => .bool b
  | .int i => .int i
  | .str x => .str x
  | .tup ds => .tuple (toPs ds)
  | .lst ds => .list (toPs ds)
  | _ => .none
def toPs : List D → List PyData
  | [] => []
  | d :: ds => toP d :: toPs ds
end
/-- no places, no instances within; not deep -/
def plainD : Nat → D → Bool
  | _, .non => true
  | _, .bl _ => true
  | _, .int _ => true
  | _, .str _ => true
  | n + 1, .tup ds => ds.all (plainD n)
  | n + 1, .lst ds => ds.all (plainD n)
  | _, _ => false
def eqLs (f : D → D → Bool) : List D → List D → Bool
  | [], [] => true
  | x :: xs, y :: ys => f x y && eqLs f xs ys
  | _, _ => false
def b2 (b : Bool) : Int := if b then 1 else 0
def eqD : Nat → D → D → Bool
  | _, .non, .non => true
  | _, .bl a, .bl b => a == b
  | _, .bl a, .int j => b2 a == j
  | _, .int i, .bl b => i == b2 b
  | _, .int i, .int j => i == j
  | _, .str x, .str y => x == y
  | n + 1, .tup xs, .tup ys => eqLs (eqD n) xs ys
  | n + 1, .lst xs, .lst ys => eqLs (eqD n) xs ys
  | _, _, _ => false
/-- a place's list, by value -/
def unloc (μ : Mu) (d : D) : D := match d with
  | .loc n => match μ[n]? with
    | some (.lst ds) => .lst ds
    | some (.frz ds) => .lst ds
    | _ => .loc n
  | d => d
theorem toPs_map : ∀ ds : List D, toPs ds = ds.map toP
  | [] => by simp [toPs]
  | d :: ds => by rw [toPs, toPs_map ds]; rfl
theorem plain_toP : ∀ (n : Nat) (d : D), plainD n d = true → (toP d).plain = true ∧ (toP d).depth ≤ n
  | n, .non, _ => by cases n <;> simp [toP, PyData.plain, PyData.depth]
  | n, .bl b, _ => by cases n <;> simp [toP, PyData.plain, PyData.depth]
  | n, .int i, _ => by cases n <;> simp [toP, PyData.plain, PyData.depth]
  | n, .str i, _ => by cases n <;> simp [toP, PyData.plain, PyData.depth]
  | 0, .tup ds, h => by simp [plainD] at h
  | 0, .lst ds, h => by simp [plainD] at h
  | n + 1, .tup ds, h => by
    have h1 : ds.all (plainD n) = true := h
    have h2 : PyData.plainAll (toPs ds) = true ∧ PyData.depthAll (toPs ds) ≤ n := by
      clear h
      induction ds with
      | nil => simp [toPs, PyData.plainAll, PyData.depthAll]
      | cons d ds ih =>
        rw [List.all_cons, Bool.and_eq_true] at h1
        obtain ⟨a, b⟩ := plain_toP n d h1.1
        obtain ⟨c, e⟩ := ih h1.2
        rw [toPs, PyData.plainAll, PyData.depthAll, a, c]
        exact ⟨rfl, Nat.max_le.mpr ⟨b, e⟩⟩
    rw [toP, PyData.plain, PyData.depth]
    exact ⟨h2.1, by omega⟩
  | n + 1, .lst ds, h => by
    have h1 : ds.all (plainD n) = true := h
    have h2 : PyData.plainAll (toPs ds) = true ∧ PyData.depthAll (toPs ds) ≤ n := by
      clear h
      induction ds with
      | nil => simp [toPs, PyData.plainAll, PyData.depthAll]
      | cons d ds ih =>
        rw [List.all_cons, Bool.and_eq_true] at h1
        obtain ⟨a, b⟩ := plain_toP n d h1.1
        obtain ⟨c, e⟩ := ih h1.2
        rw [toPs, PyData.plainAll, PyData.depthAll, a, c]
        exact ⟨rfl, Nat.max_le.mpr ⟨b, e⟩⟩
    rw [toP, PyData.plain, PyData.depth]
    exact ⟨h2.1, by omega⟩
  | n, .scr _, h => by cases n <;> simp [plainD] at h
  | n, .ins _ _, h => by cases n <;> simp [plainD] at h
  | n, .slt _ _, h => by cases n <;> simp [plainD] at h
  | n, .dK _, h => by cases n <;> simp [plainD] at h
  | n, .loc _, h => by cases n <;> simp [plainD] at h
  | n, .glo _, h => by cases n <;> simp [plainD] at h
  | n, .ty _, h => by cases n <;> simp [plainD] at h
  | n, .exn _ _ _ _, h => by cases n <;> simp [plainD] at h
  | n, .adr _, h => by cases n <;> simp [plainD] at h
  | n, .clo _ _ _ _ _, h => by cases n <;> simp [plainD] at h
theorem dp_of {K : PySem.W.Frag} {ρ : List Addr} {F H : Hp} (ex : Sub F H) : ∀ (n : Nat) (d : D) (v : V), plainD n d = true → Dn K ρ F v d → Dp K H v (toP d)
  | n, .non, _, _, r => by cases r; rw [toP]; exact .non
  | n, .bl b, _, _, r => by cases r; rw [toP]; exact .bl b
  | n, .int i, _, _, r => by cases r; rw [toP]; exact .int i
  | n, .str x, _, _, r => by cases r; rw [toP]; exact .str x
  | 0, .tup ds, _, h, _ => by simp [plainD] at h
  | 0, .lst ds, _, h, _ => by simp [plainD] at h
  | n + 1, .tup ds, v, h, r => by
    have h1 : ds.all (plainD n) = true := h
    cases r with
    | @tup a vs _ hs ha =>
      rw [toP]
      refine .tup (ex.sqT hs) ?_
      clear h hs
      induction ds generalizing vs with
      | nil => cases ha; rw [toPs]; exact .nil
      | cons d ds ih =>
        rw [List.all_cons, Bool.and_eq_true] at h1
        cases ha with
        | cons r1 r2 => rw [toPs]; exact .cons (dp_of ex n d _ h1.1 r1) (ih h1.2 r2)
  | n + 1, .lst ds, v, h, r => by
    have h1 : ds.all (plainD n) = true := h
    cases r with
    | @lst a vs _ hs ha =>
      rw [toP]
      refine .lst (.inl (Rd.of (ex _ _ hs))) ?_
      clear h hs
      induction ds generalizing vs with
      | nil => cases ha; rw [toPs]; exact .nil
      | cons d ds ih =>
        rw [List.all_cons, Bool.and_eq_true] at h1
        cases ha with
        | cons r1 r2 => rw [toPs]; exact .cons (dp_of ex n d _ h1.1 r1) (ih h1.2 r2)
  | n, .scr _, _, h, _ => by cases n <;> simp [plainD] at h
  | n, .ins _ _, _, h, _ => by cases n <;> simp [plainD] at h
  | n, .slt _ _, _, h, _ => by cases n <;> simp [plainD] at h
  | n, .dK _, _, h, _ => by cases n <;> simp [plainD] at h
  | n, .loc _, _, h, _ => by cases n <;> simp [plainD] at h
  | n, .glo _, _, h, _ => by cases n <;> simp [plainD] at h
  | n, .ty _, _, h, _ => by cases n <;> simp [plainD] at h
  | n, .exn _ _ _ _, _, h, _ => by cases n <;> simp [plainD] at h
  | n, .adr _, _, h, _ => by cases n <;> simp [plainD] at h
  | n, .clo _ _ _ _ _, _, h, _ => by cases n <;> simp [plainD] at h
/-- data of a place's list, or of a value -/
theorem dp_un {K : PySem.W.Frag} {ρ : List Addr} {F H : Hp} {μ : Mu} {v : V} {d : D} {n : Nat} (k : HpOk K ρ μ F H) (h : plainD n (unloc μ d) = true) (r : Dn K ρ F v d) : Dp K H v (toP (unloc μ d)) := by
  cases d with
  | loc j =>
    cases r with
    | @loc a _ e =>
      unfold unloc at h ⊢
      simp only at h ⊢
      cases em : μ[j]? with
      | none => rw [em] at h; cases n <;> simp [plainD] at h
      | some o =>
        rw [em] at h
        cases o with
        | lst ds =>
          obtain ⟨_, vs, e1, e2⟩ := k.mu j a _ e em
          -- as a frozen list of a heap
          have h1 : plainD n (.lst ds) = true := h
          cases n with
          | zero => simp [plainD] at h1
          | succ n =>
            have h2 : ds.all (plainD n) = true := h1
            show Dp K H (.ref a) (toP (.lst ds))
            rw [toP]
            refine .lst (SqL.of e1) ?_
            clear h h1 e1 em
            induction ds generalizing vs with
            | nil => cases e2; rw [toPs]; exact .nil
            | cons d ds ih =>
              rw [List.all_cons, Bool.and_eq_true] at h2
              cases e2 with
              | cons r1 r2 => rw [toPs]; exact .cons (dp_of k.ex n d _ h2.1 r1) (ih _ r2 h2.2)
        | frz ds =>
          obtain ⟨vs, e1, e2⟩ := k.mu j a _ e em
          exact dp_of k.ex n (.lst ds) (.ref a) h (.lst e1 e2)
        | dead => cases n <;> simp [plainD] at h
        | ins _ _ => cases n <;> simp [plainD] at h
        | dK _ => cases n <;> simp [plainD] at h
        | dT _ => cases n <;> simp [plainD] at h
        | tab => cases n <;> simp [plainD] at h
  | _ => exact dp_of k.ex n _ v h r
theorem eqD_toP : ∀ (n : Nat) (d e : D), plainD n d = true → plainD n e = true → eqD n d e = PyData.eqv (toP d) (toP e) := by
  intro n
  induction n with
  | zero =>
    intro d e h1 h2
    cases d <;> cases e <;> first | (simp [plainD] at h1; done) | (simp [plainD] at h2; done) | simp [eqD, toP, PyData.eqv, b2]
  | succ n ih =>
    have all : ∀ xs ys : List D, xs.all (plainD n) = true → ys.all (plainD n) = true → eqLs (eqD n) xs ys = PyData.eqvAll (toPs xs) (toPs ys) := by
      intro xs
      induction xs with
      | nil => intro ys _ _; cases ys <;> simp [eqLs, toPs, PyData.eqvAll]
      | cons x xs ih2 =>
        intro ys h1 h2
        cases ys with
        | nil => simp [eqLs, toPs, PyData.eqvAll]
        | cons y ys =>
          rw [List.all_cons, Bool.and_eq_true] at h1 h2
          rw [eqLs, toPs, toPs, PyData.eqvAll, ih x y h1.1 h2.1, ih2 ys h1.2 h2.2]
    intro d e h1 h2
    cases d with
    | tup xs =>
      cases e with
      | tup ys => rw [toP, toP, PyData.eqv, ← all xs ys h1 h2]; rfl
      | _ => first | (simp [plainD] at h2; done) | simp [eqD, toP, PyData.eqv]
    | lst xs =>
      cases e with
      | lst ys => rw [toP, toP, PyData.eqv, ← all xs ys h1 h2]; rfl
      | _ => first | (simp [plainD] at h2; done) | simp [eqD, toP, PyData.eqv]
    | _ => cases e <;> first | (simp [plainD] at h1; done) | (simp [plainD] at h2; done) | simp [eqD, toP, PyData.eqv, b2]
def fEq : Mu → D → D → Option D := fun μ x y => if plainD 20 (unloc μ x) = true ∧ plainD 20 (unloc μ y) = true then some (.bl (eqD 20 (unloc μ x) (unloc μ y))) else none
def fNe : Mu → D → D → Option D := fun μ x y => if plainD 20 (unloc μ x) = true ∧ plainD 20 (unloc μ y) = true then some (.bl (!eqD 20 (unloc μ x) (unloc μ y))) else none
section
variable {X : Cx}
def rEqP (K : PySem.W.Frag) : R2 := fun x y H Q => ∃ d e, Dp K H x d ∧ Dp K H y e ∧ d.plain = true ∧ e.plain = true ∧ d.depth ≤ 60 ∧ Q (.bl (PyData.eqv d e)) H
def rNeP (K : PySem.W.Frag) : R2 := fun x y H Q => ∃ d e, Dp K H x d ∧ Dp K H y e ∧ d.plain = true ∧ e.plain = true ∧ d.depth ≤ 60 ∧ Q (.bl (!PyData.eqv d e)) H
theorem op_eqP (hu : X.A.units + 64 < cLine) : OpR X (compareOp .Eq) (rEqP X.K) := by
  intro pins s σ H x y v u Q I rx ry h
  obtain ⟨d, e, hd, he, sd, se, hz, q⟩ := h
  obtain ⟨as, r1⟩ := Dp.reads I d x v hd rx
  obtain ⟨bs, r2⟩ := Dp.reads I e y u he ry
  have h2 : min d.depth e.depth ≤ d.depth := Nat.min_le_left _ _
  exact SeqAt.eq_plain r1 r2 sd se (by omega) ⟨.bl _, H, I, rfl, q⟩
theorem op_neP (hu : X.A.units + 64 < cLine) : OpR X (compareOp .NotEq) (rNeP X.K) := by
  intro pins s σ H x y v u Q I rx ry h
  obtain ⟨d, e, hd, he, sd, se, hz, q⟩ := h
  obtain ⟨as, r1⟩ := Dp.reads I d x v hd rx
  obtain ⟨bs, r2⟩ := Dp.reads I e y u he ry
  have h2 : min d.depth e.depth ≤ d.depth := Nat.min_le_left _ _
  exact SeqAt.ne_plain r1 r2 sd se (by omega) ⟨.bl _, H, I, rfl, q⟩
theorem od_eq (hu : X.A.units + 64 < cLine) : OpD X (compareOp .Eq) fEq := by
  refine ⟨_, op_eqP hu, fun ρ F H μ v w d e z k rv rw' ez Q q => ?_⟩
  unfold fEq at ez
  split at ez
  · rename_i hc
    cases ez
    obtain ⟨p1, p2⟩ := plain_toP 20 _ hc.1
    obtain ⟨q1, q2⟩ := plain_toP 20 _ hc.2
    refine ⟨_, _, dp_un k hc.1 rv, dp_un k hc.2 rw', p1, q1, by omega, ?_⟩
    rw [← eqD_toP 20 _ _ hc.1 hc.2]
    exact q ρ F H _ Nx.refl k (.bl _)
  · cases ez
theorem od_ne (hu : X.A.units + 64 < cLine) : OpD X (compareOp .NotEq) fNe := by
  refine ⟨_, op_neP hu, fun ρ F H μ v w d e z k rv rw' ez Q q => ?_⟩
  unfold fNe at ez
  split at ez
  · rename_i hc
    cases ez
    obtain ⟨p1, p2⟩ := plain_toP 20 _ hc.1
    obtain ⟨q1, q2⟩ := plain_toP 20 _ hc.2
    refine ⟨_, _, dp_un k hc.1 rv, dp_un k hc.2 rw', p1, q1, by omega, ?_⟩
    rw [← eqD_toP 20 _ _ hc.1 hc.2]
    exact q ρ F H _ Nx.refl k (.bl _)
  · cases ez
end

/-! ### in -/
def seqA (μ : Mu) (d : D) : Option (List D) := match d with
  | .tup ds => some ds
  | .scr ds => some ds
  | d => seqL μ d
theorem seqA_ok {K : PySem.W.Frag} {ρ : List Addr} {F H : Hp} {μ : Mu} {v : V} {d : D} {ds : List D} (k : HpOk K ρ μ F H) (r : Dn K ρ F v d) (h : seqA μ d = some ds) : ∃ a vs, v = .ref a ∧ (SqL K H a vs ∨ SqT K H a vs) ∧ DnAll K ρ F vs ds := by
  unfold seqA at h
  split at h
  · cases h
    cases r with
    | tup h1 h2 => exact ⟨_, _, rfl, .inr (k.ex.sqT h1), h2⟩
  · cases h
    cases r with
    | scr h1 h2 => exact ⟨_, _, rfl, .inl (k.ex.sqL h1), h2⟩
  · obtain ⟨a, vs, e1, e2, e3⟩ := seqL_ok k r h
    exact ⟨a, vs, e1, .inl (.inl e2), e3⟩
def inD (x : D) (ds : List D) : Bool := ds.any fun y => eqD 20 y x
def fIn (neg : Bool) : Mu → D → D → Option D := fun μ x c => match c with
  | .str z => match x with
    | .str y => match y.cps.toList with
      | [s] => some (.bl (if neg then !decide (s ∈ z.cps.toList) else decide (s ∈ z.cps.toList)))
      | _ => none
    | _ => none
  | c => match seqA μ c with
    | some ds => if plainD 19 (unloc μ x) = true ∧ ds.all (plainD 19) = true then some (.bl (if neg then !inD (unloc μ x) ds else inD (unloc μ x) ds)) else none
    | none => none
theorem plainD_mono : ∀ (n : Nat) (d : D), plainD n d = true → plainD (n + 1) d = true := by
  intro n
  induction n with
  | zero => intro d h; cases d <;> first | rfl | (simp [plainD] at h)
  | succ n ih =>
    intro d h
    cases d with
    | tup ds =>
      have h : ds.all (plainD n) = true := h
      show ds.all (plainD (n + 1)) = true
      rw [List.all_eq_true] at h ⊢
      exact fun x hx => ih x (h x hx)
    | lst ds =>
      have h : ds.all (plainD n) = true := h
      show ds.all (plainD (n + 1)) = true
      rw [List.all_eq_true] at h ⊢
      exact fun x hx => ih x (h x hx)
    | _ => first | rfl | (simp [plainD] at h)
theorem any_toP {x : D} (hx : plainD 20 x = true) : ∀ {ds : List D}, ds.all (plainD 20) = true → (toPs ds).any (fun z => PyData.eqv z (toP x)) = inD x ds
  | [], _ => by simp [toPs, inD]
  | d :: ds, h => by
    rw [List.all_cons, Bool.and_eq_true] at h
    rw [toPs, List.any_cons, any_toP hx h.2, ← eqD_toP 20 d x h.1 hx]
    rfl
theorem plains_toPs : ∀ {ds : List D} {n : Nat}, ds.all (plainD n) = true → PyData.plainAll (toPs ds) = true ∧ PyData.depthAll (toPs ds) ≤ n
  | [], _, _ => by simp [toPs, PyData.plainAll, PyData.depthAll]
  | d :: ds, n, h => by
    rw [List.all_cons, Bool.and_eq_true] at h
    obtain ⟨a, b⟩ := plain_toP n d h.1
    obtain ⟨c, e⟩ := plains_toPs h.2
    rw [toPs, PyData.plainAll, PyData.depthAll, a, c]
    exact ⟨rfl, Nat.max_le.mpr ⟨b, e⟩⟩
theorem dps_of {K : PySem.W.Frag} {ρ : List Addr} {F H : Hp} (ex : Sub F H) {n : Nat} : ∀ {ds : List D} {vs : List V}, ds.all (plainD n) = true → DnAll K ρ F vs ds → DpAll K H vs (toPs ds)
  | [], _, _, r => by cases r; rw [toPs]; exact .nil
  | d :: ds, _, h, r => by
    rw [List.all_cons, Bool.and_eq_true] at h
    cases r with
    | cons r1 r2 => rw [toPs]; exact .cons (dp_of ex n d _ h.1 r1) (dps_of ex h.2 r2)
section
variable {X : Cx}
def rInP (K : PySem.W.Frag) (neg : Bool) : R2 := fun x y H Q => ∃ d ds, Dp K H x d ∧ (Dp K H y (.list ds) ∨ Dp K H y (.tuple ds)) ∧ d.plain = true ∧ PyData.plainAll ds = true ∧ PyData.depthAll ds ≤ 50 ∧
  Q (.bl (if neg then !ds.any fun z => PyData.eqv z d else ds.any fun z => PyData.eqv z d)) H
theorem op_inP (hu : X.A.units + 64 < cLine) : OpR X (compareOp .In) (rInP X.K false) := by
  intro pins s σ H x y v u Q I rx ry h
  obtain ⟨d, ds, hd, he, sd, se, hz, q⟩ := h
  obtain ⟨as, r1⟩ := Dp.reads I d x v hd rx
  have h2 : min (PyData.depthAll ds) d.depth ≤ PyData.depthAll ds := Nat.min_le_left _ _
  rcases he with he | he
  · obtain ⟨bs, r2⟩ := Dp.reads I _ y u he ry
    exact SeqAt.in_list_data r2 r1 se sd (by omega) ⟨.bl _, H, I, rfl, q⟩
  · obtain ⟨bs, r2⟩ := Dp.reads I _ y u he ry
    exact SeqAt.in_tuple_data r2 r1 se sd (by omega) ⟨.bl _, H, I, rfl, q⟩
theorem op_notInP (hu : X.A.units + 64 < cLine) : OpR X (compareOp .NotIn) (rInP X.K true) := by
  intro pins s σ H x y v u Q I rx ry h
  obtain ⟨d, ds, hd, he, sd, se, hz, q⟩ := h
  obtain ⟨as, r1⟩ := Dp.reads I d x v hd rx
  have h2 : min (PyData.depthAll ds) d.depth ≤ PyData.depthAll ds := Nat.min_le_left _ _
  rcases he with he | he
  · obtain ⟨bs, r2⟩ := Dp.reads I _ y u he ry
    exact SeqAt.notIn_list_data r2 r1 se sd (by omega) ⟨.bl _, H, I, rfl, q⟩
  · obtain ⟨bs, r2⟩ := Dp.reads I _ y u he ry
    exact SeqAt.notIn_tuple_data r2 r1 se sd (by omega) ⟨.bl _, H, I, rfl, q⟩
def rInSg (neg : Bool) : R2 := fun x y H Q => ∃ (c : Nat) (z : Str), x = .str ⟨#[c]⟩ ∧ y = .str z ∧ Q (.bl (if neg then !decide (c ∈ z.cps.toList) else decide (c ∈ z.cps.toList))) H
theorem os_in {K : PySem.W.Frag} (neg : Bool) : OpS K (fun x y H Q => rInSg neg x y H Q ∨ rInP K neg x y H Q) (fIn neg) := by
  intro ρ F H μ v w d e z k rv rw' ez Q q
  unfold fIn at ez
  split at ez
  · rename_i zs
    split at ez
    · rename_i y
      split at ez
      · rename_i sg hs
        cases ez
        cases rv
        cases rw'
        refine .inl ⟨sg, zs, ?_, rfl, q ρ F H _ Nx.refl k (.bl _)⟩
        congr 1
        cases y with
        | mk a =>
          have : a = #[sg] := by
            apply Array.ext'
            exact hs
          rw [this]
      · cases ez
    · cases ez
  · split at ez
    · rename_i ds hs
      split at ez
      · rename_i hc
        cases ez
        right
        obtain ⟨p1, p2⟩ := plain_toP 19 _ hc.1
        obtain ⟨q1, q2⟩ := plains_toPs hc.2
        have c1 := plainD_mono 19 _ hc.1
        have c2 : ds.all (plainD 20) = true := by
          have := hc.2
          rw [List.all_eq_true] at this ⊢
          exact fun x hx => plainD_mono 19 x (this x hx)
        have hd : Dp K H w (.list (toPs ds)) ∨ Dp K H w (.tuple (toPs ds)) := by
          obtain ⟨a, vs, rfl, e1, e2⟩ := seqA_ok k rw' hs
          rcases e1 with e1 | e1
          · exact .inl (.lst e1 (dps_of k.ex hc.2 e2))
          · exact .inr (.tup e1 (dps_of k.ex hc.2 e2))
        refine ⟨_, _, dp_un k hc.1 rv, hd, p1, q1, by omega, ?_⟩
        rw [any_toP c1 c2]
        exact q ρ F H _ Nx.refl k (.bl _)
      · cases ez
    · cases ez
theorem od_in (hu : X.A.units + 64 < cLine) : OpD X (compareOp .In) (fIn false) := ⟨_, (OpR.or (r := rInSg false) op_in_sign (op_inP hu)), os_in false⟩
theorem od_notIn (hu : X.A.units + 64 < cLine) : OpD X (compareOp .NotIn) (fIn true) := ⟨_, (OpR.or (r := rInSg true) op_notIn_sign (op_notInP hu)), os_in true⟩
end

/-! ### is None, is of truth values -/
def isNon : D → Bool
  | .non => true
  | _ => false
def fIs (neg : Bool) : Mu → D → D → Option D := fun _ x y => match y with
  | .non => some (.bl (if neg then !isNon x else isNon x))
  | .bl b => match x with
    | .bl a => some (.bl (if neg then !decide (a = b) else decide (a = b)))
    | _ => none
  | _ => none
theorem dn_non {K : PySem.W.Frag} {ρ : List Addr} {F : Hp} {v : V} {d : D} (r : Dn K ρ F v d) : decide (v = .non) = isNon d := by
  cases r <;> rfl
section
variable {X : Cx}
theorem os_is {K : PySem.W.Frag} (neg : Bool) : OpS K (fun x y H Q => (y = .non ∧ Q (.bl (if neg then !decide (x = .non) else decide (x = .non))) H) ∨ ∃ a b : Bool, x = .bl a ∧ y = .bl b ∧ Q (.bl (if neg then !decide (a = b) else decide (a = b))) H) (fIs neg) := by
  intro ρ F H μ v w d e z k rv rw' ez Q q
  unfold fIs at ez
  split at ez
  · cases ez
    cases rw'
    refine .inl ⟨rfl, ?_⟩
    rw [dn_non rv]
    exact q ρ F H _ Nx.refl k (.bl _)
  · split at ez
    · cases ez
      cases rv
      cases rw'
      exact .inr ⟨_, _, rfl, rfl, q ρ F H _ Nx.refl k (.bl _)⟩
    · cases ez
  · cases ez
theorem od_is : OpD X (compareOp .Is) (fIs false) := ⟨_, OpR.or (r := fun x y H Q => y = .non ∧ Q (.bl (if false then !decide (x = .non) else decide (x = .non))) H) op_isN (r' := fun x y H Q => ∃ a b : Bool, x = .bl a ∧ y = .bl b ∧ Q (.bl (if false then !decide (a = b) else decide (a = b))) H) op_isBl, os_is false⟩
theorem od_isNot : OpD X (compareOp .IsNot) (fIs true) := ⟨_, OpR.or (r := fun x y H Q => y = .non ∧ Q (.bl (if true then !decide (x = .non) else decide (x = .non))) H) op_notN (r' := fun x y H Q => ∃ a b : Bool, x = .bl a ∧ y = .bl b ∧ Q (.bl (if true then !decide (a = b) else decide (a = b))) H) op_notBl, os_is true⟩
end

/-! ### + of tuples and lists, lists times ints -/
def fAddT : Mu → D → D → Option D := fun _ x y => match x, y with
  | .tup xs, .tup ys => if xs.length + ys.length ≤ 1000000 then some (.tup (xs ++ ys)) else none
  | _, _ => none
def fAddL : Mu → D → D → Option D := fun μ x y => match seqL μ x, seqL μ y with
  | some xs, some ys => if xs.length + ys.length ≤ 1000000 then some (.lst (xs ++ ys)) else none
  | _, _ => none
section
variable {X : Cx}
theorem DnAll.nil_iff {K : PySem.W.Frag} {ρ : List Addr} {F : Hp} {vs : List V} {ds : List D} (h : DnAll K ρ F vs ds) : vs = [] ↔ ds = [] := by
  cases h <;> simp
theorem od_addT : OpD X (binaryOp .Add) fAddT := by
  refine ⟨_, op_catA, fun ρ F H μ v w d e z k rv rw' ez Q q => ?_⟩
  unfold fAddT at ez
  split at ez
  · rename_i xs ys
    split at ez
    · rename_i hl
      cases ez
      cases rv with
      | tup h1 h2 =>
        cases rw' with
        | tup g1 g2 =>
          refine ⟨_, _, _, _, rfl, rfl, k.ex.sqT h1, k.ex.sqT g1, by rw [h2.length, g2.length]; exact le_million hl, fun e => ?_, fun e1 e2 => ?_, fun _ _ p hp => ?_⟩
          · have : xs = [] := h2.nil_iff.mp e
            subst this
            exact q ρ F H _ Nx.refl k (.tup g1 g2)
          · have : ys = [] := g2.nil_iff.mp e2
            subst this
            rw [List.append_nil] at q
            exact q ρ F H _ Nx.refl k (.tup h1 h2)
          · obtain ⟨n2, k2, r2⟩ := new_tup k (h2.append g2) hp
            exact q _ _ _ _ n2 k2 r2
    · cases ez
  · cases ez
def rCatR : R2 := fun x y H Q => ∃ l b xs zs, x = .ref l ∧ y = .ref b ∧ Rd H l (.lst xs) ∧ Rd H b (.lst zs) ∧ xs.length + zs.length ≤ sizeLine ∧ ∀ p, H p = none → Q (.ref p) (upd H p (.lst (xs ++ zs)))
theorem op_catR : OpR X (binaryOp .Add) rCatR := by
  intro pins s σ H x y v u Q I rx ry h
  obtain ⟨l, b, xs, zs, rfl, rfl, hH, hB, hz, q⟩ := h
  cases rx
  cases ry
  obtain ⟨z, its, n, r, e⟩ := hH.ok I.hok
  obtain ⟨z2, its2, n2, r2, e2⟩ := hB.ok I.hok
  have hl := r.length
  have hl2 := r2.length
  refine PySem.P.add_list e e2 ?_ (by rw [List.size_toArray, List.size_toArray]; omega)
  have ea : its.toArray ++ its2.toArray = (its ++ its2).toArray := by simp
  rw [ea]
  exact ⟨.ref _, _, I.lnew (t' := s.toks) (r.append r2) (by rw [List.length_append]; omega), rfl, q _ I.fresh⟩
theorem od_addL : OpD X (binaryOp .Add) fAddL := by
  refine ⟨_, op_catR, fun ρ F H μ v w d e z k rv rw' ez Q q => ?_⟩
  unfold fAddL at ez
  split at ez
  · rename_i xs ys e1 e2
    split at ez
    · rename_i hl
      cases ez
      obtain ⟨a, vs, rfl, h1, h2⟩ := seqL_ok k rv e1
      obtain ⟨b, ws, rfl, g1, g2⟩ := seqL_ok k rw' e2
      refine ⟨_, _, _, _, rfl, rfl, h1, g1, by rw [h2.length, g2.length]; exact le_million hl, fun p hp => ?_⟩
      obtain ⟨n2, k2, r2⟩ := new_lst k (h2.append g2) hp
      exact q _ _ _ _ n2 k2 r2
    · cases ez
  · cases ez
/-- a list times an int -/
def fRepL : Mu → D → D → Option D := fun _ x y => match x, y with
  | .lst ds, .int k => if (-(2 ^ 63) ≤ k ∧ k < 2 ^ 63) ∧ ds.length * k.toNat ≤ 1000000 then some (.lst (List.replicate k.toNat ds).flatten) else none
  | _, _ => none
theorem DnAll.rep {K : PySem.W.Frag} {ρ : List Addr} {F : Hp} {vs : List V} {ds : List D} (h : DnAll K ρ F vs ds) : ∀ k : Nat, DnAll K ρ F (List.replicate k vs).flatten (List.replicate k ds).flatten
  | 0 => .nil
  | k + 1 => by
    rw [List.replicate_succ, List.replicate_succ, List.flatten_cons, List.flatten_cons]
    exact h.append (h.rep k)
theorem od_repL : OpD X (binaryOp .Mult) fRepL := by
  refine ⟨_, op_rep, fun ρ F H μ v w d e z k rv rw' ez Q q => ?_⟩
  unfold fRepL at ez
  split at ez
  · split at ez
    · rename_i hl
      cases ez
      cases rw'
      cases rv with
      | lst h1 h2 =>
        refine ⟨_, _, _, rfl, rfl, k.ex _ _ h1, hl.1.1, hl.1.2, by rw [h2.length]; exact le_million hl.2, fun p hp => ?_⟩
        obtain ⟨n2, k2, r2⟩ := new_lst k (h2.rep _) hp
        exact q _ _ _ _ n2 k2 r2
    · cases ez
  · cases ez
def fMul := orF fMulI fRepL
theorem od_mul : OpD X (binaryOp .Mult) fMul := od_mulI.or od_repL
def fAdd := orF fAddI (orF fAddS (orF fAddT fAddL))
theorem od_add : OpD X (binaryOp .Add) fAdd := od_addI.or (od_addS.or (od_addT.or od_addL))
/-! // of any sign -/
def fdOk (j : Int) : Bool := j != 0 && Nat.blt j.natAbs.log2 9000
theorem op_fdivA : OpR X (binaryOp .FloorDiv) (rI (fun _ j => fdOk j = true) fun i j => .int (i.fdiv j)) := opI (f := binaryOp .FloorDiv) (C := fun _ j => fdOk j = true) (g := fun i j => i.fdiv j) fun i j _ _ _ _ _ hc q => by
  unfold fdOk at hc
  rw [Bool.and_eq_true] at hc
  exact floordiv_int (by simpa using hc.1) q (.inl (PyProof.noPylong_of_log2 (Nat.le_of_ble_eq_true hc.2)))
def fDivI := fII fun i j => if fdOk j = true then some (.int (i.fdiv j)) else none
theorem od_divI : OpD X (binaryOp .FloorDiv) fDivI := opII op_fdivA
end

/-! ### subscripts -/
structure IxD (X : Cx) (f : Mu → D → D → Option D) : Prop where
  ex : ∃ r, IxR X r ∧ OpS X.K r f
def fIx : Mu → D → D → Option D := fun μ x y => match y with
  | .int i => match x with
    | .str z => if z.length ≤ 1000000 then (L2.atI z.cps.toList i).map fun c => .str ⟨#[c]⟩ else none
    | x => match seqA μ x with
      | some ds => L2.atI ds i
      | none => none
  | _ => none
section
variable {X : Cx} {E : XK} {a b : Expr} {da db : DE} {pos : Pos}
theorem ixd : IxD X fIx := by
  refine ⟨_, ix_seq, fun ρ F H μ v w d e z k rv rw' ez Q q => ?_⟩
  unfold fIx at ez
  split at ez
  · rename_i i
    cases rw'
    split at ez
    · rename_i y
      split at ez
      · rename_i hl
        cases rv
        cases hx : L2.atI y.cps.toList i with
        | none => rw [hx] at ez; cases ez
        | some c =>
          rw [hx] at ez
          cases ez
          exact .inr (.inr ⟨y, i, c, rfl, rfl, le_million hl, hx, q ρ F H _ Nx.refl k (.str _)⟩)
      · cases ez
    · split at ez
      · rename_i ds hs
        obtain ⟨a, vs, rfl, e1, e2⟩ := seqA_ok k rv hs
        obtain ⟨x, hx, rx⟩ := e2.atI ez
        rcases e1 with e1 | e1
        · exact .inl ⟨a, vs, i, x, rfl, rfl, e1, hx, q ρ F H _ Nx.refl k rx⟩
        · exact .inr (.inl ⟨a, vs, i, x, rfl, rfl, e1, hx, q ρ F H _ Nx.refl k rx⟩)
      · cases ez
  · cases ez
theorem q_ix (ha : QE X E a da) (hb : QE X E b db) (hs : PlainIx b := by exact fun _ _ => rfl) : QE X E (.Subscript a b pos) (dBin fIx da db) := by
  obtain ⟨r, h1, h2⟩ := (ixd (X := X)).ex
  obtain ⟨ta, a1, a2⟩ := ha.ex
  obtain ⟨tb, b1, b2⟩ := hb.ex
  exact ⟨_, pe_ix h1 a1 b1 hs, sim_bin h2 a2 b2⟩
/-! ### unary -/
def fNeg : Mu → D → Option D := fun _ x => match x with
  | .int i => some (.int (-i))
  | _ => none
theorem q_neg (ha : QE X E a da) : QE X E (.UnaryOp .USub a pos) (dUn fNeg da) := by
  obtain ⟨ta, a1, a2⟩ := ha.ex
  refine ⟨_, pe_un un_neg a1, ?_⟩
  intro ρ F H Γ μ σ k s Q h
  refine a2 ρ F H Γ μ σ k s _ (h.bind.mono (fun x μ1 q => ?_) fun _ _ q => q)
  intro ρ1 F1 H1 v n1 k1 r1
  obtain ⟨z, ez, q⟩ := q.of
  unfold fNeg at ez
  split at ez
  · cases ez
    cases r1
    exact ⟨_, rfl, q ρ1 F1 H1 _ n1 k1 (.int _)⟩
  · cases ez
end

/-! ### slices -/
def cutL {α : Type} (xs : List α) (lo hi : Option Int) : List α := (xs.drop (HT.sIx xs.length 0 lo)).take (HT.sIx xs.length xs.length hi - HT.sIx xs.length 0 lo)
theorem cut_dn {K : PySem.W.Frag} {ρ : List Addr} {F : Hp} {vs : List V} {ds : List D} (h : DnAll K ρ F vs ds) (lo hi : Option Int) : DnAll K ρ F (cutV vs lo hi) (cutL ds lo hi) := by
  unfold cutV cutL
  rw [h.length]
  exact (h.drop _).take _
theorem cutL_whole {α : Type} {xs : List α} {lo hi : Option Int} (h : HT.sIx xs.length 0 lo = 0 ∧ HT.sIx xs.length xs.length hi = xs.length) : cutL xs lo hi = xs := by
  unfold cutL
  rw [h.1, h.2]
  simp
def fSl (μ : Mu) (x : D) (lo hi : Option Int) : Option D := match x with
  | .str z => if z.length ≤ 1000000 then some (.str (cutS z lo hi)) else none
  | .tup ds => some (.tup (cutL ds lo hi))
  | .scr ds => some (.lst (cutL ds lo hi))
  | x => (seqL μ x).map fun ds => .lst (cutL ds lo hi)
def dNoPart : DO := fun _ μ => .ok none μ
def dPart (a : DE) : DO := fun Γ μ => (a Γ μ).bind fun x μ1 => match x with
  | .int i => .ok (some i) μ1
  | _ => .stk
def dSl (a : DE) (l h : DO) : DE := fun Γ μ => (a Γ μ).bind fun x μ1 => (l Γ μ1).bind fun lo μ2 => (h Γ μ2).bind fun hi μ3 => R.of μ3 (fSl μ3 x lo hi)
section
variable {X : Cx} {E : XK} {a e : Expr} {da : DE} {dl dh : DO} {lo hi : Option Expr} {pos p2 : Pos}
theorem qo_none : QO X E none dNoPart := ⟨_, po_none, fun ρ F H Γ μ σ k s Q h => h ρ F H Nx.refl k⟩
theorem qo_some (ha : QE X E e da) : QO X E (some e) (dPart da) := by
  obtain ⟨ta, a1, a2⟩ := ha.ex
  refine ⟨_, po_some a1, ?_⟩
  intro ρ F H Γ μ σ k s Q h
  refine a2 ρ F H Γ μ σ k s _ (h.bind.mono (fun x μ1 q => ?_) fun _ _ q => q)
  intro ρ1 F1 H1 v n1 k1 r1
  cases r1 with
  | int i => exact ⟨i, rfl, q ρ1 F1 H1 n1 k1⟩
  | _ => exact False.elim q
theorem q_sl (ha : QE X E a da) (hl : QO X E lo dl) (hh : QO X E hi dh) : QE X E (.Subscript a (.Slice lo hi none p2) pos) (dSl da dl dh) := by
  obtain ⟨ta, a1, a2⟩ := ha.ex
  obtain ⟨tl, l1, l2⟩ := hl.ex
  obtain ⟨th, h1, h2⟩ := hh.ex
  refine ⟨_, pe_slice ((sl_list (X := X)).or ((sl_tupA (X := X)).or sl_str)) a1 l1 h1, ?_⟩
  intro ρ F H Γ μ σ k s Q h
  refine a2 ρ F H Γ μ σ k s _ (h.bind.mono (fun x μ1 q => ?_) fun _ _ q => q)
  intro ρ1 F1 H1 v n1 k1 r1
  refine l2 ρ1 F1 H1 Γ μ1 σ k1 (s.nx n1) _ (q.bind.mono (fun lo μ2 q => ?_) fun _ _ q => XP.nx n1 q)
  intro ρ2 F2 H2 n2 k2
  refine h2 ρ2 F2 H2 Γ μ2 σ k2 (s.nx (n1.trans n2)) _ (q.bind.mono (fun hi μ3 q => ?_) fun _ _ q => XP.nx (n1.trans n2) q)
  intro ρ3 F3 H3 n3 k3
  obtain ⟨z, ez, q⟩ := q.of
  have r3 := (r1.nx n2).nx n3
  have n := (n1.trans n2).trans n3
  unfold fSl at ez
  split at ez
  · rename_i y
    split at ez
    · rename_i hz
      cases ez
      cases r3
      exact .inr (.inr ⟨_, rfl, le_million hz, q _ _ _ _ n k3 (.str _)⟩)
    · cases ez
  · rename_i ds
    cases ez
    cases r3 with
    | tup g1 g2 =>
      refine .inr (.inl ⟨_, _, rfl, k3.ex.sqT g1, fun hw => ?_, fun _ p hp => ?_⟩)
      · rw [g2.length] at hw
        rw [cutL_whole hw] at q
        exact q _ _ _ _ n k3 (.tup g1 g2)
      · obtain ⟨n4, k4, r4⟩ := new_tup k3 (cut_dn g2 lo hi) hp
        exact q _ _ _ _ (n.trans n4) k4 r4
  · cases ez
    cases r3 with
    | scr g1 g2 =>
      refine .inl ⟨_, _, rfl, k3.ex.sqL g1, fun p hp => ?_⟩
      obtain ⟨n4, k4, r4⟩ := new_lst k3 (cut_dn g2 lo hi) hp
      exact q _ _ _ _ (n.trans n4) k4 r4
  · cases hs : seqL μ3 x with
    | none => rw [hs] at ez; cases ez
    | some ds =>
      rw [hs] at ez
      cases ez
      obtain ⟨a, vs, rfl, g1, g2⟩ := seqL_ok k3 r3 hs
      refine .inl ⟨a, vs, rfl, .inl g1, fun p hp => ?_⟩
      obtain ⟨n4, k4, r4⟩ := new_lst k3 (cut_dn g2 lo hi) hp
      exact q _ _ _ _ (n.trans n4) k4 r4
end
end Ar

set_option Elab.async false
set_option linter.all false
set_option maxRecDepth 100000
set_option maxHeartbeats 2000000
/-! Ar4: calls of builtins -/
namespace Ar
open PySem PySem.Spec PyProof.Rows L2

def CallS (K : PySem.W.Frag) (r : List V → Hp → VK → Prop) (f : Mu → List D → Option D) : Prop := ∀ (ρ : List Addr) (F H : Hp) (μ : Mu) (vs : List V) (ds : List D) (z : D), HpOk K ρ μ F H → DnAll K ρ F vs ds → f μ ds = some z → ∀ Q : VK, QV K ρ F H Q z μ → r vs H Q
structure CallD (X : Cx) (v : Value) (f : Mu → List D → Option D) : Prop where
  ex : ∃ r, CallR X v r ∧ CallS X.K r f
def dFn (f : Mu → List D → Option D) (a : DA) : DE := fun Γ μ => (a Γ μ).bind fun ds μ1 => R.of μ1 (f μ1 ds)
def orC (f g : Mu → List D → Option D) : Mu → List D → Option D := fun μ x => match f μ x with
  | some z => some z
  | none => g μ x
section
variable {X : Cx} {E : XK} {K : PySem.W.Frag} {e : Expr} {es : List Expr} {da : DA} {pos p : Pos}
theorem CallD.or {v : Value} {f f' : Mu → List D → Option D} (h : CallD X v f) (h' : CallD X v f') : CallD X v (orC f f') := by
  obtain ⟨r, h1, h2⟩ := h.ex
  obtain ⟨r', h1', h2'⟩ := h'.ex
  refine ⟨_, h1.or h1', fun ρ F H μ vs ds z k rv ez Q q => ?_⟩
  unfold orC at ez
  split at ez
  · rename_i z' e1
    cases ez
    exact .inl (h2 ρ F H μ vs ds z k rv e1 Q q)
  · exact .inr (h2' ρ F H μ vs ds z k rv ez Q q)
theorem sim_cb {r : List V → Hp → VK → Prop} {f : Mu → List D → Option D} {ta : TA} (hr : CallS K r f) (ha : SimA K E ta da) : SimE K E (tCB r ta) (dFn f da) := by
  intro ρ F H Γ μ σ k s Q h
  refine ha ρ F H Γ μ σ k s _ (h.bind.mono (fun x μ1 h1 => ?_) fun _ _ q => q)
  intro ρ1 F1 H1 vs n1 k1 r1
  obtain ⟨z, ez, q⟩ := h1.of
  exact hr ρ1 F1 H1 μ1 vs x z k1 r1 ez Q (QV.nx n1 q)
theorem q_callB {id : String} {x : Str} {f : Mu → List D → Option D} (hc : CallD X (.builtin id) f) (hm : X.mg x = none) (hv : bootBuiltins x = some (.builtin id)) (ha : QA X E (e :: es) da) (hg : Gl X x := by rfl) (hn : x ≠ "__name__" := by decide) (hdb : (x == ("__debug__" : Str)) = false := by decide)
    (he : starEach (e :: es) X.env = (false, eval e X.env) :: starEach es X.env := by rfl) (hpl : (backTo pos (starEach es X.env)).any (·.1) = false := by rfl) : QE X E (.Call (.Name x p) (e :: es) [] pos) (dFn f da) := by
  obtain ⟨r, h1, h2⟩ := hc.ex
  obtain ⟨ta, a1, a2⟩ := ha.ex
  exact ⟨_, pe_callB h1 hg hm hv a1 hn hdb he hpl, sim_cb h2 a2⟩
theorem q_callTy {T : String} {x : Str} {f : Mu → List D → Option D} (hc : CallD X (.type T) f) (hm : X.mg x = none) (hv : bootBuiltins x = some (.type T)) (ha : QA X E (e :: es) da) (hg : Gl X x := by rfl) (hn : x ≠ "__name__" := by decide) (hdb : (x == ("__debug__" : Str)) = false := by decide)
    (he : starEach (e :: es) X.env = (false, eval e X.env) :: starEach es X.env := by rfl) (hpl : (backTo pos (starEach es X.env)).any (·.1) = false := by rfl) : QE X E (.Call (.Name x p) (e :: es) [] pos) (dFn f da) := by
  obtain ⟨r, h1, h2⟩ := hc.ex
  obtain ⟨ta, a1, a2⟩ := ha.ex
  exact ⟨_, pe_callTy h1 hg hm hv a1 hn hdb he hpl, sim_cb h2 a2⟩

/-! len -/
def fLen : Mu → List D → Option D := fun μ ds => match ds with
  | [.str z] => if z.length ≤ 1000000 then some (.int z.length) else none
  | [x] => (seqA μ x).map fun xs => .int (xs.length : Nat)
  | _ => none
theorem cd_len : CallD X (.builtin "len") fLen := by
  refine ⟨_, call_len, fun ρ F H μ vs ds z k rv ez Q q => ?_⟩
  unfold fLen at ez
  split at ez
  · rename_i y
    split at ez
    · rename_i hl
      cases ez
      cases rv with
      | cons r1 r2 =>
        cases r1
        cases r2
        exact ⟨_, _, rfl, ⟨le_million hl, rfl⟩, q ρ F H _ Nx.refl k (.int _)⟩
    · cases ez
  · rename_i x _
    cases hs : seqA μ x with
    | none => rw [hs] at ez; cases ez
    | some xs =>
      rw [hs] at ez
      cases ez
      cases rv with
      | cons r1 r2 =>
        cases r2
        obtain ⟨a, vs, rfl, h1, h2⟩ := seqA_ok k r1 hs
        refine ⟨_, vs.length, rfl, ?_, ?_⟩
        · rcases h1 with h1 | h1
          · exact .inl ⟨vs, h1, rfl⟩
          · exact .inr ⟨vs, h1, rfl⟩
        · rw [h2.length]
          exact q ρ F H _ Nx.refl k (.int _)
  · cases ez
/-! of ints -/
def fAbs : Mu → List D → Option D := fun _ ds => match ds with
  | [.int i] => some (.int (if i < 0 then -i else i))
  | _ => none
theorem cd_abs : CallD X (.builtin "abs") fAbs := by
  refine ⟨_, call_abs, fun ρ F H μ vs ds z k rv ez Q q => ?_⟩
  unfold fAbs at ez
  split at ez
  · cases ez
    cases rv with
    | cons r1 r2 =>
      cases r1
      cases r2
      exact ⟨_, rfl, q ρ F H _ Nx.refl k (.int _)⟩
  · cases ez
def fMax2 : Mu → List D → Option D := fun _ ds => match ds with
  | [.int i, .int j] => some (.int (if j > i then j else i))
  | _ => none
def fMin2 : Mu → List D → Option D := fun _ ds => match ds with
  | [.int i, .int j] => some (.int (if j < i then j else i))
  | _ => none
theorem cd_max2 (hc : X.calm = true) : CallD X (.builtin "max") fMax2 := by
  refine ⟨_, call_max2 hc, fun ρ F H μ vs ds z k rv ez Q q => ?_⟩
  unfold fMax2 at ez
  split at ez
  · cases ez
    cases rv with
    | cons r1 r2 =>
      cases r1
      cases r2 with
      | cons r2 r3 =>
        cases r2
        cases r3
        exact ⟨_, _, rfl, q ρ F H _ Nx.refl k (.int _)⟩
  · cases ez
theorem cd_min2 (hc : X.calm = true) : CallD X (.builtin "min") fMin2 := by
  refine ⟨_, call_min2 hc, fun ρ F H μ vs ds z k rv ez Q q => ?_⟩
  unfold fMin2 at ez
  split at ez
  · cases ez
    cases rv with
    | cons r1 r2 =>
      cases r1
      cases r2 with
      | cons r2 r3 =>
        cases r2
        cases r3
        exact ⟨_, _, rfl, q ρ F H _ Nx.refl k (.int _)⟩
  · cases ez
def fInt : Mu → List D → Option D := fun _ ds => match ds with
  | [.int i] => some (.int i)
  | [.bl b] => some (.int (if b then 1 else 0))
  | [.str a] => if a.length ≤ 640 then (PySem.intText? a).map .int else none
  | _ => none
theorem cd_int : CallD X (.type "int") fInt := by
  refine ⟨_, (call_int1 (X := X)).or call_int_str, fun ρ F H μ vs ds z k rv ez Q q => ?_⟩
  unfold fInt at ez
  split at ez
  · cases ez
    cases rv with
    | cons r1 r2 =>
      cases r1
      cases r2
      exact .inl (.inl ⟨_, rfl, q ρ F H _ Nx.refl k (.int _)⟩)
  · cases ez
    cases rv with
    | cons r1 r2 =>
      cases r1
      cases r2
      exact .inl (.inr ⟨_, rfl, q ρ F H _ Nx.refl k (.int _)⟩)
  · split at ez
    · rename_i a hl
      cases hi : PySem.intText? a with
      | none => rw [hi] at ez; cases ez
      | some n =>
        rw [hi] at ez
        cases ez
        cases rv with
        | cons r1 r2 =>
          cases r1
          cases r2
          exact .inr ⟨a, n, rfl, hi, hl, q ρ F H _ Nx.refl k (.int _)⟩
    · cases ez
  · cases ez
def fStr : Mu → List D → Option D := fun _ ds => match ds with
  | [.int i] => if i.natAbs.log2 < 1920 then some (.str (toString i)) else none
  | _ => none
theorem cd_str : CallD X (.type "str") fStr := by
  refine ⟨_, call_str_int, fun ρ F H μ vs ds z k rv ez Q q => ?_⟩
  unfold fStr at ez
  split at ez
  · split at ez
    · rename_i hl
      cases ez
      cases rv with
      | cons r1 r2 =>
        cases r1
        cases r2
        exact ⟨_, rfl, hl, q ρ F H _ Nx.refl k (.str _)⟩
    · cases ez
  · cases ez
def fBool : Mu → List D → Option D := fun _ ds => match ds with
  | [.int i] => some (.bl (i != 0))
  | [.bl b] => some (.bl b)
  | _ => none
theorem cd_bool : CallD X (.type "bool") fBool := by
  refine ⟨_, call_bool1, fun ρ F H μ vs ds z k rv ez Q q => ?_⟩
  unfold fBool at ez
  split at ez
  · cases ez
    cases rv with
    | cons r1 r2 =>
      cases r1
      cases r2
      exact .inl ⟨_, rfl, q ρ F H _ Nx.refl k (.bl _)⟩
  · cases ez
    cases rv with
    | cons r1 r2 =>
      cases r1
      cases r2
      exact .inr ⟨_, rfl, q ρ F H _ Nx.refl k (.bl _)⟩
  · cases ez
theorem fd_noPylong {i j : Int} (h : fdOk j = true) : Builtin.divisionGoesByPylong i j = false := by
  unfold fdOk at h
  rw [Bool.and_eq_true] at h
  exact PyProof.noPylong_of_log2 (Nat.le_of_ble_eq_true h.2)
def fDivmod : Mu → List D → Option D := fun _ ds => match ds with
  | [.int i, .int j] => if 0 < j ∧ fdOk j = true then some (.tup [.int (i / j), .int (i % j)]) else none
  | _ => none
theorem cd_divmod : CallD X (.builtin "divmod") fDivmod := by
  refine ⟨_, call_divmodW, fun ρ F H μ vs ds z k rv ez Q q => ?_⟩
  unfold fDivmod at ez
  split at ez
  · split at ez
    · rename_i hl
      cases ez
      cases rv with
      | cons r1 r2 =>
        cases r1
        cases r2 with
        | cons r2 r3 =>
          cases r2
          cases r3
          refine ⟨_, _, rfl, ⟨hl.1, fd_noPylong hl.2⟩, fun p hp => ?_⟩
          obtain ⟨n2, k2, r2⟩ := new_tup (ds := [.int _, .int _]) k (.cons (.int _) (.cons (.int _) .nil)) hp
          exact q _ _ _ _ n2 k2 r2
    · cases ez
  · cases ez
/-! tuple(x), list(x) -/
def fTuple : Mu → List D → Option D := fun μ ds => match ds with
  | [x] => (seqA μ x).map .tup
  | _ => none
theorem tuple_seqL {X : Cx} {ρ : List Addr} {F H : Hp} {μ : Mu} {a : Addr} {vs : List V} {xs : List D} {Q : VK} (k : HpOk X.K ρ μ F H) (e2 : SqL X.K H a vs) (e3 : DnAll X.K ρ F vs xs) (q : QV X.K ρ F H Q (.tup xs) μ) : ∀ p, H p = none → Q (.ref p) (upd H p (.tup vs)) := fun p hp => by
  obtain ⟨n2, k2, r2⟩ := new_tup k e3 hp
  exact q _ _ _ _ n2 k2 r2
theorem cd_tuple : CallD X (.type "tuple") fTuple := by
  refine ⟨_, call_tuple_of, fun ρ F H μ vs ds z k rv ez Q q => ?_⟩
  unfold fTuple at ez
  split at ez
  · rename_i x
    cases rv with
    | cons r1 r2 =>
      cases r2
      by_cases hx : ∃ xs, x = .tup xs
      · obtain ⟨xs, rfl⟩ := hx
        cases ez
        cases r1 with
        | tup h1 h2 => exact ⟨_, _, rfl, .inr ⟨k.ex.sqT h1, q ρ F H _ Nx.refl k (.tup h1 h2)⟩⟩
      · by_cases hy : ∃ xs, x = .scr xs
        · obtain ⟨xs, rfl⟩ := hy
          cases ez
          cases r1 with
          | scr h1 h2 => exact ⟨_, _, rfl, .inl ⟨k.ex.sqL h1, tuple_seqL k (k.ex.sqL h1) h2 q⟩⟩
        · have hs : seqA μ x = seqL μ x := by
            unfold seqA
            split
            · exact absurd ⟨_, rfl⟩ hx
            · exact absurd ⟨_, rfl⟩ hy
            · rfl
          rw [hs] at ez
          cases hq : seqL μ x with
          | none => rw [hq] at ez; cases ez
          | some xs =>
            rw [hq] at ez
            cases ez
            obtain ⟨a, vs, rfl, e2, e3⟩ := seqL_ok k r1 hq
            exact ⟨a, vs, rfl, .inl ⟨.inl e2, tuple_seqL k (.inl e2) e3 q⟩⟩
  · cases ez
def fList : Mu → List D → Option D := fun μ ds => match ds with
  | [x] => (seqA μ x).map .lst
  | _ => none
theorem cd_list : CallD X (.type "list") fList := by
  refine ⟨_, call_list_of, fun ρ F H μ vs ds z k rv ez Q q => ?_⟩
  unfold fList at ez
  split at ez
  · rename_i x
    cases hs : seqA μ x with
    | none => rw [hs] at ez; cases ez
    | some xs =>
      rw [hs] at ez
      cases ez
      cases rv with
      | cons r1 r2 =>
        cases r2
        obtain ⟨a, vs, rfl, e2, e3⟩ := seqA_ok k r1 hs
        refine ⟨a, vs, rfl, e2, fun p hp => ?_⟩
        obtain ⟨n2, k2, r2⟩ := new_lst k e3 hp
        exact q _ _ _ _ n2 k2 r2
  · cases ez
/-! sum, all, any, max, min of a list -/
def intsOf : List D → Option (List Int)
  | [] => some []
  | .int i :: ds => (intsOf ds).map (i :: ·)
  | _ => none
def blsOf : List D → Option (List Bool)
  | [] => some []
  | .bl i :: ds => (blsOf ds).map (i :: ·)
  | _ => none
theorem intsOf_ok {ρ : List Addr} {F : Hp} : ∀ {ds : List D} {vs : List V} {ns : List Int}, intsOf ds = some ns → DnAll K ρ F vs ds → vs = ns.map V.int
  | [], _, _, h, r => by cases h; cases r; rfl
  | .int i :: ds, _, _, h, r => by
    cases r with
    | cons r1 r2 =>
      have h : (intsOf ds).map (i :: ·) = some _ := h
      cases e : intsOf ds with
      | none => rw [e] at h; cases h
      | some ns =>
        rw [e] at h
        cases h
        cases r1
        rw [intsOf_ok e r2]
        rfl
  | .non :: _, _, _, h, _ => by cases h
  | .bl _ :: _, _, _, h, _ => by cases h
  | .str _ :: _, _, _, h, _ => by cases h
  | .tup _ :: _, _, _, h, _ => by cases h
  | .lst _ :: _, _, _, h, _ => by cases h
  | .scr _ :: _, _, _, h, _ => by cases h
  | .ins _ _ :: _, _, _, h, _ => by cases h
  | .slt _ _ :: _, _, _, h, _ => by cases h
  | .dK _ :: _, _, _, h, _ => by cases h
  | .loc _ :: _, _, _, h, _ => by cases h
  | .glo _ :: _, _, _, h, _ => by cases h
  | .ty _ :: _, _, _, h, _ => by cases h
theorem blsOf_ok {ρ : List Addr} {F : Hp} : ∀ {ds : List D} {vs : List V} {ns : List Bool}, blsOf ds = some ns → DnAll K ρ F vs ds → vs = ns.map V.bl
  | [], _, _, h, r => by cases h; cases r; rfl
  | .bl i :: ds, _, _, h, r => by
    cases r with
    | cons r1 r2 =>
      have h : (blsOf ds).map (i :: ·) = some _ := h
      cases e : blsOf ds with
      | none => rw [e] at h; cases h
      | some ns =>
        rw [e] at h
        cases h
        cases r1
        rw [blsOf_ok e r2]
        rfl
  | .non :: _, _, _, h, _ => by cases h
  | .int _ :: _, _, _, h, _ => by cases h
  | .str _ :: _, _, _, h, _ => by cases h
  | .tup _ :: _, _, _, h, _ => by cases h
  | .lst _ :: _, _, _, h, _ => by cases h
  | .scr _ :: _, _, _, h, _ => by cases h
  | .ins _ _ :: _, _, _, h, _ => by cases h
  | .slt _ _ :: _, _, _, h, _ => by cases h
  | .dK _ :: _, _, _, h, _ => by cases h
  | .loc _ :: _, _, _, h, _ => by cases h
  | .glo _ :: _, _, _, h, _ => by cases h
  | .ty _ :: _, _, _, h, _ => by cases h
def fInts (g : List Int → Option D) : Mu → List D → Option D := fun μ ds => match ds with
  | [x] => match seqL μ x with
    | some xs => match intsOf xs with
      | some ns => g ns
      | none => none
    | none => none
  | _ => none
theorem fInts_some {ρ : List Addr} {F H : Hp} {μ : Mu} {g : List Int → Option D} {vs : List V} {ds : List D} {z : D} (k : HpOk K ρ μ F H) (rv : DnAll K ρ F vs ds) (h : fInts g μ ds = some z) : ∃ a ns, vs = [.ref a] ∧ SqL K H a (ns.map V.int) ∧ g ns = some z := by
  unfold fInts at h
  split at h
  · split at h
    · split at h
      · rename_i xs hs _ ns hn
        cases rv with
        | cons r1 r2 =>
          cases r2
          obtain ⟨a, vs, rfl, e2, e3⟩ := seqL_ok k r1 hs
          rw [intsOf_ok hn e3] at e2
          exact ⟨a, ns, rfl, .inl e2, h⟩
      · cases h
    · cases h
  · cases h
def fSum : Mu → List D → Option D := fInts fun ns => some (.int ns.sum)
theorem cd_sum (hc : X.calm = true) : CallD X (.builtin "sum") fSum := by
  refine ⟨_, cr_sum hc, fun ρ F H μ vs ds z k rv ez Q q => ?_⟩
  obtain ⟨a, ns, rfl, h, e⟩ := fInts_some k rv ez
  cases e
  exact ⟨a, ns, rfl, h, q ρ F H _ Nx.refl k (.int _)⟩
def fMaxL : Mu → List D → Option D := fInts fun ns => ns.max?.map .int
def fMinL : Mu → List D → Option D := fInts fun ns => ns.min?.map .int
theorem cd_maxL (hc : X.calm = true) : CallD X (.builtin "max") fMaxL := by
  refine ⟨_, cr_max hc, fun ρ F H μ vs ds z k rv ez Q q => ?_⟩
  obtain ⟨a, ns, rfl, h, e⟩ := fInts_some k rv ez
  cases em : ns.max? with
  | none => rw [em] at e; cases e
  | some m =>
    rw [em] at e
    cases e
    obtain ⟨h1, h2⟩ := List.max?_eq_some_iff.mp em
    refine ⟨a, ns, rfl, h, List.length_pos_of_mem h1, fun m' h1' h2' => ?_⟩
    have : m' = m := Int.le_antisymm (h2 m' h1') (h2' m h1)
    subst this
    exact q ρ F H _ Nx.refl k (.int _)
theorem cd_minL (hc : X.calm = true) : CallD X (.builtin "min") fMinL := by
  refine ⟨_, cr_min hc, fun ρ F H μ vs ds z k rv ez Q q => ?_⟩
  obtain ⟨a, ns, rfl, h, e⟩ := fInts_some k rv ez
  cases em : ns.min? with
  | none => rw [em] at e; cases e
  | some m =>
    rw [em] at e
    cases e
    obtain ⟨h1, h2⟩ := List.min?_eq_some_iff.mp em
    refine ⟨a, ns, rfl, h, List.length_pos_of_mem h1, fun m' h1' h2' => ?_⟩
    have : m' = m := Int.le_antisymm (h2' m h1) (h2 m' h1')
    subst this
    exact q ρ F H _ Nx.refl k (.int _)
def fMax : Mu → List D → Option D := orC fMax2 fMaxL
def fMin : Mu → List D → Option D := orC fMin2 fMinL
theorem cd_max (hc : X.calm = true) : CallD X (.builtin "max") fMax := (cd_max2 hc).or (cd_maxL hc)
theorem cd_min (hc : X.calm = true) : CallD X (.builtin "min") fMin := (cd_min2 hc).or (cd_minL hc)
def fBls (g : List Bool → D) : Mu → List D → Option D := fun μ ds => match ds with
  | [x] => match seqL μ x with
    | some xs => (blsOf xs).map g
    | none => none
  | _ => none
theorem fBls_some {ρ : List Addr} {F H : Hp} {μ : Mu} {g : List Bool → D} {vs : List V} {ds : List D} {z : D} (k : HpOk K ρ μ F H) (rv : DnAll K ρ F vs ds) (h : fBls g μ ds = some z) : ∃ a ns, vs = [.ref a] ∧ SqL K H a (ns.map V.bl) ∧ g ns = z := by
  unfold fBls at h
  split at h
  · split at h
    · rename_i xs hs
      cases hn : blsOf xs with
      | none => rw [hn] at h; cases h
      | some ns =>
        rw [hn] at h
        cases h
        cases rv with
        | cons r1 r2 =>
          cases r2
          obtain ⟨a, vs, rfl, e2, e3⟩ := seqL_ok k r1 hs
          rw [blsOf_ok hn e3] at e2
          exact ⟨a, ns, rfl, .inl e2, rfl⟩
    · cases h
  · cases h
def fAll : Mu → List D → Option D := fBls fun bs => .bl (bs.all id)
def fAny : Mu → List D → Option D := fBls fun bs => .bl (bs.any id)
theorem cd_all (hc : X.calm = true) : CallD X (.builtin "all") fAll := by
  refine ⟨_, cr_all hc, fun ρ F H μ vs ds z k rv ez Q q => ?_⟩
  obtain ⟨a, ns, rfl, h, e⟩ := fBls_some k rv ez
  cases e
  exact ⟨a, ns, rfl, h, q ρ F H _ Nx.refl k (.bl _)⟩
theorem cd_any (hc : X.calm = true) : CallD X (.builtin "any") fAny := by
  refine ⟨_, cr_any hc, fun ρ F H μ vs ds z k rv ez Q q => ?_⟩
  obtain ⟨a, ns, rfl, h, e⟩ := fBls_some k rv ez
  cases e
  exact ⟨a, ns, rfl, h, q ρ F H _ Nx.refl k (.bl _)⟩
/-! isinstance with a built-in class -/
def tyN (μ : Mu) : D → Option String
  | .non => some "NoneType"
  | .bl _ => some "bool"
  | .int _ => some "int"
  | .str _ => some "str"
  | .tup _ => some "tuple"
  | .lst _ => some "list"
  | .scr _ => some "list"
  | .loc n => match μ[n]? with
    | some (.lst _) => some "list"
    | some (.frz _) => some "list"
    | some (.dK _) => some "dict"
    | some (.dT _) => some "dict"
    | _ => none
  | .dK _ => some "dict"
  | _ => none
def tyOk : List String := ["NoneType", "bool", "int", "str", "tuple", "list", "dict"]
def isaB (t T : String) : Bool := t == T || (t == "bool" && T == "int")
theorem tyN_ok {ρ : List Addr} {F H : Hp} {μ : Mu} {v : V} {d : D} {t : String} (k : HpOk K ρ μ F H) (r : Dn K ρ F v d) (h : tyN μ d = some t) : TyX K H v (.type t) := by
  cases r with
  | non => cases h; exact .base .non
  | bl x => cases h; exact .base (.bl x)
  | int i => cases h; exact .base (.int i)
  | str y => cases h; exact .base (.str y)
  | tup hs ha =>
    cases h
    rcases k.ex.sqT hs with (e | ⟨o, e⟩) | ⟨o, its, n, e, c, _⟩
    · exact .base (.tup e)
    · exact .fTuple e
    · exact .kTuple e c
  | lst hs ha =>
    cases h
    exact .base (.lst (k.ex _ _ hs))
  | @loc a n e =>
    have h : (match μ[n]? with
      | some (.lst _) => some "list"
      | some (.frz _) => some "list"
      | some (.dK _) => some "dict"
      | some (.dT _) => some "dict"
      | _ => none) = some t := h
    split at h
    · rename_i ds em
      cases h
      obtain ⟨_, vs, e1, e2⟩ := k.mu n a _ e em
      exact .base (.lst e1)
    · rename_i ds em
      cases h
      obtain ⟨vs, e1, e2⟩ := k.mu n a _ e em
      exact .base (.lst (k.ex _ _ e1))
    · rename_i ds em
      cases h
      obtain ⟨_, vs, e1, e2⟩ := k.mu n a _ e em
      exact .base (.dK e1)
    · rename_i ds em
      cases h
      obtain ⟨_, vs, e1, e2⟩ := k.mu n a _ e em
      exact .base (.dT e1)
    · cases h
  | scr hs ha =>
    cases h
    rcases k.ex.sqL hs with (e | ⟨o, e⟩) | ⟨o, its, n, e, c, _⟩
    · exact .base (.lst e)
    · exact .base (.frz e)
    · exact .kList e c
  | ins _ _ => cases h
  | slt _ _ _ => cases h
  | dK e t => cases h; exact .base (.dK (k.ex _ _ e))
  | glo x => cases h
  | ty n => cases h
  | adr => cases h
  | clo => cases h
  | exn => cases h
theorem isaB_ok : (tyOk.all fun t => ["bool", "int", "str", "tuple", "list", "dict"].all fun T => decide (kitB t T = some (isaB t T))) = true := by decide +kernel
def fIsa : Mu → List D → Option D := fun μ ds => match ds with
  | [x, .ty T] => match tyN μ x with
    | some t => if ["bool", "int", "str", "tuple", "list", "dict"].contains T = true then some (.bl (isaB t T)) else none
    | none => none
  | _ => none
theorem tyN_mem {μ : Mu} {d : D} {t : String} (h : tyN μ d = some t) : t ∈ tyOk := by
  unfold tyN at h
  split at h
  · cases h; decide
  · cases h; decide
  · cases h; decide
  · cases h; decide
  · cases h; decide
  · cases h; decide
  · cases h; decide
  · split at h
    · cases h; decide
    · cases h; decide
    · cases h; decide
    · cases h; decide
    · cases h
  · cases h; decide
  · cases h
theorem cd_isa : CallD X (.builtin "isinstance") fIsa := by
  refine ⟨_, call_isi, fun ρ F H μ vs ds z k rv ez Q q => ?_⟩
  unfold fIsa at ez
  split at ez
  · split at ez
    · split at ez
      · rename_i x T _ t ht hT
        cases ez
        cases rv with
        | cons r1 r2 =>
          cases r2 with
          | cons r2 r3 =>
            cases r2
            cases r3
            have h1 := List.all_eq_true.mp isaB_ok t (tyN_mem ht)
            have h2 := List.all_eq_true.mp h1 T (List.contains_iff_mem.mp hT)
            exact ⟨_, _, _, _, _, rfl, .ty T, tyN_ok k r1 ht, kit_ty (of_decide_eq_true h2), q ρ F H _ Nx.refl k (.bl _)⟩
      · cases ez
    · cases ez
  · cases ez
end
end Ar

set_option Elab.async false
set_option linter.all false
set_option maxRecDepth 100000
set_option maxHeartbeats 2000000
/-! Ar5: statements, targets, loops -/
namespace Ar
open PySem PySem.Spec PyProof.Rows L2

/-! ### statements -/
def dsNext : DS := fun Γ μ => .nx Γ μ
def dSeq (s t : DS) : DS := fun Γ μ => (s Γ μ).thenN t
def dDrop (e : DE) : DS := fun Γ μ => (e Γ μ).thenS fun _ μ1 => .nx Γ μ1
def dRet (e : DE) : DS := fun Γ μ => (e Γ μ).thenS fun d μ1 => .rt d μ1
def dRetN : DS := fun _ μ => .rt .non μ
def dBreak : DS := fun Γ μ => .bk Γ μ
def dCont : DS := fun Γ μ => .ct Γ μ
def dIfS (c : DT) (s t : DS) : DS := fun Γ μ => (c Γ μ).thenS fun b μ1 => match b with
  | true => s Γ μ1
  | false => t Γ μ1
def dNever : DS := fun _ _ => .stk
def dAsg (e : DE) (g : DG) : DS := fun Γ μ => (e Γ μ).thenS fun d μ1 => (g d Γ μ1).thenS fun Γ' μ2 => .nx Γ' μ2
def dSet (i : Nat) (e : DE) : DS := fun Γ μ => (e Γ μ).thenS fun d μ1 => .nx (Γ.set i (some d)) μ1
section
variable {X : Cx} {E : XK} {K : PySem.W.Frag} {e : Expr} {st : Stmt} {rest : List Stmt} {de : DE} {ds dt : DS} {pos : Pos}
theorem sim_next : SimS K E tNext dsNext := by
  intro ρ F H Γ μ σ k s D h
  exact h ρ F H σ Nx.refl k s
theorem sim_seq {t u : TS} (h1 : SimS K E t ds) (h2 : SimS K E u dt) : SimS K E (tSeq t u) (dSeq ds dt) := by
  intro ρ F H Γ μ σ k s D h
  refine h1 ρ F H Γ μ σ k s { D with nx := u D } ?_
  refine (WpS.thenN h).mono (fun Γ1 μ1 q => ?_) (fun _ _ q => q) (fun _ _ q => q) (fun _ _ q => q) (fun _ _ q => q)
  intro ρ1 F1 H1 σ1 n1 k1 s1
  exact h2 ρ1 F1 H1 Γ1 μ1 σ1 k1 s1 D (QS.nx_ n1 q)
theorem qs_nil : QSs X E [] dsNext := ⟨_, pss_nil, sim_next⟩
theorem qs_cons (h1 : QSt X E st ds) (h2 : QSs X E rest dt) : QSs X E (st :: rest) (dSeq ds dt) := by
  obtain ⟨t, a1, a2⟩ := h1.ex
  obtain ⟨u, b1, b2⟩ := h2.ex
  exact ⟨_, pss_cons a1 b1, sim_seq a2 b2⟩
theorem qs_one (h1 : QSt X E st ds) : QSs X E [st] ds := by
  obtain ⟨t, a1, a2⟩ := h1.ex
  exact ⟨_, pss_one a1, a2⟩
theorem q_pass : QSt X E (.Pass pos) dsNext := ⟨_, ps_pass, sim_next⟩
theorem q_doc {x j pos'} : QSt X E (.Expr (.Constant (.str x) j pos) pos') dsNext := ⟨_, ps_doc, sim_next⟩
theorem q_break : QSt X E (.Break pos) dBreak := ⟨_, ps_break, fun ρ F H Γ μ σ k s D h => h ρ F H σ Nx.refl k s⟩
theorem q_cont : QSt X E (.Continue pos) dCont := ⟨_, ps_continue, fun ρ F H Γ μ σ k s D h => h ρ F H σ Nx.refl k s⟩
theorem q_never : QSt X E st dNever := ⟨_, ps_never, fun ρ F H Γ μ σ k s D h => h.elim⟩
theorem q_expr (he : QE X E e de) (hs : swapsWith e none pos.line X.env = pure false := by rfl) : QSt X E (.Expr e pos) (dDrop de) := by
  obtain ⟨t, a1, a2⟩ := he.ex
  refine ⟨_, ps_expr a1 hs, ?_⟩
  intro ρ F H Γ μ σ k s D h
  refine a2 ρ F H Γ μ σ k s _ ((WpS.thenS h).mono (fun d μ1 q => ?_) fun _ _ q => q)
  exact fun ρ1 F1 H1 v n1 k1 _ => q ρ1 F1 H1 σ n1 k1 (s.nx n1)
theorem q_ret (he : QE X E e de) : QSt X E (.Return (some e) pos) (dRet de) := by
  obtain ⟨t, a1, a2⟩ := he.ex
  refine ⟨_, ps_ret a1, ?_⟩
  intro ρ F H Γ μ σ k s D h
  exact a2 ρ F H Γ μ σ k s _ ((WpS.thenS h).mono (fun d μ1 q => q) fun _ _ q => q)
theorem q_retN : QSt X E (.Return none pos) dRetN := ⟨_, ps_retN, fun ρ F H Γ μ σ k s D h => h ρ F H _ Nx.refl k .non⟩
theorem q_ifS {c : Expr} {a b : List Stmt} {dc : DT} (hc : QT X E c dc) (ha : QSs X E a ds) (hb : QSs X E b dt) : QSt X E (.If c a b pos) (dIfS dc ds dt) := by
  obtain ⟨tc, c1, c2⟩ := hc.ex
  obtain ⟨ta, a1, a2⟩ := ha.ex
  obtain ⟨tb, b1, b2⟩ := hb.ex
  refine ⟨_, ps_if c1 a1 b1, ?_⟩
  intro ρ F H Γ μ σ k s D h
  refine c2 ρ F H Γ μ σ k s _ ((WpS.thenS h).mono (fun d μ1 q => ?_) fun _ _ q => q)
  intro ρ1 F1 H1 n1 k1
  cases d with
  | true =>
    show ta D σ H1
    exact a2 ρ1 F1 H1 Γ μ1 σ k1 (s.nx n1) D (QS.nx_ n1 q)
  | false =>
    show tb D σ H1
    exact b2 ρ1 F1 H1 Γ μ1 σ k1 (s.nx n1) D (QS.nx_ n1 q)
theorem sim_asg {te : TE} {g : TG} {dg : DG} (he : SimE K E te de) (hg : SimG K E g dg) : SimS K E (tAsg te g) (dAsg de dg) := by
  intro ρ F H Γ μ σ k s D h
  refine he ρ F H Γ μ σ k s _ ((WpS.thenS h).mono (fun d μ1 q => ?_) fun _ _ q => q)
  intro ρ1 F1 H1 v n1 k1 r1
  refine hg ρ1 F1 H1 Γ μ1 σ v d k1 (s.nx n1) r1 _ ((WpS.thenS q).mono (fun Γ2 μ2 q => ?_) fun _ _ q => XP.nx n1 q)
  exact fun ρ2 F2 H2 σ2 n2 k2 s2 => q ρ2 F2 H2 σ2 (n1.trans n2) k2 s2
theorem sim_set {te : TE} {i : Nat} (he : SimE K E te de) : SimS K E (tAsg te (gName i)) (dSet i de) := by
  intro ρ F H Γ μ σ k s D h
  refine he ρ F H Γ μ σ k s _ ((WpS.thenS h).mono (fun d μ1 q => ?_) fun _ _ q => q)
  exact fun ρ1 F1 H1 v n1 k1 r1 => q ρ1 F1 H1 _ n1 k1 ((s.nx n1).set r1 i)
/-- name = value -/
theorem q_set (i : Nat) {x : Str} {pos' : Pos} (hN : X.N.Nodup) (he : QE X E e de) (hi : X.N[i]? = some x := by rfl) (hx : Loc X.env.scope x := by first | exact Or.inl rfl | exact Or.inr rfl) (hs : swapsWith e (some (.Name x pos')) pos.line X.env = pure false := by rfl) (hf : X.fn x = true ∨ X.env.scope.names.lookup x = some .local := by first | exact .inl rfl | exact .inr rfl) :
    QSt X E (.Assign [.Name x pos'] e pos) (dSet i de) := by
  obtain ⟨t, a1, a2⟩ := he.ex
  exact ⟨_, ps_set hN hi hx a1 hs hf, sim_set a2⟩
/-! targets -/
def dgName (i : Nat) : DG := fun d Γ μ => .ok (Γ.set i (some d)) μ
abbrev DGs := List D → Gam → Mu → R Gam
def dgNil : DGs := fun ds Γ μ => match ds with
  | [] => .ok Γ μ
  | _ => .stk
def dgCons (g : DG) (gs : DGs) : DGs := fun ds Γ μ => match ds with
  | d :: r => (g d Γ μ).bind fun Γ1 μ1 => gs r Γ1 μ1
  | [] => .stk
def dgTup (n : Nat) (gs : DGs) : DG := fun d Γ μ => match d with
  | .tup ds => if ds.length = n then gs ds Γ μ else .stk
  | _ => .stk
/-- o[i] = .., of a list's place -/
def dgSub (o i : DE) : DG := fun d Γ μ => (o Γ μ).bind fun x μ1 => (i Γ μ1).bind fun y μ2 => match x, y with
  | .loc n, .int j => match μ2[n]? with
    | some (.lst ds) => match ixN ds.length j with
      | some m => .ok Γ (μ2.set n (.lst (ds.set m d)))
      | none => .stk
    | _ => .stk
  | _, _ => .stk
def SimGs (K : PySem.W.Frag) (E : XK) (g : TGs) (dg : DGs) : Prop := ∀ (ρ : List Addr) (F H : Hp) (Γ : Gam) (μ : Mu) (σ : L2.St) (v : List V) (d : List D), HpOk K ρ μ F H → Slots K ρ F Γ σ → DnAll K ρ F v d → ∀ Q : L2.St → Hp → Prop,
  WpR (dg d Γ μ) (fun Γ' μ' => ∀ ρ' F' H' σ', Nx ρ F H ρ' F' H' → HpOk K ρ' μ' F' H' → Slots K ρ' F' Γ' σ' → Q σ' H') (XP K E ρ F H) → g v σ H Q
structure QGs (X : Cx) (E : XK) (es : List Expr) (dg : DGs) : Prop where
  ex : ∃ g, PGs X es g ∧ SimGs X.K E g dg
theorem sim_gname {i : Nat} : SimG K E (gName i) (dgName i) := by
  intro ρ F H Γ μ σ v d k s r Q h
  exact h ρ F H _ Nx.refl k (s.set r i)
theorem qg_name (i : Nat) {x : Str} (hN : X.N.Nodup) (hi : X.N[i]? = some x := by rfl) (hx : Loc X.env.scope x := by first | exact Or.inl rfl | exact Or.inr rfl) (hf : X.fn x = true ∨ X.env.scope.names.lookup x = some .local := by first | exact .inl rfl | exact .inr rfl) :
    QG X E (.Name x pos) (dgName i) := ⟨_, pg_name hN hi hx hf, sim_gname⟩
theorem qgs_nil : QGs X E [] dgNil := by
  refine ⟨_, pgs_nil, ?_⟩
  intro ρ F H Γ μ σ v d k s r Q h
  cases r with
  | nil => exact ⟨rfl, h ρ F H _ Nx.refl k s⟩
  | cons _ _ => exact False.elim h
theorem qgs_cons {es : List Expr} {dg : DG} {dgs : DGs} (h1 : QG X E e dg) (h2 : QGs X E es dgs) (hs : (assignEach (e :: es) X.env).map (·.2) = assign e X.env :: (assignEach es X.env).map (·.2) := by rfl) : QGs X E (e :: es) (dgCons dg dgs) := by
  obtain ⟨g, a1, a2⟩ := h1.ex
  obtain ⟨gs, b1, b2⟩ := h2.ex
  refine ⟨_, pgs_cons a1 b1 hs, ?_⟩
  intro ρ F H Γ μ σ v d k s r Q h
  cases r with
  | nil => exact False.elim h
  | cons r1 r2 =>
    refine ⟨_, _, rfl, a2 ρ F H Γ μ σ _ _ k s r1 _ ((WpR.bind h).mono (fun Γ1 μ1 q => ?_) fun _ _ q => q)⟩
    intro ρ1 F1 H1 σ1 n1 k1 s1
    refine b2 ρ1 F1 H1 Γ1 μ1 σ1 _ _ k1 s1 (r2.nx n1) Q (WpR.mono q (fun Γ2 μ2 q => ?_) fun _ _ q => XP.nx n1 q)
    exact fun ρ2 F2 H2 σ2 n2 k2 s2 => q ρ2 F2 H2 σ2 (n1.trans n2) k2 s2
theorem qg_tup {es : List Expr} {k : Nat} {dgs : DGs} {n : Nat} (hc : X.calm = true) (h : QGs X E es dgs) (hn : (assignEach es X.env).length = n := by rfl) (hst : (assignEach es X.env).findIdx? (·.1) = none := by rfl) : QG X E (.Tuple es k pos) (dgTup n dgs) := by
  obtain ⟨g, a1, a2⟩ := h.ex
  refine ⟨_, pg_tup hc a1 hn hst, ?_⟩
  intro ρ F H Γ μ σ v d k s r Q h
  cases r with
  | tup h1 h2 =>
    have h : WpR (if _ = n then dgs _ Γ μ else .stk) _ _ := h
    split at h
    · rename_i hl
      exact ⟨_, _, rfl, k.ex.sqT h1, by rw [h2.length]; exact hl, a2 ρ F H Γ μ σ _ _ k s h2 Q h⟩
    · exact False.elim h
  | _ => exact False.elim h
theorem set_place {ρ : List Addr} {F H : Hp} {μ : Mu} {n m : Nat} {a : Addr} {ds : List D} {d : D} {v : V} (k : HpOk K ρ μ F H) (e : ρ[n]? = some a) (em : μ[n]? = some (.lst ds)) (r : Dn K ρ F v d) :
    ∃ vs, H a = some (.lst vs) ∧ vs.length = ds.length ∧ HpOk K ρ (μ.set n (.lst (ds.set m d))) F (upd H a (.lst (vs.set m v))) ∧ Nx ρ F H ρ F (upd H a (.lst (vs.set m v))) := by
  obtain ⟨hf, vs, e1, e2⟩ := k.mu n a _ e em
  exact ⟨vs, e1, e2.length, k.write e hf ⟨hf, _, upd_same, e2.set r m⟩, Nx.write_ e hf (by rw [e1]; exact Option.some_ne_none _)⟩
theorem sim_gsub {to ti : TE} {do_ di : DE} (ho : SimE K E to do_) (hi : SimE K E ti di) : SimG K E (gSub to ti rSetL) (dgSub do_ di) := by
  intro ρ F H Γ μ σ v d k s r Q h
  refine ho ρ F H Γ μ σ k s _ ((WpR.bind h).mono (fun x μ1 q => ?_) fun _ _ q => q)
  intro ρ1 F1 H1 w n1 k1 r1
  refine hi ρ1 F1 H1 Γ μ1 σ k1 (s.nx n1) _ ((WpR.bind q).mono (fun y μ2 q => ?_) fun _ _ q => XP.nx n1 q)
  intro ρ2 F2 H2 u n2 k2 r2
  have r1 := r1.nx n2
  cases r1 with
  | @loc a n e =>
    cases r2 with
    | int j =>
      have q : WpR (match μ2[n]? with
        | some (.lst ds) => match ixN ds.length j with
          | some m => .ok Γ (μ2.set n (.lst (ds.set m d)))
          | none => .stk
        | _ => .stk) _ _ := q
      split at q
      · rename_i ds em
        split at q
        · rename_i m hm
          obtain ⟨vs, e1, el, k3, n3⟩ := set_place (m := m) k2 e em ((r.nx n1).nx n2)
          refine ⟨a, vs, j, m, rfl, rfl, e1, by rw [el]; exact hm, ?_⟩
          exact q _ _ _ _ ((n1.trans n2).trans n3) k3 (((s.nx n1).nx n2).nx n3)
        · exact False.elim q
      · exact False.elim q
    | _ => exact False.elim q
  | _ => exact False.elim q
theorem qg_sub {o i : Expr} {do_ di : DE} (ho : QE X E o do_) (hi : QE X E i di) (ha : ∀ v, assign (.Subscript o i pos) X.env v = (do
      let ov ← holding [v] (eval o X.env)
      let iv ← holding [v, ov] (eval i X.env)
      standAt pos
      holding [v, ov, iv] (setItem ov iv v)
      release [v, ov, iv] []) := by intro _; rfl) : QG X E (.Subscript o i pos) (dgSub do_ di) := by
  obtain ⟨to, a1, a2⟩ := ho.ex
  obtain ⟨ti, b1, b2⟩ := hi.ex
  exact ⟨_, pg_sub a1 b1 set_list ha, sim_gsub a2 b2⟩
theorem q_asg {tg : Expr} {dg : DG} (he : QE X E e de) (hg : QG X E tg dg) (hs : swapsWithSole [tg] e pos.line X.env = pure false := by rfl) (hw : swappedStores [tg] e X.env = pure none := by rfl)
    (h1 : (assignEach [tg] X.env).map (·.2) = [assign tg X.env] := by rfl) : QSt X E (.Assign [tg] e pos) (dAsg de dg) := by
  obtain ⟨t, a1, a2⟩ := he.ex
  obtain ⟨g, b1, b2⟩ := hg.ex
  exact ⟨_, ps_asg a1 b1 hs hw h1, sim_asg a2 b2⟩
/-- a, b = x, y -/
def dPar (i j : Nat) (a : DA) : DS := fun Γ μ => (a Γ μ).thenS fun ds μ1 => match ds with
  | [x, y] => .nx ((Γ.set i (some x)).set j (some y)) μ1
  | _ => .stk
def dPar3 (i j l : Nat) (a : DA) : DS := fun Γ μ => (a Γ μ).thenS fun ds μ1 => match ds with
  | [x, y, z] => .nx (((Γ.set i (some x)).set j (some y)).set l (some z)) μ1
  | _ => .stk
theorem q_par (i j : Nat) {x y : Str} {a b : Expr} {da : DA} {px py pt : Pos} {kt k2 pt2} (hc : X.calm = true) (hN : X.N.Nodup) (ha : QA X E [a, b] da) (hi : X.N[i]? = some x := by rfl) (hj : X.N[j]? = some y := by rfl) (hij : i ≠ j := by decide)
    (hx : X.env.scope.names.lookup x = some .local := by rfl) (hy : X.env.scope.names.lookup y = some .local := by rfl)
    (hw : swappedStores [.Tuple [.Name x px, .Name y py] kt pt] (.Tuple [a, b] k2 pt2) X.env = pure (some [x, y]) := by rfl)
    (hs : swapsWithSole [.Tuple [.Name x px, .Name y py] kt pt] (.Tuple [a, b] k2 pt2) pos.line X.env = pure false := by rfl) :
    QSt X E (.Assign [.Tuple [.Name x px, .Name y py] kt pt] (.Tuple [a, b] k2 pt2) pos) (dPar i j da) := by
  obtain ⟨ta, a1, a2⟩ := ha.ex
  refine ⟨_, ps_par hc hN hi hj hij hx hy a1 hw hs, ?_⟩
  intro ρ F H Γ μ σ k s D h
  refine a2 ρ F H Γ μ σ k s _ ((WpS.thenS h).mono (fun d μ1 q => ?_) fun _ _ q => q)
  intro ρ1 F1 H1 vs n1 k1 r1
  split at q
  · cases r1 with
    | cons r1 r2 =>
      cases r2 with
      | cons r2 r3 =>
        cases r3
        exact ⟨_, _, rfl, q ρ1 F1 H1 _ n1 k1 (((s.nx n1).set r1 i).set r2 j)⟩
  · exact False.elim q
theorem q_par3 (i j l : Nat) {x y z : Str} {a b c : Expr} {da : DA} {px py pz pt : Pos} {kt k2 pt2} (hc : X.calm = true) (hN : X.N.Nodup) (ha : QA X E [a, b, c] da) (hi : X.N[i]? = some x := by rfl) (hj : X.N[j]? = some y := by rfl) (hl : X.N[l]? = some z := by rfl) (hij : i ≠ j := by decide) (hil : i ≠ l := by decide) (hjl : j ≠ l := by decide)
    (hx : X.env.scope.names.lookup x = some .local := by rfl) (hy : X.env.scope.names.lookup y = some .local := by rfl) (hz : X.env.scope.names.lookup z = some .local := by rfl)
    (hw : swappedStores [.Tuple [.Name x px, .Name y py, .Name z pz] kt pt] (.Tuple [a, b, c] k2 pt2) X.env = pure (some [x, y, z]) := by rfl)
    (hs : swapsWithSole [.Tuple [.Name x px, .Name y py, .Name z pz] kt pt] (.Tuple [a, b, c] k2 pt2) pos.line X.env = pure false := by rfl) :
    QSt X E (.Assign [.Tuple [.Name x px, .Name y py, .Name z pz] kt pt] (.Tuple [a, b, c] k2 pt2) pos) (dPar3 i j l da) := by
  obtain ⟨ta, a1, a2⟩ := ha.ex
  refine ⟨_, ps_par3 hc hN hi hj hl hij hil hjl hx hy hz a1 hw hs, ?_⟩
  intro ρ F H Γ μ σ k s D h
  refine a2 ρ F H Γ μ σ k s _ ((WpS.thenS h).mono (fun d μ1 q => ?_) fun _ _ q => q)
  intro ρ1 F1 H1 vs n1 k1 r1
  split at q
  · cases r1 with
    | cons r1 r2 =>
      cases r2 with
      | cons r2 r3 =>
        cases r3 with
        | cons r3 r4 =>
          cases r4
          exact ⟨_, _, _, rfl, q ρ1 F1 H1 _ n1 k1 ((((s.nx n1).set r1 i).set r2 j).set r3 l)⟩
  · exact False.elim q
/-- x op= e -/
structure IpD (X : Cx) (op : Operator) (f : Mu → D → D → Option D) : Prop where
  ex : ∃ r, PIp X op r ∧ OpS X.K r f
def dAug (i : Nat) (f : Mu → D → D → Option D) (a : DE) : DS := fun Γ μ => match Γ[i]? with
  | some (some x) => (a Γ μ).thenS fun y μ1 => (R.of μ1 (f μ1 x y)).thenS fun z μ2 => .nx (Γ.set i (some z)) μ2
  | _ => .stk
theorem ipd_add : IpD X .Add fAddI := by
  refine ⟨_, ip_add, fun ρ F H μ v w d e z k rv rw' ez Q q => ?_⟩
  obtain ⟨i, j, rfl, rfl, e2⟩ := fII_some ez
  cases e2
  cases rv
  cases rw'
  exact ⟨i, j, rfl, rfl, q ρ F H _ Nx.refl k (.int _)⟩
theorem ipd_mul : IpD X .Mult fMulI := by
  have h : OpR X (inplaceOp .Mult) (rI (fun i j => mulOk i j = true) fun i j => .int (i * j)) := opI (f := inplaceOp .Mult) (C := fun i j => mulOk i j = true) (g := fun i j => i * j) fun _ _ _ _ _ _ _ hc q => imul_int q (mulOk_ok hc)
  refine ⟨_, h, fun ρ F H μ v w d e z k rv rw' ez Q q => ?_⟩
  obtain ⟨i, j, rfl, rfl, e2⟩ := fII_some ez
  cases rv
  cases rw'
  split at e2
  · rename_i hc
    cases e2
    exact ⟨i, j, rfl, rfl, hc, q ρ F H _ Nx.refl k (.int _)⟩
  · cases e2
theorem q_aug (i : Nat) {x : Str} {op : Operator} {f : Mu → D → D → Option D} {pos' : Pos} (hN : X.N.Nodup) (ho : IpD X op f) (he : QE X E e de) (hi : X.N[i]? = some x := by rfl) (hx : Loc X.env.scope x := by first | exact Or.inl rfl | exact Or.inr rfl) (hf : X.fn x = true ∨ X.env.scope.names.lookup x = some .local := by first | exact .inl rfl | exact .inr rfl) :
    QSt X E (.AugAssign (.Name x pos') op e pos) (dAug i f de) := by
  obtain ⟨t, a1, a2⟩ := he.ex
  obtain ⟨r, b1, b2⟩ := ho.ex
  refine ⟨_, ps_aug hN hi hx a1 b1 hf, ?_⟩
  intro ρ F H Γ μ σ k s D h
  unfold dAug at h
  split at h
  · rename_i d0 e0
    obtain ⟨v0, ev, r0⟩ := s.at_ i d0 e0
    refine ⟨v0, ev, a2 ρ F H Γ μ σ k s _ ((WpS.thenS h).mono (fun y μ1 q => ?_) fun _ _ q => q)⟩
    intro ρ1 F1 H1 w n1 k1 r1
    obtain ⟨z, ez, q⟩ := (WpS.thenS q).of
    exact b2 ρ1 F1 H1 μ1 v0 w d0 y z k1 (r0.nx n1) r1 ez _ fun ρ2 F2 H2 u n2 k2 r2 => q ρ2 F2 H2 _ (n1.trans n2) k2 (((s.nx n1).nx n2).set r2 i)
  · exact False.elim h
/-! o[i] op= e, of a list's place -/
def dAugS (o i : DE) (f : Mu → D → D → Option D) (a : DE) : DS := fun Γ μ => (o Γ μ).thenS fun x μ1 => (i Γ μ1).thenS fun y μ2 => match x, y with
  | .loc n, .int j => match μ2[n]? with
    | some (.lst ds) => match L2.atI ds j with
      | some old => (a Γ μ2).thenS fun u μ4 => (R.of μ4 (f μ4 old u)).thenS fun z μ5 => match μ5[n]? with
        | some (.lst es) => match ixN es.length j with
          | some m => .nx Γ (μ5.set n (.lst (es.set m z)))
          | none => .stk
        | _ => .stk
      | none => .stk
    | _ => .stk
  | _, _ => .stk
theorem pget_list : PGet X (rIxL X.K) := by
  intro pins s σ H o i ov iv Q I ro ri h
  obtain ⟨p, xs, j, z, rfl, rfl, hq, he, q⟩ := h
  cases ro
  obtain ⟨t, rfl⟩ := ri
  obtain ⟨its, r, pl, hz⟩ := I.list hq
  obtain ⟨m, h1, h2, h3, h4, h5⟩ := atI_get he
  obtain ⟨w, ew, rw'⟩ := r.get h2
  have hl := r.length
  have hn := line63
  have fin : EP X pins σ Q w s := ⟨z, H, I, rw', q⟩
  by_cases h0 : 0 ≤ j
  · have hj : j.toNat = m := by
      rw [seqIndex_of h0 h5] at h1
      exact Option.some.inj h1
    exact PySem.wpAny_getItem_list pl.isList h0 (by omega) (by rw [hj]; simpa using ew) fin
  · have hj : (j + (its.toArray.size : Int)).toNat = m := by
      rw [seqIndex_neg (by omega) h4] at h1
      rw [List.size_toArray, ← hl]
      exact Option.some.inj h1
    exact PySem.wpAny_getItem_list_neg pl.isList (by omega) (by rw [List.size_toArray]; omega) (by omega) (by rw [hj]; simpa using ew) fin
theorem q_augS {o i : Expr} {op : Operator} {f : Mu → D → D → Option D} {tpos : Pos} {do_ di : DE} (hp : IpD X op f) (ho : QE X E o do_) (hi : QE X E i di) (he : QE X E e de)
    (ha : ∀ ov iv new, augStore i ov iv new = (do holding [new, ov, iv] (setItem ov iv new); release [new, ov, iv] []; pure .next) := by intros; rfl) : QSt X E (.AugAssign (.Subscript o i tpos) op e pos) (dAugS do_ di f de) := by
  obtain ⟨to, o1, o2⟩ := ho.ex
  obtain ⟨ti, i1, i2⟩ := hi.ex
  obtain ⟨te, e1, e2⟩ := he.ex
  obtain ⟨r, p1, p2⟩ := hp.ex
  refine ⟨_, ps_augS o1 i1 pget_list e1 p1 set_list ha, ?_⟩
  intro ρ F H Γ μ σ k s D h
  refine o2 ρ F H Γ μ σ k s _ ((WpS.thenS h).mono (fun x μ1 q => ?_) fun _ _ q => q)
  intro ρ1 F1 H1 v n1 k1 r1
  refine i2 ρ1 F1 H1 Γ μ1 σ k1 (s.nx n1) _ ((WpS.thenS q).mono (fun y μ2 q => ?_) fun _ _ q => XP.nx n1 q)
  intro ρ2 F2 H2 w n2 k2 r2
  have n12 := n1.trans n2
  have r1 := r1.nx n2
  cases r1 with
  | @loc a n ea =>
    cases r2 with
    | int j =>
      have q : WpS (match μ2[n]? with
        | some (.lst ds) => match L2.atI ds j with
          | some old => (de Γ μ2).thenS fun u μ4 => (R.of μ4 (f μ4 old u)).thenS fun z μ5 => match μ5[n]? with
            | some (.lst es) => match ixN es.length j with
              | some m => .nx Γ (μ5.set n (.lst (es.set m z)))
              | none => .stk
            | _ => .stk
          | none => .stk
        | _ => .stk) _ := q
      split at q
      · rename_i ds em
        split at q
        · rename_i old eo
          obtain ⟨_, vs, ev, rv⟩ := k2.mu n a _ ea em
          obtain ⟨z, hz, rz⟩ := rv.atI eo
          refine ⟨a, vs, j, z, rfl, rfl, SqL.of ev, hz, e2 ρ2 F2 H2 Γ μ2 σ k2 (s.nx n12) _ ((WpS.thenS q).mono (fun u μ4 q => ?_) fun _ _ q => XP.nx n12 q)⟩
          intro ρ4 F4 H4 uv n4 k4 r4
          obtain ⟨zn, ez, q⟩ := (WpS.thenS q).of
          refine p2 ρ4 F4 H4 μ4 z uv old u zn k4 (rz.nx n4) r4 ez _ fun ρ5 F5 H5 zv n5 k5 r5 => ?_
          have n15 := (n12.trans n4).trans n5
          have ea5 := (n4.trans n5).pre _ _ ea
          split at q
          · rename_i es em5
            split at q
            · rename_i m hm
              obtain ⟨vs5, e5, el5, k6, n6⟩ := set_place (m := m) k5 ea5 em5 r5
              refine ⟨a, vs5, j, m, rfl, rfl, e5, by rw [el5]; exact hm, ?_⟩
              exact q _ _ _ _ (n15.trans n6) k6 ((s.nx n15).nx n6)
            · exact False.elim q
          · exact False.elim q
        · exact False.elim q
      · exact False.elim q
    | _ => exact False.elim q
  | _ => exact False.elim q
end
end Ar

set_option Elab.async false
set_option linter.all false
set_option maxRecDepth 100000
set_option maxHeartbeats 2000000
/-! ArG: what a def promises where no guard stands above (so that the text of a list is told exactly) -/
namespace Ar
open PySem PySem.Spec PyProof.Rows L2

structure RoomG (k : Nat) (A : Around) : Prop where
  r : Room k A
  g : A.guards = some []
theorem RoomG.mono {j k : Nat} {A : Around} (h : RoomG k A) (l : j ≤ k) : RoomG j A := ⟨h.r.mono l, h.g⟩
theorem RoomG.units {k : Nat} {A : Around} (h : RoomG k A) : A.units + 64 < cLine := h.r.units
theorem RoomG.down {k : Nat} {A : Around} (h : RoomG (k + 1) A) (en : Env) : RoomG k (A.deeper en) := ⟨h.r.deeper en, h.g⟩
structure Pm (P : Program) (w : World) (K : PySem.W.Frag) (mg : Str → Option Value) (base : Heap) (Z : CXT) (k : Nat) (f : Addr) (fd : FuncData) (ps : List Str) (sp : Sp) : Prop where
  ln : ∀ xs H D E, sp xs H D E → xs.length = ps.length
  go : ∀ (A : Around) (o : List Env) (s : Shared) (H : Hp) (ar : Args) (us : List Value) (xs : List V) (D : VK) (E : XK), RoomG k A → Env0 P w K mg base A o s H → BindsTo s fd ar (ps.zip us) → Vals xs us → sp xs H D E →
    codeAny (model P w) A (.call (.ref f) ar) (CR Z o P w H s D E) s
theorem Pm.mono {P : Program} {w : World} {K : PySem.W.Frag} {mg : Str → Option Value} {base : Heap} {Z : CXT} {j k : Nat} {f : Addr} {fd : FuncData} {ps : List Str} {sp : Sp} (G : Pm P w K mg base Z j f fd ps sp) (l : j ≤ k) : Pm P w K mg base Z k f fd ps sp :=
  ⟨G.ln, fun A o s H ar us xs D E hr => G.go A o s H ar us xs D E (hr.mono l)⟩
section
variable {X : Cx} {Z : CXT} {k n : Nat} {f : Addr} {fd : FuncData} {ps ks : List Str} {sp : Sp} {dvs : List V} {ds : List Value} {E : XK} {x : Str} {p pos : Pos} {e : Expr} {es : List Expr} {ta tk : TA} {kws : List Keyword} {g : List Value → List Value → List Value} {gV : List V → List V → List V}
theorem ran {pins : List (Addr × Obj)} {σ : L2.St} {H : Hp} {s : Shared} {D : VK} {ar : Args} {us : List Value} {xs : List V} (G : Pm X.prog X.w X.K X.mg X.base Z k f fd ps sp) (hr : RoomG k X.A) (hx : Passes Z X E) (I : Inv X pins σ H s)
    (b : BindsTo s fd ar (ps.zip us)) (r : Vals xs us) (h : sp xs H D E) : wpAny (model X.prog X.w) X.A (call (.ref f) ar.pos ar.kw) (EP X pins σ D) X.xe s := by
  refine wpAny_call (codeAny_mono (G.go X.A X.stack s H ar us xs D E hr I.env0 b r h) fun z s' q => ?_)
  match z, q with
  | .error err, q => exact hx pins σ H s err s' I q
  | .ok (.ret u), q => exact I.after q
theorem pe_callG (G : Pm X.prog X.w X.K X.mg X.base Z k f fd ps sp) (hr : RoomG k X.A) (gl : Gl X x) (m : X.mg x = some (.ref f)) (kp : PySem.W.keepIn X.K (.ref f) = true) (b : Binds X.K fd ps ds) (dv : Vals dvs ds) (hx : Passes Z X E)
    (ar : PA X (e :: es) ta) (db : (x == ("__debug__" : Str)) = false := by decide) (st : starEach (e :: es) X.env = (false, eval e X.env) :: starEach es X.env := by rfl) (pl : (backTo pos (starEach es X.env)).any (·.1) = false := by rfl) :
    PE X (.Call (.Name x p) (e :: es) [] pos) (tCall sp dvs E ta) := by
  refine ⟨fun pins s σ H D I h => wpAny_Call_Name_kw (ld_glob I gl m ?_ db)⟩
  refine PySem.W.callWith_K (h₀ := X.base) I.ok.mod.kin kp (thn (ar.run pos pins s σ H _ I h) fun us s1 ⟨xs, H1, I1, r, q⟩ => ⟨I1.kIn, ?_⟩) st pl
  have r2 := r.append dv
  exact ran (ar := ⟨us, []⟩) G hr hx I1 (b s1 us I1.kIn (by rw [← r2.length]; exact G.ln _ _ _ _ q)) r2 q
theorem pe_callG0 (G : Pm X.prog X.w X.K X.mg X.base Z k f fd ps sp) (hr : RoomG k X.A) (gl : Gl X x) (m : X.mg x = some (.ref f)) (kp : PySem.W.keepIn X.K (.ref f) = true) (b : Binds X.K fd ps ds) (dv : Vals dvs ds) (hx : Passes Z X E)
    (db : (x == ("__debug__" : Str)) = false := by decide) : PE X (.Call (.Name x p) [] [] pos) (tCall sp dvs E tNil) := by
  refine ⟨fun pins s σ H D I h => wpAny_Call_Name_kw (ld_glob I gl m ?_ db)⟩
  have r2 : Vals ([] ++ dvs) ([] ++ ds) := dv
  exact PySem.W.callWith_K0 I.kIn kp (ran (ar := ⟨[], []⟩) G hr hx I (b s [] I.kIn (by rw [← r2.length]; exact G.ln _ _ _ _ h)) r2 h)
theorem pe_callGN (G : Pm X.prog X.w X.K X.mg X.base Z k f fd ps sp) (hr : RoomG k X.A) (gl : Gl X x) (m : X.mg x = some (.ref f)) (kp : PySem.W.keepIn X.K (.ref f) = true) (b : KBn X.K fd ps n ks g gV) (hx : Passes Z X E)
    (ar : PA X (e :: es) ta) (kw : PK X kws tk) (al : (backToKw pos (keywordEach kws X.env)).all (·.1.isSome) = true := by rfl) (ek : (backToKw pos (keywordEach kws X.env)).filterMap (·.1) = ks := by rfl)
    (db : (x == ("__debug__" : Str)) = false := by decide) (st : starEach (e :: es) X.env = (false, eval e X.env) :: starEach es X.env := by rfl)
    (pl : ((backTo pos (starEach (e :: es) X.env)).any (·.1) || (backToKw pos (keywordEach kws X.env)).any (·.1.isNone)) = false := by rfl) :
    PE X (.Call (.Name x p) (e :: es) kws pos) (tCallN n ks.length sp gV E ta tk) := by
  refine ⟨fun pins s σ H D I h => wpAny_Call_Name_kw (ld_glob I gl m ?_ db)⟩
  refine PySem.W.callWith_KW (h₀ := X.base) I.ok.mod.kin kp al (thn (ar.run pos pins s σ H _ I h) fun us s1 ⟨xs, H1, I1, r, q⟩ => ?_) pl st
  refine thn (kw.run pos pins s1 σ H1 _ I1 q) fun ws s2 ⟨zs, H2, I2, rz, l1, l2, q2⟩ => ⟨I2.kIn, ?_⟩
  rw [ek]
  exact ran (ar := ⟨us, ks.zip ws⟩) G hr hx I2 (b.to s2 us ws I2.kIn (r.length.symm.trans l1) (rz.length.symm.trans l2)) (b.rel r rz) q2
theorem pe_callGN0 (G : Pm X.prog X.w X.K X.mg X.base Z k f fd ps sp) (hr : RoomG k X.A) (gl : Gl X x) (m : X.mg x = some (.ref f)) (kp : PySem.W.keepIn X.K (.ref f) = true) (b : KBn X.K fd ps 0 ks g gV) (hx : Passes Z X E)
    (kw : PK X kws tk) (al : (backToKw pos (keywordEach kws X.env)).all (·.1.isSome) = true) (ek : (backToKw pos (keywordEach kws X.env)).filterMap (·.1) = ks)
    (db : (x == ("__debug__" : Str)) = false) (pl : ((backTo pos (starEach [] X.env)).any (·.1) || (backToKw pos (keywordEach kws X.env)).any (·.1.isNone)) = false) :
    PE X (.Call (.Name x p) [] kws pos) (tCallN 0 ks.length sp gV E tNil tk) := by
  refine ⟨fun pins s σ H D I h => wpAny_Call_Name_kw (ld_glob I gl m ?_ db)⟩
  refine PySem.W.callWith_KW0 (h₀ := X.base) I.ok.mod.kin kp al (thn (kw.run pos pins s σ H _ I h) fun ws s2 ⟨zs, H2, I2, rz, l1, l2, q2⟩ => ⟨I2.kIn, ?_⟩) pl
  rw [ek]
  exact ran (ar := ⟨[], ks.zip ws⟩) G hr hx I2 (b.to s2 [] ws I2.kIn rfl (rz.length.symm.trans l2)) (b.rel .nil rz) q2
end
/-- a def by its body -/
theorem fn_ofG {Z : CXT} {P : Program} {w : World} {K : PySem.W.Frag} {mg : Str → Option Value} {base : Heap} {k : Nat} {f : Addr} {x qual : Str} {params : Arguments} {body : List Stmt} {scope : Scope} {dvs : List V} {kws : List (Str × V)} {fd : FuncData} {N ps : List Str} {sp : Sp} (F : FunD K x qual params body scope dvs kws f fd) (S : FnScope N ps scope)
    (ln : ∀ xs H D E, sp xs H D E → xs.length = ps.length)
    (bd : ∀ (cdv : Value) (A : Around) (o : List Env) (s : Shared) (H : Hp) (xs : List V) (D : VK) (E : XK), RoomG k (A.deeper (envOfC qual scope s.heap.objs.size f cdv)) → sp xs H D E →
      ∃ t, PSs (cxOf Z P w K mg base N qual scope f cdv A o s H E) body t ∧ t { nx := fun _ H' => D .non H', rt := D } (start N xs) H) : Pm P w K mg base Z (k + 1) f fd ps sp := by
  obtain ⟨oc, od, dV, kV, doc, pm, an, cdv, ct, osl, rfl, lk, hcd, _, _⟩ := F.ex
  refine ⟨ln, fun A o s H ar us xs D E hr e0 hb r hs => ?_⟩
  have KX : K.In s.heap := e0.mod.kin.keeps fun b u z => (e0.bs b u z).1
  have li : s.heap.NoLimit := e0.mod.nolimit.keeps fun b u z => (e0.bs b u z).1
  have hk : ∀ y ∈ ps.zip us, scope.names.lookup y.1 = some .local ∨ (scope.names.lookup y.1 = some .cell ∧ ((cellsFrom (s.heap.objs.size + 1) scope.names []).lookup y.1).isSome = true) := by
    rintro ⟨m, v⟩ hy
    have := S.par m (List.of_mem_zip hy).1
    exact this.imp id fun q => ⟨q, PySem.W.cellsFrom_some _ _ _ (.inl q)⟩
  refine codeAny_call_function hr.r.depth (KX _ _ lk) rfl S.co S.gen rfl (PySem.W.codeRec_of KX hcd) (hb _ _ _ _ (wpAny_newFunctionEnv_cells S.kind hk ?_))
  intro en he s1 y
  subst he
  refine ⟨li.keeps y.toInCall.keep, codeAny_func ?_⟩
  obtain ⟨t, ht, hq⟩ := bd cdv A o s H xs D E (hr.down _) hs
  have I0 := inv_start (CX := Z) (E := E) S hr.r.hd e0 (ln _ _ _ _ hs) r y
  refine wpAny_mono (ht.run [] s1 _ H _ I0 hq) (fun fl s' z => ?_) fun _ _ z => z
  cases fl with
  | brk => obtain ⟨_, _, _, q⟩ := z; exact q.elim
  | cont => obtain ⟨_, _, _, q⟩ := z; exact q.elim
  | next =>
    obtain ⟨τ, G, J, q⟩ := z
    exact ⟨.non, G, J.os, J.bare, J.base, J.hok, rfl, q⟩
  | ret u =>
    obtain ⟨v, τ, G, J, rv, q⟩ := z
    exact ⟨v, G, J.os, J.bare, J.base, J.hok, rv, q⟩
/-- a promise at the caller of the law: turned into the kit's own form for law_call -/
theorem law_callG {P : Program} {w : World} {K : PySem.W.Frag} {mg mb : Str → Option Value} {Z : CXT} {k : Nat} {fa a : Addr} {fd : FuncData} {x : Str} {sp : Sp} {s₁ : Shared} {vs : List Value} {ns : List Int}
    (KX : K.In s₁.heap) (n1 : s₁.heap.Ns mainGlobals mg) (n2 : s₁.heap.Ns builtinsNs mb) (n3 : ∀ y : Str, y ≠ "__name__" → mb y = bootBuiltins y) (n4 : s₁.heap.NoLimit) (n5 : s₁.gens = #[])
    (ha : s₁.heap.get? a = some { cls := .type "list", data := .seq vs.toArray }) (hi : IntsAre vs ns) (hl : ns.length ≤ sizeLine) (hr : RoomG k callerA)
    (F : ∀ base : Heap, K.In base → base.Ns mainGlobals mg → Pm P w K mg base Z k fa fd [x] sp) (bi : ∀ (s : Shared) (u : Value), BindsTo s fd ⟨[u], []⟩ [(x, u)])
    (hs : ∀ H : Hp, Only H → SqL K H a (ns.map V.int) → sp [.ref a] H (fun v _ => v = .bl true) fun _ _ _ => False) (hZ : ∀ H e s', Z [] H s₁ (fun _ _ _ => False) e s' → False) :
    codeAny (model P w) callerA (.call (.ref fa) ⟨[.ref a], []⟩) (fun r s' => r = .ok (.ret (.bool true)) ∧ OldK s₁.heap s'.heap ∧ s'.os = s₁.os ∧ AllBare s'.gens) s₁ := by
  have rv := vals_ints hi
  have lv := hi.length
  have core : ∀ H : Hp, Only H → SqL K H a (ns.map V.int) → HOk P w H s₁.heap → (∀ b, H b ≠ none → b = a ∧ K.lookup a = none) →
      codeAny (model P w) callerA (.call (.ref fa) ⟨[.ref a], []⟩) (fun r s' => r = .ok (.ret (.bool true)) ∧ OldK s₁.heap s'.heap ∧ s'.os = s₁.os ∧ AllBare s'.gens) s₁ := by
    intro H hO hS ok hA
    have n0 : ∀ {b : Addr} {o : Obj}, s₁.heap.get? b = some o → (b = a → K.lookup a = none → False) → H b = none := fun {b o} e h => by
      by_cases q : H b = none
      · exact q
      · exact absurd (hA b q).2 (h (hA b q).1)
    have nA : ∀ {b : Addr} {o : Obj} {es : Array DictEntry} {ep : Nat}, s₁.heap.get? b = some o → o.data = .dict es ep → H b = none := fun {b o es ep} e d => n0 e fun z _ => by
      subst z
      rw [ha] at e
      cases e
      exact nomatch d
    have nsK : ∀ {b : Addr} {m : Str → Option Value}, s₁.heap.Ns b m → (hidT s₁.heap H).Ns b m := by
      rintro b m ⟨o, es, ep, e, d, r⟩
      exact ⟨o, es, ep, hidT_get e (nA e d), d, r⟩
    have hKb : K.In (hidT s₁.heap H) := fun b o e => hidT_get (KX b o e) (n0 (KX b o e) fun z k0 => by subst z; rw [k0] at e; cases e)
    have hM : Mod K mg (hidT s₁.heap H) := by
      obtain ⟨mc, z1, z2⟩ := n4
      exact ⟨hKb, nsK n1, ⟨mb, nsK n2, n3⟩, ⟨mc, nsK z1, z2⟩⟩
    have e0 : Env0 P w K mg (hidT s₁.heap H) callerA [] s₁ H := ⟨rfl, hM, fun _ _ e => of_hidT e, by rw [hidT_size]; exact Nat.le_refl _, trivial, fun b z => (List.not_mem_nil z).elim, ok, AllBare.of_eq n5⟩
    refine codeAny_mono ((F _ hKb (nsK n1)).go callerA [] s₁ H ⟨[.ref a], []⟩ [.ref a] [.ref a] _ _ hr e0 (bi s₁ _) (.cons rfl .nil) (hs H hO hS)) fun r s' h => ?_
    rcases r with e | fl
    · exact (hZ H e s' h).elim
    · cases fl with
      | brk => exact h.elim
      | cont => exact h.elim
      | next => exact h.elim
      | ret u => ?_
      obtain ⟨v, H', os, bare, un, ok', r', q⟩ := h
      cases (show v = V.bl true from q)
      obtain rfl : u = Value.bool true := r'
      refine ⟨rfl, OldK.of_keep fun b o e => ?_, os, bare⟩
      rcases hO b with q | ⟨ob, xs, q⟩
      · exact un.keep b o e q (fun z => (List.not_mem_nil z).elim) (by simp)
      · have e1 := (ok b _ q).1
        rw [e] at e1
        cases e1
        exact (ok' b _ (un.frzs b _ _ q)).1
  cases hk : K.lookup a with
  | some o =>
    have e := KX a o hk
    rw [ha] at e
    cases e
    exact core (fun _ => none) (fun _ => .inl rfl) (.inr ⟨_, vs.toArray, _, hk, rfl, rfl, rfl, by rw [List.size_toArray, lv]; exact hl, by simpa using rv⟩) (fun b u z => nomatch (show (none : Option HO) = some u from z)) fun b z => absurd rfl z
  | none =>
    have yes : ∀ b u, (if b = a then some (HO.frz { cls := .type "list", data := .seq vs.toArray } (.lst (ns.map V.int))) else none) = some u → b = a ∧ HO.frz { cls := .type "list", data := .seq vs.toArray } (.lst (ns.map V.int)) = u := fun b u z => by
      split at z
      · exact ⟨by assumption, Option.some.inj z⟩
      · cases z
    refine core (fun b => if b = a then some (.frz { cls := .type "list", data := .seq vs.toArray } (.lst (ns.map V.int))) else none) (fun b => ?_) (.inl (.inr ⟨_, if_pos rfl⟩)) (fun b u z => ?_) (fun b z => ?_)
    · by_cases q : b = a
      · exact .inr ⟨_, _, if_pos q⟩
      · exact .inl (if_neg q)
    · obtain ⟨rfl, rfl⟩ := yes b u z
      exact ⟨ha, by rw [List.length_map]; exact hl, vs, _, rv, ha⟩
    · obtain ⟨u, z⟩ := Option.ne_none_iff_exists'.mp z
      exact ⟨(yes b u z).1, hk⟩
end Ar

set_option Elab.async false
set_option linter.all false
set_option maxRecDepth 100000
set_option maxHeartbeats 2000000
/-! Ar6: what is walked; for, while; comprehensions; calls of defs -/
namespace Ar
open PySem PySem.Spec PyProof.Rows L2

/-! ### what is walked -/
def seqI (d : D) (μ : Mu) : R (List D) := match d with
  | .tup ds => .ok ds μ
  | .lst ds => .ok ds μ
  | .scr ds => .ok ds μ
  | .str z => .ok (z.cps.toList.map fun c => .str ⟨#[c]⟩) μ
  | .loc n => match μ[n]? with
    | some (.lst ds) => .ok ds (μ.set n (.frz ds))
    | some (.frz ds) => .ok ds μ
    | _ => .stk
  | _ => .stk
def diSeq (e : DE) : DA := fun Γ μ => (e Γ μ).bind seqI
def rngD (lo : Int) (n : Nat) : List D := (List.range n).map fun (i : Nat) => .int (lo + i)
def diRange1 (a : DA) : DA := fun Γ μ => (a Γ μ).bind fun ds μ1 => match ds with
  | [.int j] => if j.natAbs < 2 ^ 61 then .ok (rngD 0 j.toNat) μ1 else .stk
  | _ => .stk
def diRange2 (a : DA) : DA := fun Γ μ => (a Γ μ).bind fun ds μ1 => match ds with
  | [.int i, .int j] => if i.natAbs < 2 ^ 61 ∧ j.natAbs < 2 ^ 61 then .ok (rngD i (j - i).toNat) μ1 else .stk
  | _ => .stk
section
variable {X : Cx} {E : XK} {K : PySem.W.Frag} {e tg : Expr} {de : DE} {pos : Pos}
theorem PI.or {iter : Expr} {w1 w2 : TI} (h1 : PI X tg iter w1) (h2 : PI X tg iter w2) : PI X tg iter (fun σ H Rr => w1 σ H Rr ∨ w2 σ H Rr) := ⟨fun pins s σ H Rr I h => h.elim (h1.run pins s σ H Rr I) (h2.run pins s σ H Rr I)⟩
theorem itok_list {ρ : List Addr} {F : Hp} {a : Addr} {vs : List V} {ds : List D} (h : SqL K F a vs) (r : DnAll K ρ F vs ds) (inj : ∀ {F' H : Hp} {xs : List V}, Sub F F' → Sub F' H → SqL K H a xs → xs = vs) : ItOk K ρ F (Itl K a) ds where
  go := fun i H s hi => by
    have hl := r.length
    exact ⟨vs, vs[i]'(by omega), s.sqL h, List.getElem?_eq_getElem _⟩
  stop := fun i H s hi0 => have hi := Nat.le_of_eq hi0.symm; ⟨vs, s.sqL h, by rw [r.length]; exact hi⟩
  yld := fun i ρ' F' H μ' x H' s p k y hi => by
    obtain ⟨e1, y⟩ := y
    subst e1
    have q := y vs (k.ex.sqL (s.sqL h))
    obtain ⟨d, hd, rd⟩ := r.getV q
    exact ⟨d, F', hd, Nx.refl, k, rd.mono p s⟩
theorem itok_list' {ρ : List Addr} {F : Hp} {a : Addr} {vs : List V} {ds : List D} (h : SqL K F a vs) (r : DnAll K ρ F vs ds) : ItOk K ρ F (Itl K a) ds where
  go := fun i H s hi => by
    have hl := r.length
    exact ⟨vs, vs[i]'(by omega), s.sqL h, List.getElem?_eq_getElem _⟩
  stop := fun i H s hi0 => have hi := Nat.le_of_eq hi0.symm; ⟨vs, s.sqL h, by rw [r.length]; exact hi⟩
  yld := fun i ρ' F' H μ' x H' s p k y hi => by
    obtain ⟨e1, y⟩ := y
    subst e1
    have q := y vs (k.ex.sqL (s.sqL h))
    obtain ⟨d, hd, rd⟩ := r.getV q
    exact ⟨d, F', hd, Nx.refl, k, rd.mono p s⟩
theorem itok_tup {ρ : List Addr} {F : Hp} {a : Addr} {vs : List V} {ds : List D} (h : SqT K F a vs) (r : DnAll K ρ F vs ds) : ItOk K ρ F (Itt K a) ds where
  go := fun i H s hi => by
    have hl := r.length
    exact ⟨vs, vs[i]'(by omega), s.sqT h, List.getElem?_eq_getElem _⟩
  stop := fun i H s hi0 => have hi := Nat.le_of_eq hi0.symm; ⟨vs, s.sqT h, by rw [r.length]; exact hi⟩
  yld := fun i ρ' F' H μ' x H' s p k y hi => by
    obtain ⟨e1, y⟩ := y
    subst e1
    have q := y vs (k.ex.sqT (s.sqT h))
    obtain ⟨d, hd, rd⟩ := r.getV q
    exact ⟨d, F', hd, Nx.refl, k, rd.mono p s⟩
theorem rngD_len (lo : Int) (n : Nat) : (rngD lo n).length = n := by simp [rngD]
theorem itok_rng {ρ : List Addr} {F : Hp} (lo : Int) (n : Nat) : ItOk K ρ F (Itr lo n) (rngD lo n) where
  go := fun i H s hi => by rw [rngD_len] at hi; exact hi
  stop := fun i H s hi0 => by have hi := Nat.le_of_eq hi0.symm; rw [rngD_len] at hi; exact hi
  yld := fun i ρ' F' H μ' x H' s p k y hi => by
    obtain ⟨e1, e2⟩ := y
    subst e1
    subst e2
    rw [rngD_len] at hi
    exact ⟨.int (lo + i), F', by simp [rngD, hi], Nx.refl, k, .int _⟩
theorem itok_str {ρ : List Addr} {F : Hp} (x : Str) : ItOk K ρ F (Its x) (x.cps.toList.map fun c => .str ⟨#[c]⟩) where
  go := fun i H s hi => by show i < x.cps.size; simpa using hi
  stop := fun i H s hi0 => by have hi := Nat.le_of_eq hi0.symm; show x.cps.size ≤ i; simpa using hi
  yld := fun i ρ' F' H μ' v H' s p k y hi => by
    obtain ⟨e1, c, ec, ev⟩ := y
    subst e1
    subst ev
    refine ⟨.str ⟨#[c]⟩, F', ?_, Nx.refl, k, .str _⟩
    rw [List.getElem?_map, Array.getElem?_toList, ec]
    rfl
theorem qi_seq (he : QE X E e de) : QI X E tg e (diSeq de) := by
  obtain ⟨te, a1, a2⟩ := he.ex
  refine ⟨_, PI.or (pi_str a1) (PI.or (pi_list a1) (pi_tup a1)), ?_⟩
  intro ρ F H Γ μ σ k s Rr h
  unfold diSeq at h
  cases hr : de Γ μ with
  | stk => rw [hr] at h; exact False.elim h
  | exc x μ1 =>
    rw [hr] at h
    refine .inr (.inl (a2 ρ F H Γ μ σ k s _ ?_))
    rw [hr]
    exact h
  | ok d μ1 =>
    rw [hr] at h
    have h : WpR (seqI d μ1) _ _ := h
    cases d with
    | tup ds =>
      refine .inr (.inr (a2 ρ F H Γ μ σ k s _ ?_))
      rw [hr]
      intro ρ1 F1 H1 v n1 k1 r1
      cases r1 with
      | tup h1 h2 => exact ⟨_, rfl, ⟨_, k1.ex.sqT h1⟩, h ρ1 F1 H1 _ n1 k1 (itok_tup h1 h2)⟩
    | lst ds =>
      refine .inr (.inl (a2 ρ F H Γ μ σ k s _ ?_))
      rw [hr]
      intro ρ1 F1 H1 v n1 k1 r1
      cases r1 with
      | lst h1 h2 => exact ⟨_, rfl, ⟨_, SqL.of (k1.ex _ _ h1)⟩, h ρ1 F1 H1 _ n1 k1 (itok_list' (SqL.of h1) h2)⟩
    | scr ds =>
      refine .inr (.inl (a2 ρ F H Γ μ σ k s _ ?_))
      rw [hr]
      intro ρ1 F1 H1 v n1 k1 r1
      cases r1 with
      | scr h1 h2 => exact ⟨_, rfl, ⟨_, k1.ex.sqL h1⟩, h ρ1 F1 H1 _ n1 k1 (itok_list' h1 h2)⟩
    | loc n =>
      refine .inr (.inl (a2 ρ F H Γ μ σ k s _ ?_))
      rw [hr]
      intro ρ1 F1 H1 v n1 k1 r1
      cases r1 with
      | @loc a _ e1 =>
        unfold seqI at h
        simp only at h
        split at h
        · rename_i ds em
          obtain ⟨hf, vs, ev, rv⟩ := k1.mu n a _ e1 em
          obtain ⟨k2, n2⟩ := k1.freeze e1 hf ev rv
          exact ⟨a, rfl, ⟨vs, SqL.of ev⟩, h ρ1 _ H1 _ (n1.trans n2) k2 (itok_list' (SqL.of upd_same) (rv.nx n2))⟩
        · rename_i ds em
          obtain ⟨vs, ev, rv⟩ := k1.mu n a _ e1 em
          exact ⟨a, rfl, ⟨vs, SqL.of (k1.ex _ _ ev)⟩, h ρ1 F1 H1 _ n1 k1 (itok_list' (SqL.of ev) rv)⟩
        · exact False.elim h
    | non => exact False.elim h
    | bl _ => exact False.elim h
    | int _ => exact False.elim h
    | str z =>
      refine .inl (a2 ρ F H Γ μ σ k s _ ?_)
      rw [hr]
      intro ρ1 F1 H1 v n1 k1 r1
      cases r1
      exact ⟨z, rfl, h ρ1 F1 H1 _ n1 k1 (itok_str z)⟩
    | ins _ _ => exact False.elim h
    | slt _ _ => exact False.elim h
    | dK _ => exact False.elim h
    | glo _ => exact False.elim h
    | ty _ => exact False.elim h
    | adr => exact False.elim h
    | clo => exact False.elim h
    | exn => exact False.elim h
theorem qi_range1 {a : Expr} {da : DA} {p : Pos} (hm : X.mg "range" = none) (ha : QA X E [a] da) (hg : Gl X "range" := by rfl) (hs : starEach [a] X.env = [(false, eval a X.env)] := by rfl) : QI X E tg (.Call (.Name "range" p) [a] [] pos) (diRange1 da) := by
  obtain ⟨ta, a1, a2⟩ := ha.ex
  refine ⟨_, pi_range1 hg hm a1 hs, ?_⟩
  intro ρ F H Γ μ σ k s Rr h
  refine a2 ρ F H Γ μ σ k s _ ((WpR.bind h).mono (fun ds μ1 q => ?_) fun _ _ q => q)
  intro ρ1 F1 H1 vs n1 k1 r1
  split at q
  · split at q
    · rename_i j hj
      cases r1 with
      | cons r1 r2 =>
        cases r1
        cases r2
        exact ⟨j, rfl, by omega, by omega, q ρ1 F1 H1 _ n1 k1 (itok_rng 0 j.toNat)⟩
    · exact False.elim q
  · exact False.elim q
theorem qi_range2 {a b : Expr} {da : DA} {p : Pos} (hm : X.mg "range" = none) (ha : QA X E [a, b] da) (hg : Gl X "range" := by rfl) (hs : starEach [a, b] X.env = [(false, eval a X.env), (false, eval b X.env)] := by rfl) (hs2 : starEach [b] X.env = [(false, eval b X.env)] := by rfl) : QI X E tg (.Call (.Name "range" p) [a, b] [] pos) (diRange2 da) := by
  obtain ⟨ta, a1, a2⟩ := ha.ex
  refine ⟨_, pi_range2 hg hm a1 hs hs2, ?_⟩
  intro ρ F H Γ μ σ k s Rr h
  refine a2 ρ F H Γ μ σ k s _ ((WpR.bind h).mono (fun ds μ1 q => ?_) fun _ _ q => q)
  intro ρ1 F1 H1 vs n1 k1 r1
  split at q
  · split at q
    · rename_i i j hj
      cases r1 with
      | cons r1 r2 =>
        cases r2 with
        | cons r2 r3 =>
          cases r1; cases r2; cases r3
          exact ⟨i, j, rfl, by omega, q ρ1 F1 H1 _ n1 k1 (itok_rng i (j - i).toNat)⟩
    · exact False.elim q
  · exact False.elim q

/-! ### for -/
def forL (g : DG) (b : DS) : List D → Gam → Mu → RS
  | [], Γ, μ => .nx Γ μ
  | d :: ds, Γ, μ => (g d Γ μ).thenS fun Γ1 μ1 => match b Γ1 μ1 with
    | .nx Γ2 μ2 => forL g b ds Γ2 μ2
    | .ct Γ2 μ2 => forL g b ds Γ2 μ2
    | .bk Γ2 μ2 => .nx Γ2 μ2
    | .rt d μ2 => .rt d μ2
    | .exc e μ2 => .exc e μ2
    | .stk => .stk
def dFor (i : DA) (g : DG) (b : DS) : DS := fun Γ μ => (i Γ μ).thenS fun ds μ1 => forL g b ds Γ μ1
theorem sim_for {wi : TI} {g : TG} {tb : TS} {di : DA} {dg : DG} {db : DS} (hi : SimI K E wi di) (hg : SimG K E g dg) (hb : SimS K E tb db) : SimS K E (tFor wi g tb) (dFor di dg db) := by
  intro ρ F H Γ μ σ k s D h
  refine hi ρ F H Γ μ σ k s _ ((WpS.thenS h).mono (fun ds μ1 q => ?_) fun _ _ q => q)
  intro ρ1 F1 H1 J n1 k1 it
  refine ⟨fun i m σ' H' => m = ds.length - i ∧ i ≤ ds.length ∧ ∃ ρ' F' Γ' μ', HpOk K ρ' μ' F' H' ∧ Slots K ρ' F' Γ' σ' ∧ Nx ρ F H ρ' F' H' ∧ Sub F1 F' ∧ (∀ (n : Nat) a, ρ1[n]? = some a → ρ'[n]? = some a) ∧ WpS (forL dg db (ds.drop i) Γ' μ') (QS K E ρ F H D),
    ⟨ds.length, rfl, Nat.zero_le _, ρ1, F1, Γ, μ1, k1, s.nx n1, n1, Sub.refl _, fun _ _ h => h, by rw [List.drop_zero]; exact q⟩, ?_⟩
  rintro i m σ' H' ⟨rfl, hi, ρ', F', Γ', μ', k', s', n', sub, pre, q'⟩
  by_cases hlt : i < ds.length
  · refine .inr ⟨it.go i H' (sub.trans k'.ex) hlt, fun σ2 H2 => ∃ ρ' F' Γ' μ', HpOk K ρ' μ' F' H2 ∧ Slots K ρ' F' Γ' σ2 ∧ Nx ρ F H ρ' F' H2 ∧ Sub F1 F' ∧ (∀ (n : Nat) a, ρ1[n]? = some a → ρ'[n]? = some a) ∧ WpS (forL dg db (ds.drop (i + 1)) Γ' μ') (QS K E ρ F H D),
      fun σ2 H2 hN => ⟨ds.length - (i + 1), by omega, rfl, hlt, hN⟩, fun x H2 y => ?_⟩
    obtain ⟨d, F2, hd, n2, k2, r2⟩ := it.yld i ρ' F' H' μ' x H2 sub pre k' y hlt
    have e1 : ds.drop i = d :: ds.drop (i + 1) := by
      rw [List.drop_eq_getElem_cons hlt]
      congr 1
      exact Option.some.inj ((List.getElem?_eq_getElem hlt).symm.trans hd)
    rw [e1] at q'
    refine hg ρ' F2 H2 Γ' μ' σ' x d k2 (s'.nx n2) r2 _ ((WpS.thenS q').mono (fun Γ3 μ3 q3 => ?_) fun _ _ q => XP.nx (n'.trans n2) q)
    intro ρ3 F3 H3 σ3 n3 k3 s3
    have nn := (n'.trans n2).trans n3
    have sub3 : Sub F1 F3 := (sub.trans n2.ex).trans n3.ex
    have pre3 : ∀ (n : Nat) a, ρ1[n]? = some a → ρ3[n]? = some a := fun n a h => n3.pre _ _ (n2.pre _ _ (pre n a h))
    refine hb ρ3 F3 H3 Γ3 μ3 σ3 k3 s3 _ ?_
    cases hb3 : db Γ3 μ3 with
    | nx Γ4 μ4 =>
      rw [hb3] at q3
      exact fun ρ4 F4 H4 σ4 n4 k4 s4 => ⟨ρ4, F4, Γ4, μ4, k4, s4, nn.trans n4, sub3.trans n4.ex, fun n a h => n4.pre _ _ (pre3 n a h), q3⟩
    | ct Γ4 μ4 =>
      rw [hb3] at q3
      exact fun ρ4 F4 H4 σ4 n4 k4 s4 => ⟨ρ4, F4, Γ4, μ4, k4, s4, nn.trans n4, sub3.trans n4.ex, fun n a h => n4.pre _ _ (pre3 n a h), q3⟩
    | bk Γ4 μ4 =>
      rw [hb3] at q3
      exact fun ρ4 F4 H4 σ4 n4 k4 s4 => q3 ρ4 F4 H4 σ4 (nn.trans n4) k4 s4
    | rt d μ4 =>
      rw [hb3] at q3
      exact fun ρ4 F4 H4 v n4 k4 r4 => q3 ρ4 F4 H4 v (nn.trans n4) k4 r4
    | exc e μ4 =>
      rw [hb3] at q3
      exact XP.nx nn q3
    | stk => rw [hb3] at q3; exact False.elim q3
  · have e : i = ds.length := by omega
    subst e
    rw [List.drop_length] at q'
    exact .inl ⟨it.stop _ H' (sub.trans k'.ex) rfl, q' ρ' F' H' σ' n' k' s'⟩
theorem q_for {iter : Expr} {body : List Stmt} {di : DA} {dg : DG} {db : DS} (hp : PassesOwn (model X.prog X.w) X.A X.env X.xe) (hc : X.calm = true) (hi : QI X E tg iter di) (hg : QG X E tg dg) (hb : QSs X E body db)
    (hs : ∀ x, foldedSetIterable iter X.env x = pure x := by intro _; rfl) : QSt X E (.For tg iter body [] pos) (dFor di dg db) := by
  obtain ⟨wi, i1, i2⟩ := hi.ex
  obtain ⟨g, g1, g2⟩ := hg.ex
  obtain ⟨b, b1, b2⟩ := hb.ex
  exact ⟨_, ps_for hp hc i1 g1 b1 hs, sim_for i2 g2 b2⟩

/-! ### while: some number of turns is enough -/
def whileN (c : DT) (b : DS) : Nat → Gam → Mu → RS
  | 0, _, _ => .stk
  | n + 1, Γ, μ => (c Γ μ).thenS fun t μ1 => match t with
    | false => .nx Γ μ1
    | true => match b Γ μ1 with
      | .nx Γ2 μ2 => whileN c b n Γ2 μ2
      | .ct Γ2 μ2 => whileN c b n Γ2 μ2
      | .bk Γ2 μ2 => .nx Γ2 μ2
      | .rt d μ2 => .rt d μ2
      | .exc e μ2 => .exc e μ2
      | .stk => .stk
open Classical in
noncomputable def dWhile (c : DT) (b : DS) : DS := fun Γ μ => if h : ∃ n, whileN c b n Γ μ ≠ .stk then whileN c b h.choose Γ μ else .stk
theorem whileN_more (c : DT) (b : DS) : ∀ (n m : Nat) (Γ : Gam) (μ : Mu), n ≤ m → whileN c b n Γ μ ≠ .stk → whileN c b m Γ μ = whileN c b n Γ μ := by
  intro n
  induction n with
  | zero => intro m Γ μ _ h; exact absurd rfl h
  | succ n ih =>
    intro m Γ μ hm h
    cases m with
    | zero => omega
    | succ m =>
      unfold whileN at h ⊢
      cases hc : c Γ μ with
      | stk => rfl
      | exc e μ1 => rfl
      | ok t μ1 =>
        rw [hc] at h
        cases t with
        | false => rfl
        | true =>
          cases hb : b Γ μ1 with
          | nx Γ2 μ2 =>
            simp only [R.thenS, hb] at h ⊢
            exact ih m Γ2 μ2 (by omega) h
          | ct Γ2 μ2 =>
            simp only [R.thenS, hb] at h ⊢
            exact ih m Γ2 μ2 (by omega) h
          | bk Γ2 μ2 => simp only [R.thenS, hb]
          | rt d μ2 => simp only [R.thenS, hb]
          | exc e μ2 => simp only [R.thenS, hb]
          | stk => simp only [R.thenS, hb]
theorem dWhile_eq {c : DT} {b : DS} {n : Nat} {Γ : Gam} {μ : Mu} (h : whileN c b n Γ μ ≠ .stk) : dWhile c b Γ μ = whileN c b n Γ μ := by
  have hx : ∃ n, whileN c b n Γ μ ≠ .stk := ⟨n, h⟩
  unfold dWhile
  rw [dif_pos hx]
  have h2 := hx.choose_spec
  rcases Nat.le_total n hx.choose with hle | hle
  · exact whileN_more c b _ _ Γ μ hle h
  · exact (whileN_more c b _ _ Γ μ hle h2).symm
theorem sim_while {tc : TT} {tb : TS} {dc : DT} {db : DS} (hc : SimT K E tc dc) (hb : SimS K E tb db) : SimS K E (tWhile tc tb) (dWhile dc db) := by
  intro ρ F H Γ μ σ k s D h
  have hx : ∃ n, whileN dc db n Γ μ ≠ .stk := by
    by_cases hx : ∃ n, whileN dc db n Γ μ ≠ .stk
    · exact hx
    · unfold dWhile at h
      rw [dif_neg hx] at h
      exact False.elim h
  obtain ⟨N, hN⟩ := hx
  rw [dWhile_eq hN] at h
  refine ⟨fun m σ' H' => ∃ ρ' F' Γ' μ', HpOk K ρ' μ' F' H' ∧ Slots K ρ' F' Γ' σ' ∧ Nx ρ F H ρ' F' H' ∧ WpS (whileN dc db m Γ' μ') (QS K E ρ F H D), ⟨N, ρ, F, Γ, μ, k, s, Nx.refl, h⟩, ?_⟩
  rintro m σ' H' ⟨ρ', F', Γ', μ', k', s', n', q'⟩
  cases m with
  | zero => exact False.elim q'
  | succ m =>
    unfold whileN at q'
    refine hc ρ' F' H' Γ' μ' σ' k' s' _ ((WpS.thenS q').mono (fun t μ1 q => ?_) fun _ _ q => XP.nx n' q)
    intro ρ1 F1 H1 n1 k1
    cases t with
    | false =>
      show D.nx σ' H1
      exact q ρ1 F1 H1 σ' (n'.trans n1) k1 (s'.nx n1)
    | true =>
      show ∃ N : L2.St → Hp → Prop, _
      refine ⟨fun σ2 H2 => ∃ ρ' F' Γ' μ', HpOk K ρ' μ' F' H2 ∧ Slots K ρ' F' Γ' σ2 ∧ Nx ρ F H ρ' F' H2 ∧ WpS (whileN dc db m Γ' μ') (QS K E ρ F H D), fun σ2 H2 hN => ⟨m, Nat.lt_succ_self m, hN⟩, ?_⟩
      have nn := n'.trans n1
      refine hb ρ1 F1 H1 Γ' μ1 σ' k1 (s'.nx n1) _ ?_
      cases hb3 : db Γ' μ1 with
      | nx Γ4 μ4 =>
        rw [hb3] at q
        exact fun ρ4 F4 H4 σ4 n4 k4 s4 => ⟨ρ4, F4, Γ4, μ4, k4, s4, nn.trans n4, q⟩
      | ct Γ4 μ4 =>
        rw [hb3] at q
        exact fun ρ4 F4 H4 σ4 n4 k4 s4 => ⟨ρ4, F4, Γ4, μ4, k4, s4, nn.trans n4, q⟩
      | bk Γ4 μ4 =>
        rw [hb3] at q
        exact fun ρ4 F4 H4 σ4 n4 k4 s4 => q ρ4 F4 H4 σ4 (nn.trans n4) k4 s4
      | rt d μ4 =>
        rw [hb3] at q
        exact fun ρ4 F4 H4 v n4 k4 r4 => q ρ4 F4 H4 v (nn.trans n4) k4 r4
      | exc e μ4 =>
        rw [hb3] at q
        exact XP.nx nn q
      | stk => rw [hb3] at q; exact False.elim q
theorem q_while {c : Expr} {body : List Stmt} {dc : DT} {db : DS} (hp : PassesOwn (model X.prog X.w) X.A X.env X.xe) (hc : QT X E c dc) (hb : QSs X E body db) : QSt X E (.While c body [] pos) (dWhile dc db) := by
  obtain ⟨wi, i1, i2⟩ := hc.ex
  obtain ⟨b, b1, b2⟩ := hb.ex
  exact ⟨_, ps_while hp i1 b1, sim_while i2 b2⟩

/-! ### calls of defs -/
abbrev Fn := List D → Mu → R D
def spM (K : PySem.W.Frag) (m : Fn) : Sp := fun vs H Q E => ∃ ρ F μ ds, HpOk K ρ μ F H ∧ DnAll K ρ F vs ds ∧ WpR (m ds μ) (QV K ρ F H Q) (XP K E ρ F H)
def dCall (m : Fn) (a : DA) : DE := fun Γ μ => (a Γ μ).bind m
theorem sim_call {m : Fn} {ta : TA} {da : DA} (ha : SimA K E ta da) : SimE K E (tCall (spM K m) [] E ta) (dCall m da) := by
  intro ρ F H Γ μ σ k s Q h
  refine ha ρ F H Γ μ σ k s _ ((WpR.bind h).mono (fun ds μ1 q => ?_) fun _ _ q => q)
  intro ρ1 F1 H1 vs n1 k1 r1
  rw [List.append_nil]
  exact ⟨ρ1, F1, μ1, ds, k1, r1, q.mono (fun d μ2 q => QV.nx n1 q) fun _ _ q => XP.nx n1 q⟩
/-- the def x of the module does what m says, by at most level k -/
structure FnG (P : Program) (w : World) (K : PySem.W.Frag) (mg : Str → Option Value) (base : Heap) (x : Str) (k : Nat) (m : Fn) : Prop where
  ex : ∃ f fd ps, mg x = some (.ref f) ∧ PySem.W.keepIn K (.ref f) = true ∧ Binds K fd ps [] ∧ Pm P w K mg base (L2.CX P w) k f fd ps (spM K m)
theorem FnG.mono {P : Program} {w : World} {mg : Str → Option Value} {base : Heap} {x : Str} {j k : Nat} {m : Fn} (G : FnG P w K mg base x j m) (h : j ≤ k) : FnG P w K mg base x k m := by
  obtain ⟨f, fd, ps, h1, h2, h3, h4⟩ := G.ex
  exact ⟨f, fd, ps, h1, h2, h3, h4.mono h⟩
theorem q_call {x : Str} {es : List Expr} {p : Pos} {j : Nat} {m : Fn} {da : DA} (G : FnG X.prog X.w X.K X.mg X.base x j m) (hr : RoomG j X.A) (hp : Passes (L2.CX X.prog X.w) X E) (ha : QA X E (e :: es) da) (hg : Gl X x := by rfl)
    (hdb : (x == ("__debug__" : Str)) = false := by decide) (he : starEach (e :: es) X.env = (false, eval e X.env) :: starEach es X.env := by rfl) (hpl : (backTo pos (starEach es X.env)).any (·.1) = false := by rfl) :
    QE X E (.Call (.Name x p) (e :: es) [] pos) (dCall m da) := by
  obtain ⟨f, fd, ps, h1, h2, h3, h4⟩ := G.ex
  obtain ⟨ta, a1, a2⟩ := ha.ex
  exact ⟨_, pe_callG h4 hr hg h1 h2 h3 .nil hp a1 hdb he hpl, sim_call a2⟩
theorem q_call0 {x : Str} {p : Pos} {j : Nat} {m : Fn} (G : FnG X.prog X.w X.K X.mg X.base x j m) (hr : RoomG j X.A) (hp : Passes (L2.CX X.prog X.w) X E) (hg : Gl X x := by rfl) (hdb : (x == ("__debug__" : Str)) = false := by decide) :
    QE X E (.Call (.Name x p) [] [] pos) (dCall m daNil) := by
  obtain ⟨f, fd, ps, h1, h2, h3, h4⟩ := G.ex
  exact ⟨_, pe_callG0 h4 hr hg h1 h2 h3 .nil hp hdb, sim_call sim_nil⟩
/-- a def from its body: N names in all, the first n are the parameters -/
def RS.fin : RS → R D
  | .nx _ μ => .ok .non μ
  | .rt d μ => .ok d μ
  | .exc e μ => .exc e μ
  | _ => .stk
def dDef (n N : Nat) (b : DS) : Fn := fun ds μ => if ds.length = n then (b (ds.map some ++ List.replicate (N - ds.length) none) μ).fin else .stk
theorem slots_start {ρ : List Addr} {F : Hp} {N : List Str} {vs : List V} {ds : List D} (h : DnAll K ρ F vs ds) : Slots K ρ F (ds.map some ++ List.replicate (N.length - ds.length) none) (L2.start N vs) := by
  unfold L2.start
  refine ⟨by simp [h.length], fun i d e => ?_⟩
  by_cases hi : i < ds.length
  · rw [List.getElem?_append_left (by simpa using hi)] at e
    rw [List.getElem?_append_left (by simp [h.length]; exact hi)]
    rw [List.getElem?_map] at e ⊢
    cases e2 : ds[i]? with
    | none => rw [e2] at e; cases e
    | some d' =>
      rw [e2] at e
      cases e
      obtain ⟨v, hv, r⟩ := h.get e2
      exact ⟨v, by rw [hv]; rfl, r⟩
  · rw [List.getElem?_append_right (by simpa using hi)] at e
    rw [List.getElem?_replicate] at e
    split at e <;> cases e
theorem fn_ok {P : Program} {w : World} {mg : Str → Option Value} {base : Heap} {x qual : Str} {params : Arguments} {body : List Stmt} {scope : Scope} {f : Addr} {fd : FuncData} {N ps : List Str} {k n nn : Nat} {db : DS} (F : FunD K x qual params body scope [] [] f fd) (S : FnScope N ps scope)
    (hn : ps.length = n) (hN : N.length = nn)
    (hb : ∀ (cdv : Value) (A : Around) (outer : List Env) (s : Shared) (H : Hp) (E : XK), RoomG k (A.deeper (envOfC qual scope s.heap.objs.size f cdv)) → QSs (cxOf (L2.CX P w) P w K mg base N qual scope f cdv A outer s H E) E body db) :
    Pm P w K mg base (L2.CX P w) (k + 1) f fd ps (spM K (dDef n nn db)) := by
  refine fn_ofG F S (fun vs H Q E h => ?_) (fun cdv A outer s H vs Q E hr h => ?_)
  · obtain ⟨ρ, F0, μ, ds, k0, r0, h⟩ := h
    unfold dDef at h
    split at h
    · rename_i hl
      rw [r0.length, hl, hn]
    · exact False.elim h
  · obtain ⟨ρ, F0, μ, ds, k0, r0, h⟩ := h
    obtain ⟨t, t1, t2⟩ := (hb cdv A outer s H E hr).ex
    refine ⟨t, t1, ?_⟩
    unfold dDef at h
    split at h
    · refine t2 ρ F0 H _ μ _ k0 (slots_start r0) _ ?_
      subst hN
      cases hres : db (ds.map some ++ List.replicate (N.length - ds.length) none) μ with
      | nx Γ μ1 => rw [hres] at h; exact fun ρ1 F1 H1 σ1 n1 k1 s1 => h ρ1 F1 H1 .non n1 k1 .non
      | rt d μ1 => rw [hres] at h; exact h
      | bk Γ μ1 => rw [hres] at h; exact False.elim h
      | ct Γ μ1 => rw [hres] at h; exact False.elim h
      | exc e μ1 => rw [hres] at h; exact h
      | stk => rw [hres] at h; exact False.elim h
    · exact False.elim h
end
end Ar

set_option Elab.async false
set_option linter.all false
set_option maxRecDepth 100000
set_option maxHeartbeats 2000000
/-! Ar7: comprehensions -/
namespace Ar
open PySem PySem.Spec PyProof.Rows L2

/-! ### the canonical readings -/
def tE (K : PySem.W.Frag) (E : XK) (de : DE) : TE := fun σ H Q => ∃ ρ F Γ μ, HpOk K ρ μ F H ∧ Slots K ρ F Γ σ ∧ WpR (de Γ μ) (QV K ρ F H Q) (XP K E ρ F H)
def tT (K : PySem.W.Frag) (E : XK) (dt : DT) : TT := fun σ H Q => ∃ ρ F Γ μ, HpOk K ρ μ F H ∧ Slots K ρ F Γ σ ∧ WpR (dt Γ μ) (fun b μ' => ∀ ρ' F' H', Nx ρ F H ρ' F' H' → HpOk K ρ' μ' F' H' → Q b H') (XP K E ρ F H)
theorem QE.pe {X : Cx} {E : XK} {e : Expr} {de : DE} (h : QE X E e de) : PE X e (tE X.K E de) := by
  obtain ⟨te, h1, h2⟩ := h.ex
  exact ⟨fun pins s σ H Q I ⟨ρ, F, Γ, μ, k, sl, q⟩ => h1.run pins s σ H Q I (h2 ρ F H Γ μ σ k sl Q q)⟩
theorem QT.pt {X : Cx} {E : XK} {e : Expr} {dt : DT} (h : QT X E e dt) : PT X e (tT X.K E dt) := by
  obtain ⟨te, h1, h2⟩ := h.ex
  exact ⟨fun pins s σ H Q I ⟨ρ, F, Γ, μ, k, sl, q⟩ => h1.run pins s σ H Q I (h2 ρ F H Γ μ σ k sl Q q)⟩
theorem sim_tE {K : PySem.W.Frag} {E : XK} {de : DE} : SimE K E (tE K E de) de := fun ρ F H Γ μ σ k sl Q q => ⟨ρ, F, Γ, μ, k, sl, q⟩
theorem sim_tT {K : PySem.W.Frag} {E : XK} {dt : DT} : SimT K E (tT K E dt) dt := fun ρ F H Γ μ σ k sl Q q => ⟨ρ, F, Γ, μ, k, sl, q⟩
/-- the ifs of a comprehension -/
structure QTs (X : Cx) (E : XK) (es : List Expr) (dt : DT) : Prop where
  run : PTs X es (tT X.K E dt)
def dYes : DT := fun _ μ => .ok true μ
theorem qts_nil {X : Cx} {E : XK} : QTs X E [] dYes := ⟨⟨fun pins s σ H Q I ⟨ρ, F, Γ, μ, k, sl, q⟩ => pts_nil.run pins s σ H Q I (q ρ F H Nx.refl k)⟩⟩
theorem qts_one {X : Cx} {E : XK} {c : Expr} {dt : DT} (h : QT X E c dt) : QTs X E [c] dt := ⟨pts_one h.pt⟩

/-! ### targets of a comprehension -/
def wipeG (Γ : Gam) : List Nat → Gam
  | [] => Γ
  | v :: vs => (wipeG Γ vs).set v none
theorem slots_wipe {K : PySem.W.Frag} {ρ : List Addr} {F : Hp} {Γ : Gam} {σ : L2.St} (h : Slots K ρ F Γ σ) : ∀ vs : List Nat, Slots K ρ F (wipeG Γ vs) (wipe σ vs)
  | [] => h
  | v :: vs => (slots_wipe h vs).unset none v
/-- wipe is blind to what g stores -/
def Blind (g : TG) (vs : List Nat) : Prop := ∀ (v : V) (σ : L2.St) (H : Hp) (Q : L2.St → Hp → Prop), g v σ H Q → g v σ H fun σ' H' => wipe σ' vs = wipe σ vs ∧ Q σ' H'
theorem wipe_set {σ : L2.St} {i : Nat} {o : Option V} : ∀ {vs : List Nat}, i ∈ vs → wipe (σ.set i o) vs = wipe σ vs
  | v :: vs, h => by
    unfold wipe
    by_cases hv : v = i
    · subst hv
      by_cases hm : v ∈ vs
      · rw [wipe_set hm]
      · have comm : ∀ (ws : List Nat), v ∉ ws → wipe (σ.set v o) ws = (wipe σ ws).set v o := by
          intro ws
          induction ws with
          | nil => intro _; rfl
          | cons w ws ih =>
            intro hw
            unfold wipe
            rw [ih (fun z => hw (List.mem_cons_of_mem _ z)), List.set_comm]
            exact fun z => hw (by rw [z]; exact List.mem_cons_self)
        rw [comm vs hm, List.set_set]
    · have hm : i ∈ vs := by
        rcases List.mem_cons.mp h with z | z
        · exact absurd z.symm hv
        · exact z
      rw [wipe_set hm]
theorem blind_name {i : Nat} {vs : List Nat} (h : i ∈ vs) : Blind (gName i) vs := fun v σ H Q q => ⟨wipe_set h, q⟩
theorem blind_tup2 {K : PySem.W.Frag} {n i j : Nat} {vs : List Nat} (hi : i ∈ vs) (hj : j ∈ vs) : Blind (gTup K n (gCons (gName i) (gCons (gName j) gNil))) vs := by
  intro v σ H Q q
  obtain ⟨a, xs, e1, e2, e3, x, r, e4, x2, r2, e5, e6, q⟩ := q
  exact ⟨a, xs, e1, e2, e3, x, r, e4, x2, r2, e5, e6, by rw [wipe_set hj, wipe_set hi], q⟩
theorem wipe_none {σ : L2.St} : ∀ {vs : List Nat} {i : Nat}, i ∈ vs → i < σ.length → (wipe σ vs)[i]? = some none
  | v :: vs, i, h, hl => by
    unfold wipe
    by_cases hv : v = i
    · subst hv
      exact List.getElem?_set_self (by rw [wipe_length]; exact hl)
    · rw [List.getElem?_set_ne hv]
      rcases List.mem_cons.mp h with z | z
      · exact absurd z.symm hv
      · exact wipe_none z hl
theorem wipe_wipe {σ : L2.St} (vs : List Nat) : wipe (wipe σ vs) vs = wipe σ vs := by
  have gen : ∀ ws : List Nat, (∀ i ∈ ws, i ∈ vs) → wipe (wipe σ vs) ws = wipe σ vs := by
    intro ws
    induction ws with
    | nil => intro _; rfl
    | cons w ws ih =>
      intro h
      show (wipe (wipe σ vs) ws).set w none = wipe σ vs
      rw [ih fun i hi => h i (List.mem_cons_of_mem _ hi)]
      by_cases hl : w < σ.length
      · apply List.ext_getElem?
        intro j
        by_cases hj : w = j
        · subst hj
          rw [List.getElem?_set_self (by rw [wipe_length]; exact hl), wipe_none (h w List.mem_cons_self) hl]
        · rw [List.getElem?_set_ne hj]
      · rw [List.set_eq_of_length_le (by rw [wipe_length]; omega)]
  exact gen vs fun _ h => h
structure QGb (X : Cx) (scope : Scope) (tg : Expr) (vs : List Nat) (dg : DG) : Prop where
  ex : ∃ g, (∀ (s : Shared) (H : Hp) (C : Addr) (cl : List (Str × Addr)) (fp : List Addr), PG (X.blk s H scope (compEnvC scope cl C X.env) fp) tg g) ∧ SimG X.K E0 g dg ∧ Blind g vs
theorem qgb_name {X : Cx} {scope : Scope} (i : Nat) {x : Str} {pos : Pos} (hN : X.N.Nodup) (hi : X.N[i]? = some x := by rfl) (hx : ∀ C cl, Loc (compEnvC scope cl C X.env).scope x := by intro _ _; first | exact Or.inl rfl | exact Or.inr rfl) (hf : ∀ C cl, (scope.names.lookup x == some .cell) = true ∨ (compEnvC scope cl C X.env).scope.names.lookup x = some .local := by intro _ _; first | exact .inl rfl | exact .inr rfl) :
    QGb X scope (.Name x pos) [i] (dgName i) := ⟨gName i, fun _ _ C cl _ => pg_name hN hi (hx C cl) (hf C cl), sim_gname, blind_name (by simp)⟩
theorem qgb_tup2 {X : Cx} {scope : Scope} (i j : Nat) {x y : Str} {pos px py : Pos} {k : Nat} (hN : X.N.Nodup) (hc : X.calm = true) (hi : X.N[i]? = some x := by rfl) (hj : X.N[j]? = some y := by rfl) (hx : ∀ C cl, Loc (compEnvC scope cl C X.env).scope x := by intro _ _; first | exact Or.inl rfl | exact Or.inr rfl) (hy : ∀ C cl, Loc (compEnvC scope cl C X.env).scope y := by intro _ _; first | exact Or.inl rfl | exact Or.inr rfl)
    (hf : ∀ C cl, (scope.names.lookup x == some .cell) = true ∨ (compEnvC scope cl C X.env).scope.names.lookup x = some .local := by intro _ _; first | exact .inl rfl | exact .inr rfl) (hf2 : ∀ C cl, (scope.names.lookup y == some .cell) = true ∨ (compEnvC scope cl C X.env).scope.names.lookup y = some .local := by intro _ _; first | exact .inl rfl | exact .inr rfl) :
    QGb X scope (.Tuple [.Name x px, .Name y py] k pos) [i, j] (dgTup 2 (dgCons (dgName i) (dgCons (dgName j) dgNil))) := by
  refine ⟨gTup X.K 2 (gCons (gName i) (gCons (gName j) gNil)), fun s H C cl fp => pg_tup hc (pgs_cons (pg_name hN hi (hx C cl) (hf C cl)) (pgs_cons (pg_name hN hj (hy C cl) (hf2 C cl)) pgs_nil)), ?_, blind_tup2 (by simp) (by simp)⟩
  intro ρ F H Γ μ σ v d k s r Q h
  cases r with
  | @tup a vs ds h1 h2 =>
    have h : WpR (if ds.length = 2 then dgCons (dgName i) (dgCons (dgName j) dgNil) ds Γ μ else .stk) _ _ := h
    split at h
    · rename_i hl
      cases h2 with
      | nil => cases hl
      | cons r1 r2 =>
        cases r2 with
        | nil => cases hl
        | cons r2 r3 =>
          cases r3 with
          | nil => exact ⟨a, _, rfl, k.ex.sqT h1, rfl, _, _, rfl, _, _, rfl, rfl, h ρ F H _ Nx.refl k ((s.set r1 i).set r2 j)⟩
          | cons _ _ => cases hl
    · exact False.elim h
  | _ => exact False.elim h

/-! ### [e for x in xs if t] -/
def lcL (g : DG) (t : DT) (e : DE) (Γ : Gam) : List D → Mu → R (List D)
  | [], μ => .ok [] μ
  | d :: ds, μ => (g d Γ μ).nox.bind fun Γ1 μ1 => (t Γ1 μ1).nox.bind fun b μ2 => match b with
    | false => lcL g t e Γ ds μ2
    | true => (e Γ1 μ2).nox.bind fun y μ3 => (lcL g t e Γ ds μ3).bind fun ys μ4 => .ok (y :: ys) μ4
theorem upd_self {H : Hp} {a : Addr} {o : HO} (h : H a = some o) : upd H a o = H := by
  funext b
  by_cases e : b = a
  · subst e; rw [upd_same, h]
  · rw [upd_ne e]
section
variable {X : Cx} {E : XK} {K : PySem.W.Frag}
theorem Nx.aside {ρ ρ' : List Addr} {F F' H H' : Hp} {dl : Addr} {o : HO} (n : Nx ρ F H ρ' F' H') (h : H dl = none) : Nx ρ F H ρ' F' (upd H' dl o) := by
  refine ⟨n.pre, n.ex, fun a u e hn => ?_, n.newR, n.newF, fun a e => ?_⟩
  · rw [upd_ne (ne_of_none e h)]; exact n.keep a u e hn
  · by_cases ha : a = dl
    · subst ha; exact h
    · rw [upd_ne ha] at e; exact n.there a e
theorem Nx.stays {ρ ρ' : List Addr} {F F' H H' : Hp} {dl : Addr} {o : HO} (n : Nx ρ F H ρ' F' H') (h1 : H dl = some o) (h2 : dl ∉ ρ) (h3 : F dl = none) : H' dl = some o ∧ dl ∉ ρ' ∧ F' dl = none := by
  refine ⟨n.keep dl _ h1 h2, fun z => ?_, ?_⟩
  · rcases n.newR dl z with z | z
    · exact h2 z
    · rw [h1] at z; cases z
  · cases e : F' dl with
    | none => rfl
    | some u =>
      rcases n.newF dl u e with z | z | z
      · rw [h3] at z; cases z
      · rw [h1] at z; cases z
      · exact absurd z h2
/-- what is done with the list that was made -/
def Fin (K : PySem.W.Frag) (fin : List D → Mu → R D) : Prop := ∀ (ρ0 ρ : List Addr) (F0 H0 F H : Hp) (μ : Mu) (dl : Addr) (vs : List V) (ys : List D) (Q : VK), HpOk K ρ μ F H → Nx ρ0 F0 H0 ρ F H → H0 dl = none → H dl = some (.lst vs) → dl ∉ ρ → F dl = none → DnAll K ρ F vs ys → WpR (fin ys μ) (QV K ρ0 F0 H0 Q) (fun _ _ => True) → Q (.ref dl) H
/-- what is made so far at dl, the rest still to come -/
def LcW (K : PySem.W.Frag) (fin : List D → Mu → R D) (dg : DG) (dt : DT) (de : DE) (Γw : Gam) (ds : List D) (Q : VK) (ρ1 : List Addr) (F1 H1 : Hp) (dl : Addr) (i : Nat) (H' : Hp) : Prop :=
  ∃ ρ' F' μ' acc dacc, HpOk K ρ' μ' F' H' ∧ Nx ρ1 F1 H1 ρ' F' H' ∧ H' dl = some (.lst acc) ∧ dl ∉ ρ' ∧ F' dl = none ∧ DnAll K ρ' F' acc dacc ∧ acc.length ≤ i ∧
    WpR (lcL dg dt de Γw (ds.drop i) μ') (fun ys μ2 => WpR (fin (dacc ++ ys) μ2) (QV K ρ1 F1 H1 Q) (fun _ _ => True)) (fun _ _ => True)
/-- the loop of a comprehension, whatever is done with the list at the end -/
theorem lc_sim {wi : TI} {g : TG} {di : DA} {dg : DG} {dt : DT} {de : DE} {vs : List Nat} (fin : List D → Mu → R D) (hi : SimI K E wi di) (hg : SimG K E0 g dg) (hb : Blind g vs) (hfin : Fin K fin) :
    SimE K E (tLc wi g (tT K E0 dt) (tE K E0 de) vs) (fun Γ μ => (di Γ μ).bind fun ds μ1 => if ds.length ≤ 1000000 then (lcL dg dt de (wipeG Γ vs) ds μ1).bind fin else .stk) := by
  intro ρ F H Γ μ σ k s Q h
  refine hi ρ F H Γ μ σ k s _ ((WpR.bind h).mono (fun ds μ1 q => ?_) fun _ _ q => q)
  intro ρ1 F1 H1 J n1 k1 it
  split at q
  · rename_i hlen
    intro dl hD
    have D1 : dl ∉ ρ1 := k1.fresh hD
    have D2 : F1 dl = none := k1.freshF hD
    have q0 : WpR (lcL dg dt de (wipeG Γ vs) ds μ1) (fun ys μ2 => WpR (fin ys μ2) (QV K ρ1 F1 H1 Q) (fun _ _ => True)) (fun _ _ => True) :=
      (WpR.bind q).mono (fun ys μ2 q => q.mono (fun d μ3 q => QV.nx n1 q) fun _ _ _ => trivial) fun _ _ _ => trivial
    refine ⟨fun i m H' => m = ds.length - i ∧ i ≤ ds.length ∧ LcW K fin dg dt de (wipeG Γ vs) ds Q ρ1 F1 H1 dl i H', ⟨ds.length, rfl, Nat.zero_le _, ρ1, F1, μ1, [], [], k1.beside D1 D2, Nx.aside Nx.refl hD, upd_same, D1, D2, .nil, Nat.le_refl _, by rw [List.drop_zero]; exact q0⟩, ?_⟩
    rintro i m H' ⟨rfl, hi, ρ', F', μ', acc, dacc, k', n', hd', dr, df, ra, hla, q'⟩
    by_cases hlt : i < ds.length
    · have e1 : ds.drop i = ds[i] :: ds.drop (i + 1) := List.drop_eq_getElem_cons hlt
      refine .inr ⟨it.go i H' (n'.ex.trans k'.ex) hlt, LcW K fin dg dt de (wipeG Γ vs) ds Q ρ1 F1 H1 dl (i + 1), fun H2 hN => ⟨ds.length - (i + 1), by omega, rfl, hlt, hN⟩, fun x H2 y => ?_⟩
      obtain ⟨d, F2, hd, n2, k2, r2⟩ := it.yld i ρ' F' H' μ' x H2 n'.ex n'.pre k' y hlt
      have ed : ds[i] = d := Option.some.inj ((List.getElem?_eq_getElem hlt).symm.trans hd)
      rw [e1, ed] at q'
      obtain ⟨b1, b2, b3⟩ := n2.stays hd' dr df
      have nn2 := n'.trans n2
      have hs' : Slots K ρ' F' (wipeG Γ vs) (wipe σ vs) := (slots_wipe (s.nx n1) vs).nx n'
      have z := hb x (wipe σ vs) H2 (fun σ2 H2 => tT K E0 dt σ2 H2 fun b H3 => if b = true then tE K E0 de σ2 H3 fun y H4 => ∃ acc, H4 dl = some (.lst acc) ∧ acc.length < sizeLine ∧ LcW K fin dg dt de (wipeG Γ vs) ds Q ρ1 F1 H1 dl (i + 1) (upd H4 dl (.lst (acc ++ [y]))) else LcW K fin dg dt de (wipeG Γ vs) ds Q ρ1 F1 H1 dl (i + 1) H3) (hg ρ' F2 H2 (wipeG Γ vs) μ' (wipe σ vs) x d k2 (hs'.nx n2) r2 _ ((WpR.bind q').nox.mono (fun Γ3 μ3 q3 => by
        intro ρ3 F3 H3 σ3 n3 k3 s3
        have nn3 := nn2.trans n3
        obtain ⟨c1, c2, c3⟩ := n3.stays b1 b2 b3
        refine ⟨ρ3, F3, Γ3, μ3, k3, s3, (WpR.bind q3).nox.mono (fun b μ4 q4 => ?_) fun _ _ q => q⟩
        intro ρ4 F4 H4 n4 k4
        have nn4 := nn3.trans n4
        obtain ⟨d1, d2, d3⟩ := n4.stays c1 c2 c3
        have ra4 := ((ra.nx n2).nx n3).nx n4
        cases b with
        | false => exact ⟨ρ4, F4, μ4, acc, dacc, k4, nn4, d1, d2, d3, ra4, by omega, q4⟩
        | true =>
          refine ⟨ρ4, F4, Γ3, μ4, k4, s3.nx n4, (WpR.bind q4).nox.mono (fun yd μ5 q5 => ?_) fun _ _ q => q⟩
          intro ρ5 F5 H5 yv n5 k5 r5
          obtain ⟨g1, g2, g3⟩ := n5.stays d1 d2 d3
          refine ⟨acc, g1, Nat.lt_of_lt_of_le (show acc.length < 1000000 by omega) million, ρ5, F5, μ5, acc ++ [yv], dacc ++ [yd], k5.beside g2 g3, (nn4.trans n5).aside hD, upd_same, g2, g3, (ra4.nx n5).append (.cons r5 .nil), by rw [List.length_append, List.length_singleton]; omega, ?_⟩
          exact (WpR.bind q5).mono (fun ys μ6 q6 => by rw [List.append_assoc]; exact q6) fun _ _ q => q) fun _ _ q => False.elim (by
          exact q)))
      · rw [wipe_wipe] at z
        exact z
    · have e : i = ds.length := by omega
      subst e
      rw [List.drop_length] at q'
      refine .inl ⟨it.stop _ H' (n'.ex.trans k'.ex) rfl, ?_⟩
      refine hfin ρ1 ρ' F1 H1 F' H' μ' dl acc dacc Q k' n' hD hd' dr df ra ?_
      have q' : WpR (fin (dacc ++ []) μ') _ _ := q'
      rw [List.append_nil] at q'
      exact q'
  · exact False.elim q
def finL (ys : List D) (μ : Mu) : R D := .ok (.lst ys) μ
def finM (ys : List D) (μ : Mu) : R D := .ok (.loc μ.length) (μ ++ [.lst ys])
theorem fin_L : Fin K finL := by
  intro ρ0 ρ F0 H0 F H μ dl vs ys Q k n h0 hd hr hf r q
  have sub : Sub F (upd F dl (.lst vs)) := fun b u e => by
    rw [upd_ne fun z => by subst z; rw [hf] at e; cases e]
    exact e
  have k2 : HpOk K ρ μ (upd F dl (.lst vs)) H := by
    refine ⟨fun b u e => ?_, k.len, k.nd, fun j b u e1 e2 => ?_⟩
    · by_cases hb : b = dl
      · subst hb
        rw [upd_same] at e
        cases e
        exact hd
      · rw [upd_ne hb] at e
        exact k.ex b u e
    · have ne : b ≠ dl := fun z => by subst z; exact hr (List.mem_of_getElem? e1)
      exact (k.mu j b u e1 e2).mono (fun _ _ h => h) sub rfl fun z => by rw [upd_ne ne]; exact z
  refine q ρ (upd F dl (.lst vs)) H (.ref dl) ⟨n.pre, n.ex.trans sub, n.keep, n.newR, fun a o e => ?_, n.there⟩ k2 (.lst upd_same (r.mono (fun _ _ h => h) sub))
  by_cases ha : a = dl
  · subst ha; exact .inr (.inl h0)
  · rw [upd_ne ha] at e; exact n.newF a o e
theorem fin_M : Fin K finM := by
  intro ρ0 ρ F0 H0 F H μ dl vs ys Q k n h0 hd hr hf r q
  have pre : ∀ (n : Nat) a, ρ[n]? = some a → (ρ ++ [dl])[n]? = some a := fun n a e => by
    rw [List.getElem?_append_left (List.getElem?_eq_some_iff.mp e).1]; exact e
  have k2 : HpOk K (ρ ++ [dl]) (μ ++ [.lst ys]) F H := by
    refine ⟨k.ex, by simp [k.len], ?_, fun j b u e1 e2 => ?_⟩
    · rw [List.nodup_append]
      refine ⟨k.nd, by simp, fun a ha b hb => ?_⟩
      have : b = dl := by simpa using hb
      subst this
      intro z
      subst z
      exact hr ha
    · by_cases h : j < ρ.length
      · rw [List.getElem?_append_left h] at e1
        rw [List.getElem?_append_left (by rw [k.len]; exact h)] at e2
        exact (k.mu j b u e1 e2).mono pre (fun _ _ h => h) rfl fun z => z
      · have hj : j < (ρ ++ [dl]).length := (List.getElem?_eq_some_iff.mp e1).1
        rw [List.length_append, List.length_singleton] at hj
        have hj : j = ρ.length := by omega
        subst hj
        have eb : b = dl := by simpa using e1.symm
        have eu : u = .lst ys := by
          rw [← k.len] at e2
          simpa using e2.symm
        subst eb eu
        exact ⟨hf, vs, hd, r.mono pre fun _ _ h => h⟩
  refine q (ρ ++ [dl]) F H (.ref dl) ⟨fun m a e => pre m a (n.pre m a e), n.ex, n.keep, fun a ha => ?_, n.newF, n.there⟩ k2 (.loc (by rw [k.len]; simp))
  rcases List.mem_append.mp ha with z | z
  · exact n.newR a z
  · have : a = dl := by simpa using z
    subst this
    exact .inr h0
end
/-- [e for target in iter if ..] -/
def dLcF (fin : List D → Mu → R D) (vs : List Nat) (i : DA) (g : DG) (t : DT) (e : DE) : DE := fun Γ μ => (i Γ μ).bind fun ds μ1 => if ds.length ≤ 1000000 then (lcL g t e (wipeG Γ vs) ds μ1).bind fin else .stk
section
variable {X : Cx} {E : XK}
theorem q_lc {fin : List D → Mu → R D} {elt tg iter : Expr} {ifs : List Expr} {scope : Scope} {pos : Pos} {di : DA} {dg : DG} {dt : DT} {de : DE} (own : List (Str × Nat)) (hfin : Fin X.K fin) (hc : X.calm = true) (hN : X.N.Nodup) (hi : QI X E tg iter di) (ok : BlkOk X.N X.env.scope scope own)
    (hg : QGb X scope tg (own.map (·.2)) dg) (ht : ∀ (s : Shared) (H : Hp) (C : Addr) (cl : List (Str × Addr)) (fp : List Addr), QTs (X.blk s H scope (compEnvC scope cl C X.env) fp) E0 ifs dt)
    (he : ∀ (s : Shared) (H : Hp) (C : Addr) (cl : List (Str × Addr)) (fp : List Addr), QE (X.blk s H scope (compEnvC scope cl C X.env) fp) E0 elt de) (hs : ∀ x, foldedSetIterable iter X.env x = pure x := by intro _; rfl) :
    QE X E (.ListComp elt [⟨tg, iter, ifs, 0⟩] scope pos) (dLcF fin (own.map (·.2)) di dg dt de) := by
  obtain ⟨wi, i1, i2⟩ := hi.ex
  obtain ⟨g, g1, g2, g3⟩ := hg.ex
  exact ⟨_, pe_lc hc hN i1 ok g1 (fun s H C cl fp => (ht s H C cl fp).run) (fun s H C cl fp => (he s H C cl fp).pe) hs, lc_sim fin i2 g2 g3 hfin⟩
/-- name = [..] on one line -/
theorem q_setLc (i : Nat) {fin : List D → Mu → R D} {y : Str} {py spos : Pos} {elt tg iter : Expr} {ifs : List Expr} {scope : Scope} {pos : Pos} {di : DA} {dg : DG} {dt : DT} {de : DE} (own : List (Str × Nat)) (hfin : Fin X.K fin) (hc : X.calm = true) (hN : X.N.Nodup)
    (hi : QI X E tg iter di) (ok : BlkOk X.N X.env.scope scope own)
    (hg : QGb X scope tg (own.map (·.2)) dg) (ht : ∀ (s : Shared) (H : Hp) (C : Addr) (cl : List (Str × Addr)) (fp : List Addr), QTs (X.blk s H scope (compEnvC scope cl C X.env) fp) E0 ifs dt)
    (he : ∀ (s : Shared) (H : Hp) (C : Addr) (cl : List (Str × Addr)) (fp : List Addr), QE (X.blk s H scope (compEnvC scope cl C X.env) fp) E0 elt de)
    (hsw : swapsWith (.ListComp elt [⟨tg, iter, ifs, 0⟩] scope pos) (some (.Name y py)) spos.line X.env = pure true) (hy : X.N[i]? = some y := by rfl) (hyl : X.env.scope.names.lookup y = some .local := by rfl)
    (hs : ∀ x, foldedSetIterable iter X.env x = pure x := by intro _; rfl) :
    QSt X E (.Assign [.Name y py] (.ListComp elt [⟨tg, iter, ifs, 0⟩] scope pos) spos) (dSet i (dLcF fin (own.map (·.2)) di dg dt de)) := by
  obtain ⟨wi, i1, i2⟩ := hi.ex
  obtain ⟨g, g1, g2, g3⟩ := hg.ex
  exact ⟨_, ps_setLc hc hN hy hyl hsw i1 ok g1 (fun s H C cl fp => (ht s H C cl fp).run) (fun s H C cl fp => (he s H C cl fp).pe) hs, sim_set (lc_sim fin i2 g2 g3 hfin)⟩
end
end Ar

set_option Elab.async false
set_option linter.all false
set_option maxRecDepth 100000
set_option maxHeartbeats 2000000
/-! Ar8: enumerate, zip, calls with keywords, methods of lists and texts -/
namespace Ar
open PySem PySem.Spec PyProof.Rows L2

/-! ### enumerate of a tuple -/
section
open Sem (wp)
open AutoSeq1 (wpAny_loadPart')
set_option maxHeartbeats 1000000 in
theorem meets_enumerate_new1 {v : Value} {o : Obj} {H : Heap → Prop} (B : Begins v o H) :
    Meets (Builtin.«enumerate.__new__» ⟨[.type "enumerate", v], []⟩) (fun _ R s => H s.heap ∧
      R (.ok (.ret (.ref (s.heap.push o).objs.size))) { s with heap := (s.heap.push o).push { cls := .type "enumerate", data := .fields #[.none, .bool false, .ref s.heap.objs.size, rawInt 0, .none, .none] } }) :=
  .of_wp fun prog w A R s h => by
    obtain ⟨hp, g, d, tk, os⟩ := s; obtain ⟨h1, h⟩ := h
    have hsub := sub_enumerate
    have q1 : ∀ {A' : Around} {E : Value → Shared → Prop} {Q : Value → Shared → Prop}, Q (.ref hp.objs.size) ⟨hp.push o, g, d, tk, os⟩ → wpAny (model prog w) A' (pyIter v) Q E ⟨hp, g, d, tk, os⟩ :=
      fun q => B.iter prog w _ _ ⟨hp, g, d, tk, os⟩ _ h1 q
    wp_walk using q1
    refine wpAny_stack_any fun st => wpAny_pure ?_
    split
    · rename_i c _ _ _ _ _
      cases (c == Value.type "enumerate")
      · wp_walk using q1
        exact ⟨_, rfl, h⟩
      · wp_walk using q1
        exact ⟨_, rfl, h⟩
    · wp_walk using q1
      exact ⟨_, rfl, h⟩
theorem call_enumerate_B {prog : Program} {w : World} {A : Around} {E : Value → Shared → Prop} {s : Shared} {v : Value} {o : Obj} {H : Heap → Prop} {Q : Value → Shared → Prop} (B : Begins v o H) (h1 : H s.heap)
    (h : ∀ h', IsEnum h' (s.heap.objs.size + 1) s.heap.objs.size 0 .none → h'.get? s.heap.objs.size = some o → h'.objs.size = s.heap.objs.size + 2 →
      (∀ b o, s.heap.get? b = some o → h'.get? b = some o) → Q (.ref (s.heap.objs.size + 1)) { s with heap := h' }) :
    wpAny (model prog w) A (call (.type "enumerate") [v]) Q E s := by
  refine callType_new F.called_enumerate (by decide) (F.typeCall_enumerate_1 _) (F.newCall_enumerate_1 _) (fun obj => F.args_object_init_2 obj _) F.entry_enumerate_new
    (meets_enumerate_new1 B) ⟨h1, ?_⟩
  have hz : (s.heap.push o).objs.size = s.heap.objs.size + 1 := Heap.size_push ..
  show _ ∧ _
  rw [hz]
  have he : IsEnum ((s.heap.push o).push { cls := .type "enumerate", data := .fields #[.none, .bool false, .ref s.heap.objs.size, rawInt 0, .none, .none] }) (s.heap.objs.size + 1) s.heap.objs.size 0 .none := by
    have := Heap.get?_push_size (s.heap.push o) (o := { cls := .type "enumerate", data := .fields #[.none, .bool false, .ref s.heap.objs.size, rawInt 0, .none, .none] }) rfl
    rw [hz] at this; exact this
  refine ⟨⟨_, he, rfl⟩, h _ he (Heap.get?_push_of_some _ (Heap.get?_push_size _ B.free)) (by rw [Heap.size_push, hz]) fun b o x => Heap.get?_push_of_some _ (Heap.get?_push_of_some _ x)⟩
end
def IteT (K : PySem.W.Frag) (a : Addr) : It :=
  ⟨fun i H => ∃ (xs : List V) (x : V), SqT K H a xs ∧ xs[i]? = some x, fun i H v H' => ∃ T x, v = .ref T ∧ H T = none ∧ H' = upd H T (.tup [.int (i : Nat), x]) ∧ ∀ xs, SqT K H a xs → xs[i]? = some x, fun i H => ∃ xs : List V, SqT K H a xs ∧ xs.length ≤ i⟩
theorem turn_enumT {P : Program} {w : World} {K : PySem.W.Frag} {elts : List Expr} {kk : Nat} {tpos : Pos} (a e it : Addr) :
    Turn P w K (.Tuple elts kk tpos) (IteT K a) [e, it] e (fun i h => (∃ old, IsEnum h e it ((i : Nat) : Int) old) ∧ h.IsTupleIter it a i ∧ e ≠ it ∧ a ≠ it ∧ e ≠ a) where
  mem := by simp
  obj := fun i h st b hb => by
    obtain ⟨⟨old, he⟩, ⟨o, ho, hc, hd⟩, _⟩ := st
    have e' : b = e ∨ b = it := by simpa using hb
    rcases e' with z | z
    · rw [z]; exact ⟨_, he, fun v q => nomatch q⟩
    · rw [z]; exact ⟨o, ho, fun v q => by rw [hd] at q; cases q⟩
  keep := fun i h h' st k => let ⟨⟨old, he⟩, hi, hne⟩ := st; ⟨⟨old, k e (by simp) _ he⟩, hi.at fun o q => k it (by simp) o q, hne⟩
  item := by
    intro X hP hw hK hc i pins s σ H E I hf st hg
    subst hP hw hK
    obtain ⟨⟨old, he⟩, hit, hne, hai, hea⟩ := st
    obtain ⟨xs, x, hq, hx⟩ := hg
    obtain ⟨its, rv, p, hz⟩ := I.tuple hq
    obtain ⟨u, hu, ru⟩ := rv.get hx
    have hel : e < s.heap.objs.size := Heap.lt_size he
    have hil : it < s.heap.objs.size := by obtain ⟨_, q, _⟩ := hit; exact Heap.lt_size q
    have hlt : i < its.toArray.size := by
      have := (List.getElem?_eq_some_iff.mp hu).1
      simpa using this
    refine wpAny_pyNext_enum_itemD (n := its.toArray.size) (Draws.tuple (A := X.A.in1) (I.ok.hd hc) it a hai its.toArray) he ⟨hit, p⟩ hlt hne (by simp [hne, hea]) fun y h' tk hy ho hst' hT hsz hk => ?_
    have ey : y = u := by
      have e2 : its.toArray[i]? = some y := hy
      have e3 : its.toArray[i]? = some u := by simpa using hu
      exact Option.some.inj (e2.symm.trans e3)
    subst ey
    refine ⟨_, rfl, wpAny_letOwnedTupleGo_enum (s := { s with heap := h', toks := tk + 1 }) ho fun h'' he' sb => ?_⟩
    have hT2 : h''.get? s.heap.objs.size = some { cls := .type "tuple", data := .seq #[.int i tk, y] } := (sb.2 _ (Nat.ne_of_gt hel)).trans hT
    have new : ObjOk X.prog X.w (upd H s.heap.objs.size (.tup [.int (i : Nat), x])) h'' s.heap.objs.size (.tup [.int (i : Nat), x]) :=
      ⟨by show 2 ≤ sizeLine; decide, [.int i tk, y], .cons ⟨_, rfl⟩ (.cons ru .nil), ⟨_, hT2, rfl, _, rfl⟩⟩
    have I1 : Inv X pins σ (upd H s.heap.objs.size (.tup [.int (i : Nat), x])) { s with heap := h'', toks := tk + 1 } :=
      I.turnedNew (ch := [e, it]) (fun b ob hb q => (sb.2 b (fun z => hb (by simp [z]))).trans (hk b ob (fun z => hb (by simp [z])) (fun z => hb (by simp [z])) q)) hf (Nat.le_refl _) new
    refine ⟨.ref s.heap.objs.size, _, I1, rfl, ⟨_, x, rfl, I.hok.fresh (Nat.le_refl _), rfl, fun ys hy => by rw [I.tuple_inj hy hq]; exact hx⟩, ⟨⟨y, ?_⟩, hst'.1.at fun o q => (sb.2 it (Ne.symm hne)).trans q, hne, hai, hea⟩, fun b hb => ?_⟩
    · have e1 : ((i + 1 : Nat) : Int) = (i : Int) + 1 := by omega
      rw [e1]; exact he'
    · have hb' : b < s.heap.objs.size := by
        have e' : b = e ∨ b = it := by simpa using hb
        rcases e' with z | z
        · rw [z]; exact hel
        · rw [z]; exact hil
      rw [upd_ne (Nat.ne_of_lt hb')]
      exact (hf b hb).1
  done := by
    intro X hP hw hK hc i pins s σ H E I hf st hg
    subst hP hw hK
    obtain ⟨⟨old, he⟩, hit, hne, hai, hea⟩ := st
    obtain ⟨xs, hq, hx⟩ := hg
    obtain ⟨its, rv, p, hz⟩ := I.tuple hq
    obtain ⟨f0, f1, f2, f3, f4, f5⟩ := hf it (by simp)
    have hl := rv.length
    -- the iterator may stand behind the end: then as at the end
    have hh : X.A.in1.handled = none := I.ok.hd hc
    have hT : s.TypeIs (.ref e) "enumerate" := ⟨_, he, rfl⟩
    unfold pyNext
    refine wpAny_bind (wpAny_attempt (wpAny_callSpecial?_slot (name := Str.ofString "__next__") hT F.slot_enumerate_next
      (wpAny_call_entry F.slot_enumerate_next hT F.entry_enumerate_next ?_ (F.args_enumerate_next_1 _))))
    show wpAny _ _ (field (.ref e) 2 >>= _) _ _ _
    refine wpAny_bind (wpAny_field he rfl (x := .ref it) rfl ?_)
    refine wpAny_bind (wpAny_nextOf_tuple_end hh hit p (by simp; omega) fun h' y he' hy => ?_)
    obtain ⟨o, ho, hc2⟩ := hy
    refine wpAny_bind (wpAny_isInstance (T := "StopIteration") (b := true) ⟨o, ho, hc2⟩ isSubtype_stop ?_)
    exact wpAny_pure ⟨rfl, I.turned (t' := s.toks) (fun b o hb q => he' b o hb q) f0 f1 f3 f4 f5⟩
  self := fun A i s Q E st h => let ⟨⟨_, he⟩, _⟩ := st; wpAny_pyIter_enum he h
def iEnumT (K : PySem.W.Frag) (ta : TA) : TI := fun σ H R => ta σ H fun vs H1 => ∃ a xs, vs = [.ref a] ∧ SqT K H1 a xs ∧ R (IteT K a) H1
theorem pi_enumT {X : Cx} {e : Expr} {ta : TA} {p pos tpos : Pos} {elts : List Expr} {kk : Nat} (hg : Gl X "enumerate") (hm : X.mg "enumerate" = none) (ha : PA X [e] ta) (hs : starEach [e] X.env = [(false, eval e X.env)] := by rfl) :
    PI X (.Tuple elts kk tpos) (.Call (.Name "enumerate" p) [e] [] pos) (iEnumT X.K ta) := by
  refine ⟨fun pins s σ H R I h => ?_⟩
  refine Call_ (ld_blt I hg hm boot_enumerate (PyProof.Rows.callWith_type1 (thn (ha.run pos pins s σ H _ I h) fun us s1 ⟨vs, H1, I1, r1, q1⟩ => ?_) hs rfl))
  obtain ⟨a, xs, ex, hq, q⟩ := q1
  subst ex
  cases r1 with
  | cons r rr =>
    cases rr
    cases r
    obtain ⟨its, rv, p', hz⟩ := I1.tuple hq
    have ha : a < s1.heap.objs.size := by obtain ⟨o, ho, _⟩ := id p'; exact Heap.lt_size ho
    refine call_enumerate_B (begins_tuple a its.toArray) p' fun h' he hit hsz hk => wpAny_pyIter_enum he ?_
    have I2 : Inv X pins σ H1 { s1 with heap := h' } := I1.kept (t' := s1.toks) hk
    refine ⟨s1.heap.objs.size + 1, [s1.heap.objs.size + 1, s1.heap.objs.size], _, _, H1, rfl, I2, turn_enumT a (s1.heap.objs.size + 1) s1.heap.objs.size, ⟨⟨.none, he⟩, ⟨_, hit, rfl, rfl⟩, Nat.succ_ne_self _, Nat.ne_of_lt ha, Nat.ne_of_gt (Nat.lt_succ_of_lt ha)⟩, fun b hb => ?_, q⟩
    have e' : b = s1.heap.objs.size + 1 ∨ b = s1.heap.objs.size := by simpa using hb
    have hle : s1.heap.objs.size ≤ b := by
      rcases e' with z | z
      · rw [z]; exact Nat.le_add_right _ _
      · rw [z]; exact Nat.le_refl _
    exact I1.fpOk hle (I1.hok.fresh hle)

/-! ### enumerate, zip by data -/
def enumD : Nat → List D → List D
  | _, [] => []
  | k, d :: ds => .tup [.int (k : Nat), d] :: enumD (k + 1) ds
theorem enumD_len : ∀ (k : Nat) (ds : List D), (enumD k ds).length = ds.length
  | _, [] => rfl
  | k, d :: ds => congrArg Nat.succ (enumD_len (k + 1) ds)
theorem enumD_get : ∀ (k i : Nat) (ds : List D) (d : D), ds[i]? = some d → (enumD k ds)[i]? = some (.tup [.int ((k + i : Nat) : Int), d])
  | k, 0, x :: ds, d, h => by simp at h; subst h; simp [enumD]
  | k, i + 1, x :: ds, d, h => by
    have := enumD_get (k + 1) i ds d (by simpa using h)
    show (enumD (k + 1) ds)[i]? = _
    rw [this, show k + 1 + i = k + (i + 1) by omega]
  | k, i, [], d, h => by simp at h
def seqIE (d : D) (μ : Mu) : R (List D) := match d with
  | .str _ => .stk
  | d => seqI d μ
def diEnum (a : DA) : DA := fun Γ μ => (a Γ μ).bind fun xs μ1 => match xs with
  | [x] => (seqIE x μ1).bind fun ds μ2 => .ok (enumD 0 ds) μ2
  | _ => .stk
def zipD : List D → List D → List D
  | x :: xs, y :: ys => .tup [x, y] :: zipD xs ys
  | _, _ => []
theorem zipD_len : ∀ (xs ys : List D), (zipD xs ys).length = min xs.length ys.length
  | [], _ => by simp [zipD]
  | _ :: _, [] => by simp [zipD]
  | x :: xs, y :: ys => by simp [zipD, zipD_len xs ys]
theorem zipD_get : ∀ (xs ys : List D) (i : Nat) (x y : D), xs[i]? = some x → ys[i]? = some y → (zipD xs ys)[i]? = some (.tup [x, y])
  | [], _, i, x, y, h, _ => by simp at h
  | _ :: _, [], i, x, y, _, h => by simp at h
  | a :: xs, b :: ys, 0, x, y, h, h' => by simp at h h'; subst h h'; simp [zipD]
  | a :: xs, b :: ys, i + 1, x, y, h, h' => by
    show (zipD xs ys)[i]? = _
    exact zipD_get xs ys i x y (by simpa using h) (by simpa using h')
/-- the list of a value: places are frozen -/
def seqIL (d : D) (μ : Mu) : R (List D) := match d with
  | .lst ds => .ok ds μ
  | .loc n => match μ[n]? with
    | some (.lst ds) => .ok ds (μ.set n (.frz ds))
    | some (.frz ds) => .ok ds μ
    | _ => .stk
  | _ => .stk
def diZip (a : DA) : DA := fun Γ μ => (a Γ μ).bind fun xs μ1 => match xs with
  | [.tup ds, .tup es] => .ok (zipD ds es) μ1
  | [x, y] => (seqIL x μ1).bind fun ds μ2 => (seqIL y μ2).bind fun es μ3 => .ok (zipD ds es) μ3
  | _ => .stk
section
variable {X : Cx} {E : XK} {K : PySem.W.Frag} {e e2 tg : Expr} {de : DE} {da : DA} {pos : Pos}
/-- a list's items come frozen -/
theorem seqIL_ok {ρ : List Addr} {F H : Hp} {μ μ' : Mu} {v : V} {d : D} {ds : List D} (k : HpOk K ρ μ F H) (r : Dn K ρ F v d) (h : seqIL d μ = .ok ds μ') : ∃ a vs F', v = .ref a ∧ HpOk K ρ μ' F' H ∧ Nx ρ F H ρ F' H ∧ SqL K F' a vs ∧ DnAll K ρ F' vs ds := by
  unfold seqIL at h
  split at h
  · cases h
    cases r with
    | lst h1 h2 => exact ⟨_, _, F, rfl, k, Nx.refl, SqL.of h1, h2⟩
  · rename_i n
    cases r with
    | @loc a _ e1 =>
      split at h
      · rename_i ds em
        cases h
        obtain ⟨hf, vs, ev, rv⟩ := k.mu n a _ e1 em
        obtain ⟨k2, n2⟩ := k.freeze e1 hf ev rv
        exact ⟨a, vs, _, rfl, k2, n2, SqL.of upd_same, rv.nx n2⟩
      · rename_i ds em
        cases h
        obtain ⟨vs, ev, rv⟩ := k.mu n a _ e1 em
        exact ⟨a, vs, F, rfl, k, Nx.refl, SqL.of ev, rv⟩
      · cases h
  · cases h
theorem itok_enumL {ρ : List Addr} {F : Hp} {a : Addr} {vs : List V} {ds : List D} (h : SqL K F a vs) (r : DnAll K ρ F vs ds) : ItOk K ρ F (Ite K a) (enumD 0 ds) where
  go := fun i H s hi => by
    have hl := r.length
    rw [enumD_len] at hi
    exact ⟨vs, vs[i]'(by omega), s.sqL h, List.getElem?_eq_getElem _⟩
  stop := fun i H s hi0 => by have hi := Nat.le_of_eq hi0.symm; rw [enumD_len] at hi; exact ⟨vs, s.sqL h, by rw [r.length]; exact hi⟩
  yld := fun i ρ' F' H μ' x H' s p k y hi => by
    obtain ⟨T, z, e1, hT, e2, y⟩ := y
    subst e1 e2
    have q := y vs (k.ex.sqL (s.sqL h))
    obtain ⟨d, hd, rd⟩ := r.getV q
    have q2 := enumD_get 0 i ds d hd
    rw [Nat.zero_add] at q2
    obtain ⟨n2, k2, r2⟩ := new_tup (vs := [.int (i : Nat), z]) (ds := [.int (i : Nat), d]) k (.cons (.int _) (.cons (rd.mono p s) .nil)) hT
    exact ⟨_, _, q2, n2, k2, r2⟩
theorem itok_enumT {ρ : List Addr} {F : Hp} {a : Addr} {vs : List V} {ds : List D} (h : SqT K F a vs) (r : DnAll K ρ F vs ds) : ItOk K ρ F (IteT K a) (enumD 0 ds) where
  go := fun i H s hi => by
    have hl := r.length
    rw [enumD_len] at hi
    exact ⟨vs, vs[i]'(by omega), s.sqT h, List.getElem?_eq_getElem _⟩
  stop := fun i H s hi0 => by have hi := Nat.le_of_eq hi0.symm; rw [enumD_len] at hi; exact ⟨vs, s.sqT h, by rw [r.length]; exact hi⟩
  yld := fun i ρ' F' H μ' x H' s p k y hi => by
    obtain ⟨T, z, e1, hT, e2, y⟩ := y
    subst e1 e2
    have q := y vs (k.ex.sqT (s.sqT h))
    obtain ⟨d, hd, rd⟩ := r.getV q
    have q2 := enumD_get 0 i ds d hd
    rw [Nat.zero_add] at q2
    obtain ⟨n2, k2, r2⟩ := new_tup (vs := [.int (i : Nat), z]) (ds := [.int (i : Nat), d]) k (.cons (.int _) (.cons (rd.mono p s) .nil)) hT
    exact ⟨_, _, q2, n2, k2, r2⟩
theorem qi_enum {elts : List Expr} {kk : Nat} {tpos p : Pos} (hm : X.mg "enumerate" = none) (ha : QA X E [e] da) (hg : Gl X "enumerate" := by rfl) (hs : starEach [e] X.env = [(false, eval e X.env)] := by rfl) :
    QI X E (.Tuple elts kk tpos) (.Call (.Name "enumerate" p) [e] [] pos) (diEnum da) := by
  obtain ⟨ta, a1, a2⟩ := ha.ex
  refine ⟨_, PI.or (pi_enum hg hm a1 hs) (pi_enumT hg hm a1 hs), ?_⟩
  intro ρ F H Γ μ σ k s Rr h
  unfold diEnum at h
  cases hr : da Γ μ with
  | stk => rw [hr] at h; exact False.elim h
  | exc x μ1 =>
    rw [hr] at h
    refine .inl (a2 ρ F H Γ μ σ k s _ ?_)
    rw [hr]
    exact h
  | ok xs μ1 =>
    rw [hr] at h
    cases xs with
    | nil => exact False.elim h
    | cons x xs =>
      cases xs with
      | cons _ _ => exact False.elim h
      | nil =>
        have h : WpR ((seqIE x μ1).bind fun ds μ2 => .ok (enumD 0 ds) μ2) _ _ := h
        cases x with
        | tup ds =>
          refine .inr (a2 ρ F H Γ μ σ k s _ ?_)
          rw [hr]
          intro ρ1 F1 H1 vs n1 k1 r1
          cases r1 with
          | cons r1 r2 =>
            cases r2
            cases r1 with
            | tup h1 h2 => exact ⟨_, _, rfl, k1.ex.sqT h1, h ρ1 F1 H1 _ n1 k1 (itok_enumT h1 h2)⟩
        | lst ds =>
          refine .inl (a2 ρ F H Γ μ σ k s _ ?_)
          rw [hr]
          intro ρ1 F1 H1 vs n1 k1 r1
          cases r1 with
          | cons r1 r2 =>
            cases r2
            cases r1 with
            | lst h1 h2 => exact ⟨_, _, rfl, .inl (Rd.of (k1.ex _ _ h1)), h ρ1 F1 H1 _ n1 k1 (itok_enumL (SqL.of h1) h2)⟩
        | scr ds =>
          refine .inl (a2 ρ F H Γ μ σ k s _ ?_)
          rw [hr]
          intro ρ1 F1 H1 vs n1 k1 r1
          cases r1 with
          | cons r1 r2 =>
            cases r2
            cases r1 with
            | scr h1 h2 => exact ⟨_, _, rfl, k1.ex.sqL h1, h ρ1 F1 H1 _ n1 k1 (itok_enumL h1 h2)⟩
        | loc n =>
          refine .inl (a2 ρ F H Γ μ σ k s _ ?_)
          rw [hr]
          intro ρ1 F1 H1 vs n1 k1 r1
          cases r1 with
          | cons r1 r2 =>
            cases r2
            have e3 : seqIE (.loc n) μ1 = seqIL (.loc n) μ1 := rfl
            rw [e3] at h
            cases hs : seqIL (.loc n) μ1 with
            | stk => rw [hs] at h; exact False.elim h
            | exc _ _ => unfold seqIL at hs; simp only at hs; split at hs <;> cases hs
            | ok ds μ2 =>
              rw [hs] at h
              obtain ⟨a, vs, F2, rfl, k2, n2, h1, h2⟩ := seqIL_ok k1 r1 hs
              exact ⟨a, vs, rfl, k2.ex.sqL h1, h ρ1 F2 H1 _ (n1.trans n2) k2 (itok_enumL h1 h2)⟩
        | non => exact False.elim h
        | bl _ => exact False.elim h
        | int _ => exact False.elim h
        | str _ => exact False.elim h
        | ins _ _ => exact False.elim h
        | slt _ _ => exact False.elim h
        | dK _ => exact False.elim h
        | glo _ => exact False.elim h
        | ty _ => exact False.elim h
        | adr => exact False.elim h
        | clo => exact False.elim h
        | exn => exact False.elim h
theorem itok_zipL {ρ : List Addr} {F : Hp} {a b : Addr} {vs ws : List V} {ds es : List D} (h : SqL K F a vs) (r : DnAll K ρ F vs ds) (h' : SqL K F b ws) (r' : DnAll K ρ F ws es) : ItOk K ρ F (Itz K a b) (zipD ds es) where
  go := fun i H s hi => by
    have hl := r.length
    have hl' := r'.length
    rw [zipD_len] at hi
    exact ⟨vs, ws, vs[i]'(by omega), ws[i]'(by omega), s.sqL h, s.sqL h', List.getElem?_eq_getElem _, List.getElem?_eq_getElem _⟩
  stop := fun i H s hi0 => by
    have hi := Nat.le_of_eq hi0.symm
    have hl := r.length
    have hl' := r'.length
    rw [zipD_len] at hi
    exact ⟨vs, ws, s.sqL h, s.sqL h', by omega⟩
  yld := fun i ρ' F' H μ' x H' s p k y hi => by
    obtain ⟨T, z, z', e1, hT, e2, y, y'⟩ := y
    subst e1 e2
    have q := y vs (k.ex.sqL (s.sqL h))
    have q' := y' ws (k.ex.sqL (s.sqL h'))
    obtain ⟨d, hd, rd⟩ := r.getV q
    obtain ⟨d', hd', rd'⟩ := r'.getV q'
    obtain ⟨n2, k2, r2⟩ := new_tup (vs := [z, z']) (ds := [d, d']) k (.cons (rd.mono p s) (.cons (rd'.mono p s) .nil)) hT
    exact ⟨_, _, zipD_get ds es i d d' hd hd', n2, k2, r2⟩
theorem itok_zipT {ρ : List Addr} {F : Hp} {a b : Addr} {vs ws : List V} {ds es : List D} (h : SqT K F a vs) (r : DnAll K ρ F vs ds) (h' : SqT K F b ws) (r' : DnAll K ρ F ws es) : ItOk K ρ F (RZ.ItzT K a b) (zipD ds es) where
  go := fun i H s hi => by
    have hl := r.length
    have hl' := r'.length
    rw [zipD_len] at hi
    exact ⟨vs, ws, vs[i]'(by omega), ws[i]'(by omega), s.sqT h, s.sqT h', List.getElem?_eq_getElem _, List.getElem?_eq_getElem _⟩
  stop := fun i H s hi0 => by
    have hi := Nat.le_of_eq hi0.symm
    have hl := r.length
    have hl' := r'.length
    rw [zipD_len] at hi
    exact ⟨vs, ws, s.sqT h, s.sqT h', by omega⟩
  yld := fun i ρ' F' H μ' x H' s p k y hi => by
    obtain ⟨T, z, z', e1, hT, e2, y, y'⟩ := y
    subst e1 e2
    have q := y vs (k.ex.sqT (s.sqT h))
    have q' := y' ws (k.ex.sqT (s.sqT h'))
    obtain ⟨d, hd, rd⟩ := r.getV q
    obtain ⟨d', hd', rd'⟩ := r'.getV q'
    obtain ⟨n2, k2, r2⟩ := new_tup (vs := [z, z']) (ds := [d, d']) k (.cons (rd.mono p s) (.cons (rd'.mono p s) .nil)) hT
    exact ⟨_, _, zipD_get ds es i d d' hd hd', n2, k2, r2⟩
def zipI (xs : List D) (μ : Mu) : R (List D) := match xs with
  | [x, y] => (seqIL x μ).bind fun ds μ2 => (seqIL y μ2).bind fun es μ3 => .ok (zipD ds es) μ3
  | _ => .stk
theorem qi_zip {elts : List Expr} {kk : Nat} {tpos p : Pos} (hm : X.mg "zip" = none) (ha : QA X E [e, e2] da) (hg : Gl X "zip" := by rfl)
    (hs : starEach [e, e2] X.env = (false, eval e X.env) :: starEach [e2] X.env := by rfl) (hpl : (backTo pos (starEach [e2] X.env)).any (·.1) = false := by rfl) :
    QI X E (.Tuple elts kk tpos) (.Call (.Name "zip" p) [e, e2] [] pos) (diZip da) := by
  obtain ⟨ta, a1, a2⟩ := ha.ex
  refine ⟨_, RZ.pi_zipA hg hm a1 hs hpl, ?_⟩
  intro ρ F H Γ μ σ k s Rr h
  refine a2 ρ F H Γ μ σ k s _ ((WpR.bind h).mono (fun xs μ1 q => ?_) fun _ _ q => q)
  intro ρ1 F1 H1 vs n1 k1 r1
  split at q
  · cases r1 with
    | cons r1 r2 =>
      cases r2 with
      | cons r2 r3 =>
        cases r3
        cases r1 with
        | tup h1 h2 =>
          cases r2 with
          | tup g1 g2 => exact ⟨_, _, _, _, rfl, .inr ⟨k1.ex.sqT h1, k1.ex.sqT g1, q ρ1 F1 H1 _ n1 k1 (itok_zipT h1 h2 g1 g2)⟩⟩
  · cases r1 with
    | cons r1 r2 =>
      cases r2 with
      | cons r2 r3 =>
        cases r3
        rename_i x y _ _ _
        cases hx : seqIL x μ1 with
        | stk => rw [hx] at q; exact False.elim q
        | exc _ _ => unfold seqIL at hx; split at hx <;> first | cases hx | (split at hx <;> cases hx)
        | ok ds μ2 =>
          rw [hx] at q
          obtain ⟨a, vs, F2, rfl, k2, n2, h1, h2⟩ := seqIL_ok k1 r1 hx
          have q : WpR ((seqIL y μ2).bind fun es μ3 => .ok (zipD ds es) μ3) _ _ := q
          cases hy : seqIL y μ2 with
          | stk => rw [hy] at q; exact False.elim q
          | exc _ _ => unfold seqIL at hy; split at hy <;> first | cases hy | (split at hy <;> cases hy)
          | ok es μ3 =>
            rw [hy] at q
            obtain ⟨b, ws, F3, rfl, k3, n3, g1, g2⟩ := seqIL_ok k2 (r2.nx n2) hy
            have h1' := n3.ex.sqL h1
            exact ⟨a, b, vs, ws, rfl, .inl ⟨k3.ex.sqL h1', k3.ex.sqL g1, q ρ1 F3 H1 _ ((n1.trans n2).trans n3) k3 (itok_zipL h1' (h2.nx n3) g1 g2)⟩⟩
  · exact False.elim q
end
end Ar

set_option Elab.async false
set_option linter.all false
set_option maxRecDepth 100000
set_option maxHeartbeats 2000000
/-! Ar9: calls with keywords, methods of lists and texts -/
namespace Ar
open PySem PySem.Spec PyProof.Rows L2

/-! ### calls with keywords -/
def pick {α : Type} (pm : List Nat) (xs : List α) : List α := pm.filterMap (xs[·]?)
theorem pick_vals {xs : List V} {us : List Value} (h : Vals xs us) : ∀ pm : List Nat, Vals (pick pm xs) (pick pm us)
  | [] => .nil
  | i :: pm => by
    unfold pick
    rw [List.filterMap_cons, List.filterMap_cons]
    cases e : xs[i]? with
    | none => rw [h.none_of e]; exact pick_vals h pm
    | some x =>
      obtain ⟨u, e2, r⟩ := h.get e
      rw [e2]
      exact .cons r (pick_vals h pm)
theorem pick_dn {K : PySem.W.Frag} {ρ : List Addr} {F : Hp} {xs : List V} {ds : List D} (h : DnAll K ρ F xs ds) : ∀ pm : List Nat, DnAll K ρ F (pick pm xs) (pick pm ds)
  | [] => .nil
  | i :: pm => by
    unfold pick
    rw [List.filterMap_cons, List.filterMap_cons]
    cases e : ds[i]? with
    | none =>
      have e2 : xs[i]? = none := by
        rw [List.getElem?_eq_none_iff] at e ⊢
        rw [h.length]
        exact e
      rw [e2]
      exact pick_dn h pm
    | some d =>
      obtain ⟨v, e2, r⟩ := h.get e
      rw [e2]
      exact .cons r (pick_dn h pm)
structure FnK (P : Program) (w : World) (K : PySem.W.Frag) (mg : Str → Option Value) (base : Heap) (x : Str) (k : Nat) (n : Nat) (ks : List Str) (pm : List Nat) (m : Fn) : Prop where
  ex : ∃ f fd ps, mg x = some (.ref f) ∧ PySem.W.keepIn K (.ref f) = true ∧ KBn K fd ps n ks (fun us ws => pick pm (us ++ ws)) (fun vs zs => pick pm (vs ++ zs)) ∧ Pm P w K mg base (L2.CX P w) k f fd ps (spM K m)
theorem kbn_of {K : PySem.W.Frag} {x qual : Str} {params : Arguments} {body : List Stmt} {scope : Scope} {f : Addr} {fd : FuncData} {ps : List Str} (F : FunD K x qual params body scope [] [] f fd) (n : Nat) (ks : List Str) (pm : List Nat)
    (h : ∀ (kV doc pm' : Value) (an : Option Addr) (cdv ct : Value) (us ws : List Value), us.length = n → ws.length = ks.length → bindArgs (PySem.W.fnOf x qual params body scope .none kV doc pm' an cdv ct) ⟨us, ks.zip ws⟩ = pure (ps.zip (pick pm (us ++ ws)))) :
    KBn K fd ps n ks (fun us ws => pick pm (us ++ ws)) (fun vs zs => pick pm (vs ++ zs)) := by
  obtain ⟨oc, od, dV, kV, doc, pm', an, cdv, ct, osl, rfl, lk, hcd, hD, hK⟩ := F.ex
  rcases hD with ⟨_, rfl⟩ | ⟨e, _⟩
  · exact ⟨fun s us ws X l1 l2 => .of_eq (h kV doc pm' an cdv ct us ws l1 l2), fun r1 r2 => pick_vals (r1.append r2) pm⟩
  · exact absurd rfl e
structure QK (X : Cx) (E : XK) (kws : List Keyword) (da : DA) : Prop where
  ex : ∃ ta, PK X kws ta ∧ SimA X.K E ta da
def dCallK (n m : Nat) (pm : List Nat) (f : Fn) (a k : DA) : DE := fun Γ μ => (a Γ μ).bind fun xs μ1 => (k Γ μ1).bind fun zs μ2 => if xs.length = n ∧ zs.length = m then f (pick pm (xs ++ zs)) μ2 else .stk
section
variable {X : Cx} {E : XK} {e : Expr} {es : List Expr} {kws : List Keyword} {de : DE} {da dk : DA} {pos p kpos : Pos} {nm : Option Str}
theorem qk_nil : QK X E [] daNil := ⟨_, pk_nil, sim_nil⟩
theorem qk_cons (ha : QE X E e de) (hr : QK X E kws dk) : QK X E (⟨nm, e, kpos⟩ :: kws) (daCons de dk) := by
  obtain ⟨te, a1, a2⟩ := ha.ex
  obtain ⟨ta, b1, b2⟩ := hr.ex
  exact ⟨_, pk_cons a1 b1, sim_cons a2 b2⟩
theorem sim_callK {K : PySem.W.Frag} {n m : Nat} {pm : List Nat} {f : Fn} {ta tk : TA} (ha : SimA K E ta da) (hk : SimA K E tk dk) : SimE K E (tCallN n m (spM K f) (fun vs zs => pick pm (vs ++ zs)) E ta tk) (dCallK n m pm f da dk) := by
  intro ρ F H Γ μ σ k s Q h
  refine ha ρ F H Γ μ σ k s _ ((WpR.bind h).mono (fun xs μ1 q => ?_) fun _ _ q => q)
  intro ρ1 F1 H1 vs n1 k1 r1
  refine hk ρ1 F1 H1 Γ μ1 σ k1 (s.nx n1) _ ((WpR.bind q).mono (fun zs μ2 q => ?_) fun _ _ q => XP.nx n1 q)
  intro ρ2 F2 H2 ws n2 k2 r2
  have nn := n1.trans n2
  split at q
  · rename_i hl
    exact ⟨by rw [r1.length]; exact hl.1, by rw [r2.length]; exact hl.2, ρ2, F2, μ2, _, k2, pick_dn ((r1.nx n2).append r2) pm, q.mono (fun d μ2 q => QV.nx nn q) fun _ _ q => XP.nx nn q⟩
  · exact False.elim q
theorem q_callK {x : Str} {j n mm : Nat} {ks : List Str} {pm : List Nat} {m : Fn} (G : FnK X.prog X.w X.K X.mg X.base x j n ks pm m) (hr : RoomG j X.A) (hp : Passes (L2.CX X.prog X.w) X E) (ha : QA X E (e :: es) da) (hk : QK X E kws dk) (hg : Gl X x := by rfl)
    (hall : (backToKw pos (keywordEach kws X.env)).all (·.1.isSome) = true := by rfl) (hks : (backToKw pos (keywordEach kws X.env)).filterMap (·.1) = ks := by rfl) (hmm : ks.length = mm := by rfl)
    (hdb : (x == ("__debug__" : Str)) = false := by decide) (he : starEach (e :: es) X.env = (false, eval e X.env) :: starEach es X.env := by rfl)
    (hpl : ((backTo pos (starEach (e :: es) X.env)).any (·.1) || (backToKw pos (keywordEach kws X.env)).any (·.1.isNone)) = false := by rfl) :
    QE X E (.Call (.Name x p) (e :: es) kws pos) (dCallK n mm pm m da dk) := by
  subst hmm
  obtain ⟨f, fd, ps, h1, h2, h3, h4⟩ := G.ex
  obtain ⟨ta, a1, a2⟩ := ha.ex
  obtain ⟨tk, b1, b2⟩ := hk.ex
  exact ⟨_, pe_callGN h4 hr hg h1 h2 h3 hp a1 b1 hall hks hdb he hpl, sim_callK a2 b2⟩
theorem q_callK0 {x : Str} {j mm : Nat} {ks : List Str} {pm : List Nat} {m : Fn} (G : FnK X.prog X.w X.K X.mg X.base x j 0 ks pm m) (hr : RoomG j X.A) (hp : Passes (L2.CX X.prog X.w) X E) (hk : QK X E kws dk) (hg : Gl X x := by rfl)
    (hall : (backToKw pos (keywordEach kws X.env)).all (·.1.isSome) = true := by rfl) (hks : (backToKw pos (keywordEach kws X.env)).filterMap (·.1) = ks := by rfl) (hmm : ks.length = mm := by rfl)
    (hdb : (x == ("__debug__" : Str)) = false := by decide) (hpl : ((backTo pos (starEach [] X.env)).any (·.1) || (backToKw pos (keywordEach kws X.env)).any (·.1.isNone)) = false := by rfl) :
    QE X E (.Call (.Name x p) [] kws pos) (dCallK 0 mm pm m daNil dk) := by
  subst hmm
  obtain ⟨f, fd, ps, h1, h2, h3, h4⟩ := G.ex
  obtain ⟨tk, b1, b2⟩ := hk.ex
  exact ⟨_, pe_callGN0 h4 hr hg h1 h2 h3 hp b1 hall hks hdb hpl, sim_callK sim_nil b2⟩
end

/-! ### methods of lists that change them -/
def placeL (μ : Mu) (d : D) : Option (Nat × List D) := match d with
  | .loc n => match μ[n]? with
    | some (.lst ds) => some (n, ds)
    | _ => none
  | _ => none
theorem placeL_ok {K : PySem.W.Frag} {ρ : List Addr} {F H : Hp} {μ : Mu} {v : V} {d : D} {n : Nat} {ds : List D} (k : HpOk K ρ μ F H) (r : Dn K ρ F v d) (h : placeL μ d = some (n, ds)) : ∃ a vs, v = .ref a ∧ ρ[n]? = some a ∧ μ[n]? = some (.lst ds) ∧ F a = none ∧ H a = some (.lst vs) ∧ DnAll K ρ F vs ds := by
  unfold placeL at h
  split at h
  · rename_i m
    split at h
    · rename_i ds' em
      cases h
      cases r with
      | @loc a _ e =>
        obtain ⟨hf, vs, e1, e2⟩ := k.mu n a _ e em
        exact ⟨a, vs, rfl, e, em, hf, e1, e2⟩
    · cases h
  · cases h
def dAppend (o e : DE) : DE := fun Γ μ => (o Γ μ).bind fun x μ1 => match placeL μ1 x with
  | some _ => (e Γ μ1).bind fun d μ2 => match placeL μ2 x with
    | some (n, ds) => if ds.length < 1000000 then .ok .non (μ2.set n (.lst (ds ++ [d]))) else .stk
    | none => .stk
  | none => .stk
def dExtend (o e : DE) : DE := fun Γ μ => (o Γ μ).bind fun x μ1 => match placeL μ1 x with
  | some _ => (e Γ μ1).bind fun d μ2 => match placeL μ2 x, seqL μ2 d with
    | some (n, ds), some es => if ds.length + es.length ≤ 1000000 then .ok .non (μ2.set n (.lst (ds ++ es))) else .stk
    | _, _ => .stk
  | none => .stk
section
variable {X : Cx} {E : XK} {o e : Expr} {do_ de : DE} {apos cpos : Pos}
theorem q_append (ho : QE X E o do_) (he : QE X E e de)
    (hbase : attributeBase o "append" X.env (eval o X.env) = eval o X.env := by rfl)
    (hfew : ((backTo cpos (starEach (e :: []) X.env)).all (fun x => !x.1) && (backToKw cpos (keywordEach [] X.env)).all (fun x => x.1.isSome)
      && decide ((e :: []).length + ([] : List Keyword).length + (if ([] : List Keyword).isEmpty then 0 else 1) < 30)) = true := by rfl)
    (hline : (apos.endLine == cpos.line) = true := by rfl) (hs : starEach (e :: []) X.env = (false, eval e X.env) :: starEach [] X.env := by rfl) (hplain : (backTo cpos (starEach [] X.env)).any (·.1) = false := by rfl) :
    QE X E (.Call (.Attribute o "append" apos) [e] [] cpos) (dAppend do_ de) := by
  obtain ⟨to, o1, o2⟩ := ho.ex
  obtain ⟨te, e1, e2⟩ := he.ex
  refine ⟨_, pe_bm PySem.F.plainAttrs_list PySem.F.slot_list_append PySem.F.type_list_append mt_append o1 (pa_cons e1 pa_nil hs) hbase hfew hline hs hplain, ?_⟩
  intro ρ F H Γ μ σ k s Q h
  refine o2 ρ F H Γ μ σ k s _ ((WpR.bind h).mono (fun x μ1 q => ?_) fun _ _ q => q)
  intro ρ1 F1 H1 v n1 k1 r1
  split at q
  · rename_i nd hp
    obtain ⟨a, vs, rfl, _, _, _, hv, _⟩ := placeL_ok k1 r1 hp
    refine ⟨.inl ⟨rfl, vs, SqL.of hv⟩, ?_⟩
    refine e2 ρ1 F1 H1 Γ μ1 σ k1 (s.nx n1) _ ((WpR.bind q).mono (fun d μ2 q => ?_) fun _ _ q => XP.nx n1 q)
    intro ρ2 F2 H2 w n2 k2 r2
    split at q
    · rename_i n ds hp2
      split at q
      · rename_i hl
        obtain ⟨a', vs2, e3, er, em, hf, hv2, rv2⟩ := placeL_ok k2 (r1.nx n2) hp2
        cases e3
        have k3 := k2.write (o := .lst (vs2 ++ [w])) (m := .lst (ds ++ [d])) er hf ⟨hf, _, upd_same, rv2.append (.cons r2 .nil)⟩
        have n3 := Nx.write_ (o := .lst (vs2 ++ [w])) (F := F2) (H := H2) er hf (by rw [hv2]; exact Option.some_ne_none _)
        exact ⟨a, vs2, w, rfl, rfl, hv2, by rw [rv2.length]; exact lt_million hl, q ρ2 F2 _ _ ((n1.trans n2).trans n3) k3 .non⟩
      · exact False.elim q
    · exact False.elim q
  · exact False.elim q
def rExtR : V → List V → Hp → VK → Prop := fun x vs H Q => ∃ l b xs zs, x = .ref l ∧ vs = [.ref b] ∧ H l = some (.lst xs) ∧ Rd H b (.lst zs) ∧ xs.length + zs.length ≤ sizeLine ∧ Q .non (upd H l (.lst (xs ++ zs)))
theorem mt_extR : MtM X "list.extend" rExtR := by
  intro pins s σ H x vs v us Q I rx rv h
  obtain ⟨l, b, xs, zs, rfl, rfl, hH, hB, hz, q⟩ := h
  cases rx
  obtain ⟨u, rfl, ru⟩ := rv.one
  cases ru
  obtain ⟨z, its, n, r, hl, e⟩ := I.lstM hH
  obtain ⟨z2, its2, n2, r2, e2⟩ := hB.ok I.hok
  have hl2 := r2.length
  have hsz : its.toArray.size + its2.toArray.size ≤ sizeLine := by rw [List.size_toArray, List.size_toArray]; omega
  have hlong : ¬ (!its.toArray.isEmpty && Builtin.List.listTooLong (its.toArray.size + its2.toArray.size)) = true := by
    rw [notLongL hsz, Bool.and_false]
    exact Bool.false_ne_true
  refine call_meets F.slot_list_extend ⟨_, e, rfl⟩ F.entry_list_extend (F.args_list_extend_2 _ _)
    (AutoSeq1.list_extend_list_list_0 l its.toArray n b its2.toArray n2 hlong (by simp only [List.size_toArray] at hsz ⊢; omega) (by simp only [List.size_toArray] at hsz ⊢; omega)) ⟨e, e2, ?_⟩
  refine ⟨.non, _, I.lset (its' := its ++ its2) hH e (by simp) (r.append r2) ?_, rfl, q⟩
  rw [List.length_append]
  omega
theorem q_extend (ho : QE X E o do_) (he : QE X E e de)
    (hbase : attributeBase o "extend" X.env (eval o X.env) = eval o X.env := by rfl)
    (hfew : ((backTo cpos (starEach (e :: []) X.env)).all (fun x => !x.1) && (backToKw cpos (keywordEach [] X.env)).all (fun x => x.1.isSome)
      && decide ((e :: []).length + ([] : List Keyword).length + (if ([] : List Keyword).isEmpty then 0 else 1) < 30)) = true := by rfl)
    (hline : (apos.endLine == cpos.line) = true := by rfl) (hs : starEach (e :: []) X.env = (false, eval e X.env) :: starEach [] X.env := by rfl) (hplain : (backTo cpos (starEach [] X.env)).any (·.1) = false := by rfl) :
    QE X E (.Call (.Attribute o "extend" apos) [e] [] cpos) (dExtend do_ de) := by
  obtain ⟨to, o1, o2⟩ := ho.ex
  obtain ⟨te, e1, e2⟩ := he.ex
  refine ⟨_, pe_bm PySem.F.plainAttrs_list PySem.F.slot_list_extend PySem.F.type_list_extend mt_extR o1 (pa_cons e1 pa_nil hs) hbase hfew hline hs hplain, ?_⟩
  intro ρ F H Γ μ σ k s Q h
  refine o2 ρ F H Γ μ σ k s _ ((WpR.bind h).mono (fun x μ1 q => ?_) fun _ _ q => q)
  intro ρ1 F1 H1 v n1 k1 r1
  split at q
  · rename_i nd hp
    obtain ⟨a, vs, rfl, _, _, _, hv, _⟩ := placeL_ok k1 r1 hp
    refine ⟨.inl ⟨rfl, vs, SqL.of hv⟩, ?_⟩
    refine e2 ρ1 F1 H1 Γ μ1 σ k1 (s.nx n1) _ ((WpR.bind q).mono (fun d μ2 q => ?_) fun _ _ q => XP.nx n1 q)
    intro ρ2 F2 H2 w n2 k2 r2
    split at q
    · rename_i n ds es hp2 hs2
      split at q
      · rename_i hl
        obtain ⟨a', vs2, e3, er, em, hf, hv2, rv2⟩ := placeL_ok k2 (r1.nx n2) hp2
        cases e3
        obtain ⟨b, ws, rfl, hw, rw'⟩ := seqL_ok k2 r2 hs2
        have k3 := k2.write (o := .lst (vs2 ++ ws)) (m := .lst (ds ++ es)) er hf ⟨hf, _, upd_same, rv2.append rw'⟩
        have n3 := Nx.write_ (o := .lst (vs2 ++ ws)) (F := F2) (H := H2) er hf (by rw [hv2]; exact Option.some_ne_none _)
        exact ⟨a, b, vs2, ws, rfl, rfl, hv2, hw, by rw [rv2.length, rw'.length]; exact le_million hl, q ρ2 F2 _ _ ((n1.trans n2).trans n3) k3 .non⟩
      · exact False.elim q
    · exact False.elim q
  · exact False.elim q

/-! ### texts -/
def strsOf : List D → Option (List Str)
  | [] => some []
  | .str x :: ds => (strsOf ds).map (x :: ·)
  | _ => none
theorem strsOf_ok {K : PySem.W.Frag} {ρ : List Addr} {F : Hp} : ∀ {ds : List D} {vs : List V} {ns : List Str}, strsOf ds = some ns → DnAll K ρ F vs ds → vs = ns.map V.str
  | [], _, _, h, r => by cases h; cases r; rfl
  | .str i :: ds, _, _, h, r => by
    cases r with
    | cons r1 r2 =>
      have h : (strsOf ds).map (i :: ·) = some _ := h
      cases e : strsOf ds with
      | none => rw [e] at h; cases h
      | some ns =>
        rw [e] at h
        cases h
        cases r1
        rw [strsOf_ok e r2]
        rfl
  | .non :: _, _, _, h, _ => by cases h
  | .bl _ :: _, _, _, h, _ => by cases h
  | .int _ :: _, _, _, h, _ => by cases h
  | .tup _ :: _, _, _, h, _ => by cases h
  | .lst _ :: _, _, _, h, _ => by cases h
  | .scr _ :: _, _, _, h, _ => by cases h
  | .ins _ _ :: _, _, _, h, _ => by cases h
  | .slt _ _ :: _, _, _, h, _ => by cases h
  | .dK _ :: _, _, _, h, _ => by cases h
  | .loc _ :: _, _, _, h, _ => by cases h
  | .glo _ :: _, _, _, h, _ => by cases h
  | .ty _ :: _, _, _, h, _ => by cases h
theorem strs_dn {K : PySem.W.Frag} {ρ : List Addr} {F : Hp} : ∀ ns : List Str, DnAll K ρ F (ns.map V.str) (ns.map D.str)
  | [] => .nil
  | n :: ns => .cons (.str n) (strs_dn ns)
/-- sep.join(list | tuple of texts) -/
def fJoin : Mu → D → D → Option D := fun μ x y => match x with
  | .str a => match seqA μ y with
    | some ds => match strsOf ds with
      | some ys => if (ys.map (·.length)).sum + ys.length * a.length ≤ 1000000 then some (.str (Txt.join a ys)) else none
      | none => none
    | none => none
  | _ => none
def isStr : D → Bool
  | .str _ => true
  | _ => false
def dStrM (f : Mu → D → D → Option D) (o e : DE) : DE := fun Γ μ => (o Γ μ).bind fun x μ1 => match isStr x with
  | true => (e Γ μ1).bind fun y μ2 => R.of μ2 (f μ2 x y)
  | false => .stk
def StrS (K : PySem.W.Frag) (r : V → List V → Hp → VK → Prop) (f : Mu → D → D → Option D) : Prop := ∀ (ρ : List Addr) (F H : Hp) (μ : Mu) (v w : V) (d e z : D), HpOk K ρ μ F H → Dn K ρ F v d → Dn K ρ F w e → f μ d e = some z → ∀ Q : VK, QV K ρ F H Q z μ → r v [w] H Q
theorem sim_m1 {K : PySem.W.Frag} {r : V → List V → Hp → VK → Prop} {f : Mu → D → D → Option D} {to te : TE} (hr : StrS K r f) (ho : SimE K E to do_) (he : SimE K E te de) : SimE K E (tM1 r to te) (dStrM f do_ de) := by
  intro ρ F H Γ μ σ k s Q h
  refine ho ρ F H Γ μ σ k s _ ((WpR.bind h).mono (fun x μ1 q => ?_) fun _ _ q => q)
  intro ρ1 F1 H1 v n1 k1 r1
  cases r1 with
  | str a =>
    refine ⟨⟨a, rfl⟩, ?_⟩
    refine he ρ1 F1 H1 Γ μ1 σ k1 (s.nx n1) _ ((WpR.bind (show WpR ((de Γ μ1).bind fun y μ2 => R.of μ2 (f μ2 (.str a) y)) _ _ from q)).mono (fun y μ2 q => ?_) fun _ _ q => XP.nx n1 q)
    intro ρ2 F2 H2 w n2 k2 r2
    obtain ⟨z, ez, q⟩ := q.of
    exact hr ρ2 F2 H2 μ2 _ w _ y z k2 (.str a) r2 ez Q (QV.nx (n1.trans n2) q)
  | _ => exact False.elim q
theorem q_join (ho : QE X E o do_) (he : QE X E e de) (hs : starEach [e] X.env = [(false, eval e X.env)] := by rfl) (hbase : attributeBase o "join" X.env (eval o X.env) = eval o X.env := by rfl) (hline : (apos.endLine == cpos.line) = true := by rfl) :
    QE X E (.Call (.Attribute o "join" apos) [e] [] cpos) (dStrM fJoin do_ de) := by
  obtain ⟨to, o1, o2⟩ := ho.ex
  obtain ⟨te, e1, e2⟩ := he.ex
  refine ⟨_, pe_join o1 e1 hs hbase hline, sim_m1 ?_ o2 e2⟩
  intro ρ F H μ v w d e z k rv rw' ez Q q
  unfold fJoin at ez
  split at ez
  · rename_i a
    cases hs : seqA μ e with
    | none => rw [hs] at ez; cases ez
    | some ds =>
      cases hy : strsOf ds with
      | none => simp only [hs, hy] at ez; cases ez
      | some ys =>
        simp only [hs, hy] at ez
        have ez : (if (ys.map (·.length)).sum + ys.length * a.length ≤ 1000000 then some (D.str (Txt.join a ys)) else none) = some z := ez
        split at ez
        · rename_i hl
          cases ez
          cases rv
          obtain ⟨p, vs, rfl, h1, h2⟩ := seqA_ok k rw' hs
          rw [strsOf_ok hy h2] at h1
          exact ⟨a, p, ys, rfl, rfl, h1, Nat.le_trans hl (by decide), q ρ F H _ Nx.refl k (.str _)⟩
        · cases ez
  · cases ez
/-- s.split(sep) -/
def fSplit : Mu → D → D → Option D := fun _ x y => match x, y with
  | .str a, .str b => if b.length ≠ 0 ∧ a.length ≤ 1000000 then some (.lst ((Txt.split a b).map .str)) else none
  | _, _ => none
theorem q_split (ho : QE X E o do_) (he : QE X E e de) (hs : starEach [e] X.env = [(false, eval e X.env)] := by rfl) (hbase : attributeBase o "split" X.env (eval o X.env) = eval o X.env := by rfl) (hline : (apos.endLine == cpos.line) = true := by rfl) :
    QE X E (.Call (.Attribute o "split" apos) [e] [] cpos) (dStrM fSplit do_ de) := by
  obtain ⟨to, o1, o2⟩ := ho.ex
  obtain ⟨te, e1, e2⟩ := he.ex
  refine ⟨_, pe_split o1 e1 hs hbase hline, sim_m1 ?_ o2 e2⟩
  intro ρ F H μ v w d e z k rv rw' ez Q q
  unfold fSplit at ez
  split at ez
  · rename_i a b
    split at ez
    · rename_i hl
      cases ez
      cases rv
      cases rw'
      have := million
      refine ⟨a, b, rfl, rfl, by simp [hl.1], Nat.le_trans (show a.length + 2 ≤ 1000002 by omega) (by decide), fun p hp => ?_⟩
      obtain ⟨n2, k2, r2⟩ := new_lst k (strs_dn (Txt.split a b)) hp
      exact q _ _ _ _ n2 k2 r2
    · cases ez
  · cases ez
end
end Ar

set_option Elab.async false
set_option linter.all false
set_option maxRecDepth 100000
set_option maxHeartbeats 2000000
/-! Ar10: the head: a Hook with facts of one's own; the law's end -/
namespace Ar
open PySem PySem.Spec PyProof.Rows L2

def obsX (fa : List He.Fa) (fn : List He.DefD) (ex : PySem.W.Frag → Bool) (K : PySem.W.Frag) : He.AlD := (((fa.all fun f => f.ok K) && fn.all fun d => d.ok K) && ex K, fn.map fun d => He.fnW K d.at_)
def SaysX (fa : List He.Fa) (fn : List He.DefD) (ex : PySem.W.Frag → Bool) (K : PySem.W.Frag) : Prop := obsX fa fn ex K = He.valD fn
def obsXG (n : Nat) (fa : List He.Fa) (fn : List He.DefD) (ex : PySem.W.Frag → Bool) (g : Addr → Option Obj) : He.AlD := obsX fa fn ex (He.frG g (He.asD g n))
def hookX (n : Nat) (fa : List He.Fa) (fn : List He.DefD) (ex : PySem.W.Frag → Bool) : PySem.W.Hook where
  α := He.AlD
  obs := fun s => obsXG n fa fn ex s.heap.get?
  val := fun _ => He.valD fn
  says := fun _ h => ∃ K : PySem.W.Frag, K.In h ∧ SaysX fa fn ex K
  of := fun _ _ e => ⟨_, He.frG_in, e⟩
  keeps := fun _ _ _ ⟨K, hK, c⟩ k => ⟨K, PySem.W.Frag.In.keeps hK k, c⟩
theorem obsXG_eq {n : Nat} {fa : List He.Fa} {fn : List He.DefD} {ex : PySem.W.Frag → Bool} {g : Addr → Option Obj} {s : Shared} (h : ∀ a, g a = s.heap.get? a) : obsXG n fa fn ex g = (hookX n fa fn ex).obs s := by
  have e : g = s.heap.get? := funext h
  rw [e] <;> rfl
theorem SaysX.both {fa : List He.Fa} {fn : List He.DefD} {ex : PySem.W.Frag → Bool} {K : PySem.W.Frag} (c : SaysX fa fn ex K) : He.SaysD fa fn K ∧ ex K = true := by
  unfold SaysX obsX He.valD at c
  have c1 := congrArg (fun z : He.AlD => z.1) c
  have c2 := congrArg (fun z : He.AlD => z.2) c
  obtain ⟨c3, c4⟩ := He.ba c1
  exact ⟨Prod.ext c3 c2, c4⟩
/-- a module's name as data -/
structure GloC (K : PySem.W.Frag) (mg : Str → Option Value) (x : Str) (d : D) : Prop where
  ex : ∃ v u, mg x = some u ∧ RelV v u ∧ ∀ ρ F, Dn K ρ F v d
theorem GloC.v {X : Cx} {x : Str} {d : D} (h : GloC X.K X.mg x d) : GloV X x d := ⟨h.ex⟩
def dvD : He.Dv → Option D
  | .non => some .non
  | .bl b => some (.bl b)
  | .int i => some (.int i)
  | .str x => some (.str x)
  | .ty n => some (.ty n)
  | .glo x => some (.glo x)
  | _ => none
theorem dvD_ok {K : PySem.W.Frag} {x : He.Dv} {d : D} (h : dvD x = some d) (ρ : List Addr) (F : Hp) : Dn K ρ F (x.v K) d := by
  cases x with
  | non => cases h; exact .non
  | bl b => cases h; exact .bl b
  | int i => cases h; exact .int i
  | str x => cases h; exact .str x
  | ty n => cases h; exact .ty n
  | glo x => cases h; exact .glo x
  | byt b => cases h
  | flt b => cases h
  | adr p => cases h
def dvDs : List He.Dv → Option (List D)
  | [] => some []
  | x :: xs => match dvD x, dvDs xs with
    | some d, some ds => some (d :: ds)
    | _, _ => none
theorem dvDs_ok {K : PySem.W.Frag} (ρ : List Addr) (F : Hp) : ∀ {xs : List He.Dv} {ds : List D}, dvDs xs = some ds → DnAll K ρ F (xs.map (He.Dv.v K)) ds
  | [], _, h => by cases h; exact .nil
  | x :: xs, ds, h => by
    unfold dvDs at h
    split at h
    · rename_i d ds' e1 e2
      cases h
      exact .cons (dvD_ok e1 ρ F) (dvDs_ok ρ F e2)
    · cases h
theorem glo_tup {K : PySem.W.Frag} {h : Heap} {mg : Str → Option Value} {x : Str} {vs : List He.Dv} {ds : List D} (X : K.In h) (G : h.Ns mainGlobals mg) (c1 : (He.Fa.glo x).ok K = true) (c2 : He.tupB K x vs = true) (e : dvDs vs = some ds) : GloC K mg x (.tup ds) :=
  ⟨.ref (He.ga K x), .ref (He.ga K x), He.glo_ok X G c1, rfl, fun ρ F => .tup (He.tupB_ok c2 F) (dvDs_ok ρ F e)⟩
theorem glo_int {K : PySem.W.Frag} {h : Heap} {mg : Str → Option Value} {x : Str} {i : Int} (X : K.In h) (G : h.Ns mainGlobals mg) (c1 : (He.Fa.int x i).ok K = true) : GloC K mg x (.int i) := by
  obtain ⟨t, e⟩ := He.int_ok X G c1
  exact ⟨.int i, _, e, ⟨t, rfl⟩, fun ρ F => .int i⟩
theorem glo_str {K : PySem.W.Frag} {h : Heap} {mg : Str → Option Value} {x z : Str} (X : K.In h) (G : h.Ns mainGlobals mg) (c1 : (He.Fa.str x z).ok K = true) : GloC K mg x (.str z) := by
  obtain ⟨t, e⟩ := He.str_ok X G c1
  exact ⟨.str z, _, e, ⟨t, rfl⟩, fun ρ F => .str z⟩
/-- the law's last step: what the mirror says of the script -/
theorem law_end {K : PySem.W.Frag} {m : Fn} {n : Nat} (hm : ∀ ns : List Int, ns.length ≤ n → ∃ μ, m [.scr (ns.map .int)] [] = .ok (.bl true) μ) (H : Hp) (a : Addr) (ns : List Int) (hl : ns.length ≤ n) (hS : SqL K H a (ns.map V.int)) : spM K m [.ref a] H (fun v _ => v = .bl true) fun _ _ _ => False := by
  obtain ⟨μ, e⟩ := hm ns hl
  have hd : ∀ ns : List Int, DnAll K [] H (ns.map V.int) (ns.map D.int) := by
    intro ns
    induction ns with
    | nil => exact .nil
    | cons i ns ih => exact .cons (.int i) ih
  refine ⟨[], H, [], [.scr (ns.map .int)], ⟨Sub.refl _, rfl, List.nodup_nil, fun n a o e => by simp at e⟩, .cons (.scr hS (hd ns)) .nil, ?_⟩
  rw [e]
  intro ρ F H' v _ _ r
  cases r
  rfl
theorem cx_end {P : Program} {w : World} (H : Hp) (s : Shared) (e : Value) (s' : Shared) (h : L2.CX P w [] H s (fun _ _ _ => False) e s') : False := by
  obtain ⟨a, B, H', cls, d, _, _, _, _, _, _, _, z⟩ := h
  exact z
theorem walk {l : PySem.W.OpenLaw} {n k : Nat} {q : Program} {loose : List Str} {XP : (Str → Option Value) → Heap → Prop} {YP : World → Heap → Prop} {d : DefRec} {x : Str}
    (hn : l.most = some n) (hn2 : n ≤ sizeLine) (hdf : d.params.defaults = []) (hr : RoomG k callerA)
    (F : ∀ (w : World) (mg : Str → Option Value) (fa : Addr) (h : Heap), YP w h → h.Ns mainGlobals mg → mg d.name = some (.ref fa) →
      ∃ (K : PySem.W.Frag) (fd : FuncData) (m : Fn), K.In h ∧ (∀ (s : Shared) (u : Value), BindsTo s fd ⟨[u], []⟩ [(x, u)]) ∧
        (∀ ns : List Int, ns.length ≤ n → ∃ μ, m [.scr (ns.map .int)] [] = .ok (.bl true) μ) ∧
        ∀ base : Heap, K.In base → base.Ns mainGlobals mg → Pm l.prog w K mg base (L2.CX l.prog w) k fa fd [x] (spM K m)) :
    PySem.W.WalkO q loose XP YP l.row.toRowW d [] (fun f vs => PySem.call f vs) := by
  refine Att.attach_call hn hdf fun w s₀ s₁ mg mb fa o pm cd doc a vs ns G Y ho hd hcd hmg hobj hints hlen hg => ?_
  obtain ⟨K, fd, m, KX, hb, hm, hF⟩ := F w mg fa _ Y G.T.g hmg
  exact law_callG KX G.T.g G.T.b G.T.builtins G.T.nolimit hg hobj hints (Nat.le_trans hlen hn2) hr hF hb (fun H hO hS => law_end hm H a ns hlen hS) fun H e s' => cx_end H s₁ e s'
/-- FnG from the def's datum -/
theorem fng {P : Program} {w : World} {K : PySem.W.Frag} {mg : Str → Option Value} {base : Heap} {x qual : Str} {params : Arguments} {body : List Stmt} {scope : Scope} {f : Addr} {fd : FuncData} {ps : List Str} {k : Nat} {m : Fn} (F : FunD K x qual params body scope [] [] f fd) (g : mg x = some (.ref f))
    (hb : ∀ (kV doc pm : Value) (an : Option Addr) (cdv ct : Value) (us : List Value), us.length = ps.length → bindArgs (PySem.W.fnOf x qual params body scope Value.none kV doc pm an cdv ct) { pos := us } = pure (ps.zip us))
    (ok : Pm P w K mg base (L2.CX P w) k f fd ps (spM K m)) : FnG P w K mg base x k m := ⟨f, fd, ps, g, F.kp, F.bindsN hb, ok⟩
theorem fnk {P : Program} {w : World} {K : PySem.W.Frag} {mg : Str → Option Value} {base : Heap} {x qual : Str} {params : Arguments} {body : List Stmt} {scope : Scope} {f : Addr} {fd : FuncData} {ps : List Str} {k : Nat} {m : Fn} (F : FunD K x qual params body scope [] [] f fd) (g : mg x = some (.ref f)) (n : Nat) (ks : List Str) (pm : List Nat)
    (h : ∀ (kV doc pm' : Value) (an : Option Addr) (cdv ct : Value) (us ws : List Value), us.length = n → ws.length = ks.length → bindArgs (PySem.W.fnOf x qual params body scope .none kV doc pm' an cdv ct) ⟨us, ks.zip ws⟩ = pure (ps.zip (pick pm (us ++ ws))))
    (ok : Pm P w K mg base (L2.CX P w) k f fd ps (spM K m)) : FnK P w K mg base x k n ks pm m := ⟨f, fd, ps, g, F.kp, kbn_of F n ks pm h, ok⟩
theorem blk {N : List Str} {sc scope : Scope} {own : List (Str × Nat)} (h1 : scope.kind = ScopeKind.function) (h2 : (scope.names.all fun y => decide (List.lookup y.1 scope.names = some y.2)) = true) (h3 : (own.all fun p => decide (N[p.2]? = some p.1)) = true)
    (h4 : (scope.names.all fun y => !decide (y.2 = NameKind.free) || (decide (List.lookup y.1 sc.names = some NameKind.cell) || decide (List.lookup y.1 sc.names = some NameKind.free))) = true)
    (h5 : (scope.names.all fun y => !(decide (y.2 = NameKind.local) || decide (y.2 = NameKind.cell)) || ((own.map (·.1)).contains y.1 || !N.contains y.1)) = true) : BlkOk N sc scope own := by
  refine ⟨h1, fun y hy => of_decide_eq_true (List.all_eq_true.mp h2 y hy), fun p hp => of_decide_eq_true (List.all_eq_true.mp h3 p hp), fun y hy hf => ?_, fun y hy hf => ?_⟩
  · have := List.all_eq_true.mp h4 y hy
    simp only [hf, decide_true, Bool.not_true, Bool.false_or, Bool.or_eq_true, decide_eq_true_eq] at this
    exact this
  · have := List.all_eq_true.mp h5 y hy
    have e : (decide (y.2 = NameKind.local) || decide (y.2 = NameKind.cell)) = true := by
      rcases hf with h | h <;> simp [h]
    rw [e] at this
    simp only [Bool.not_true, Bool.false_or, Bool.or_eq_true, Bool.not_eq_true', List.contains_iff_mem] at this
    rcases this with h | h
    · exact .inl h
    · refine .inr fun z => ?_
      have : N.contains y.1 = true := by simpa using z
      rw [h] at this
      cases this
end Ar

set_option Elab.async false
set_option linter.all false
set_option maxRecDepth 100000
set_option maxHeartbeats 2000000
/-! Ar11: what a combinator gives: rules that rewrite -/
namespace Ar
open PySem PySem.Spec PyProof.Rows L2

/-- what is wished of an exception; nothing is let if nothing is said -/
class ExW where
  X : ExK → Mu → Prop
instance (priority := low) xp0 : ExW := ⟨fun _ _ => False⟩
def Ok [x : ExW] {α : Type} (r : R α) (Q : α → Mu → Prop) : Prop := match r with
  | .ok a μ => Q a μ
  | .exc e μ => x.X e μ
  | .stk => False
def OkO {α : Type} (o : Option α) (Q : α → Prop) : Prop := match o with
  | some a => Q a
  | none => False
def OkS [x : ExW] (r : RS) (N B C : Gam → Mu → Prop) (T : D → Mu → Prop) : Prop := match r with
  | .nx Γ μ => N Γ μ
  | .bk Γ μ => B Γ μ
  | .ct Γ μ => C Γ μ
  | .rt d μ => T d μ
  | .exc e μ => x.X e μ
  | .stk => False
def SetG (Γ : Gam) (i : Nat) (d : D) (P : Gam → Prop) : Prop := P (Γ.set i (some d))
theorem setg0 {x : Option D} {G : Gam} {d : D} {P : Gam → Prop} : SetG (x :: G) 0 d P = P (some d :: G) := rfl
theorem setgS {x : Option D} {G : Gam} {i : Nat} {d : D} {P : Gam → Prop} : SetG (x :: G) (i + 1) d P = SetG G i d fun G' => P (x :: G') := rfl
def UnsetG (Γ : Gam) (i : Nat) (P : Gam → Prop) : Prop := P (Γ.set i none)
theorem unsetg0 {x : Option D} {G : Gam} {P : Gam → Prop} : UnsetG (x :: G) 0 P = P (none :: G) := rfl
theorem unsetgS {x : Option D} {G : Gam} {i : Nat} {P : Gam → Prop} : UnsetG (x :: G) (i + 1) P = UnsetG G i fun G' => P (x :: G') := rfl
def WipeG (Γ : Gam) (vs : List Nat) (P : Gam → Prop) : Prop := P (wipeG Γ vs)
theorem wipeg0 {Γ : Gam} {P : Gam → Prop} : WipeG Γ [] P = P Γ := rfl
theorem wipegS {Γ : Gam} {v : Nat} {vs : List Nat} {P : Gam → Prop} : WipeG Γ (v :: vs) P = WipeG Γ vs fun G => UnsetG G v P := rfl
def InitG (ds : List D) (M : Nat) (P : Gam → Prop) : Prop := P (ds.map some ++ List.replicate (M - ds.length) none)
theorem initg0 {P : Gam → Prop} : InitG [] 0 P = P [] := rfl
theorem initgN {M : Nat} {P : Gam → Prop} : InitG [] (M + 1) P = InitG [] M fun G => P (none :: G) := rfl
theorem initgS {d : D} {ds : List D} {M : Nat} {P : Gam → Prop} : InitG (d :: ds) (M + 1) P = InitG ds M fun G => P (some d :: G) := by
  unfold InitG
  rw [List.map_cons, List.length_cons, Nat.add_sub_add_right, List.cons_append]
def LenIs {α : Type} (ds : List α) (n : Nat) (P : Prop) : Prop := ds.length = n ∧ P
theorem lenis0 {α : Type} {P : Prop} : LenIs ([] : List α) 0 P = P := by unfold LenIs; simp
theorem lenisS {α : Type} {d : α} {ds : List α} {n : Nat} {P : Prop} : LenIs (d :: ds) (n + 1) P = LenIs ds n P := by unfold LenIs; simp
def LenLe {α : Type} (ds : List α) (n : Nat) (P : Prop) : Prop := ds.length ≤ n ∧ P
theorem lenle0 {α : Type} {n : Nat} {P : Prop} : LenLe ([] : List α) n P = P := by unfold LenLe; simp
theorem lenleS {α : Type} {d : α} {ds : List α} {n : Nat} {P : Prop} : LenLe (d :: ds) (n + 1) P = LenLe ds n P := by unfold LenLe; simp
theorem Ok.mono [ExW] {α : Type} {r : R α} {Q Q' : α → Mu → Prop} (h : Ok r Q) (i : ∀ a μ, Q a μ → Q' a μ) : Ok r Q' := by
  cases r with
  | ok a μ => exact i _ _ h
  | _ => exact h
theorem OkS.mono [ExW] {r : RS} {N B C N' B' C' : Gam → Mu → Prop} {T T' : D → Mu → Prop} (h : OkS r N B C T) (hn : ∀ a μ, N a μ → N' a μ) (hb : ∀ a μ, B a μ → B' a μ) (hc : ∀ a μ, C a μ → C' a μ) (ht : ∀ a μ, T a μ → T' a μ) : OkS r N' B' C' T' := by
  cases r with
  | nx a μ => exact hn _ _ h
  | bk a μ => exact hb _ _ h
  | ct a μ => exact hc _ _ h
  | rt a μ => exact ht _ _ h
  | exc _ _ => exact h
  | stk => exact h
/-- where nothing is raised, nothing is wished of it -/
theorem Ok.up [x : ExW] {α : Type} {r : R α} {Q : α → Mu → Prop} (h : @Ok xp0 α r Q) : Ok r Q := by
  cases r with
  | ok a μ => exact h
  | exc e μ => exact False.elim h
  | stk => exact h
theorem OkS.up [x : ExW] {r : RS} {N B C : Gam → Mu → Prop} {T : D → Mu → Prop} (h : @OkS xp0 r N B C T) : OkS r N B C T := by
  cases r with
  | exc e μ => exact False.elim h
  | _ => exact h
section
variable [x_ : ExW] {α β : Type} {Γ : Gam} {μ : Mu} {Q : D → Mu → Prop} {QB : Bool → Mu → Prop} {QL : List D → Mu → Prop} {QG_ : Gam → Mu → Prop} {QO_ : Option Int → Mu → Prop} {N B C : Gam → Mu → Prop} {T : D → Mu → Prop}
theorem ok_ok {a : α} {P : α → Mu → Prop} : Ok (.ok a μ) P = P a μ := rfl
theorem ok_stk {P : α → Mu → Prop} : Ok (.stk : R α) P = False := rfl
theorem ok_exc {e : ExK} {P : α → Mu → Prop} : Ok (.exc e μ : R α) P = x_.X e μ := rfl
theorem ok_bind {r : R α} {f : α → Mu → R β} {P : β → Mu → Prop} : Ok (r.bind f) P = Ok r fun a μ1 => Ok (f a μ1) P := by cases r <;> rfl
theorem ok_nox {r : R α} {P : α → Mu → Prop} : Ok r.nox P = @Ok xp0 α r P := by cases r <;> rfl
theorem ok_of {o : Option α} {P : α → Mu → Prop} : Ok (R.of μ o) P = OkO o fun a => P a μ := by cases o <;> rfl
theorem oko_some {a : α} {P : α → Prop} : OkO (some a) P = P a := rfl
theorem oko_none {P : α → Prop} : OkO (none : Option α) P = False := rfl
theorem oko_ite {c : Prop} [Decidable c] {a : α} {P : α → Prop} : OkO (if c then some a else none) P = (c ∧ P a) := by
  by_cases h : c
  · rw [if_pos h]; exact propext ⟨fun z => ⟨h, z⟩, fun z => z.2⟩
  · rw [if_neg h]; exact propext ⟨fun z => False.elim z, fun z => h z.1⟩
theorem oko_map {f : α → β} {o : Option α} {P : β → Prop} : OkO (o.map f) P = OkO o fun a => P (f a) := by cases o <;> rfl
theorem ok_ite {c : Prop} [Decidable c] {r : R α} {P : α → Mu → Prop} : Ok (if c then r else .stk) P = (c ∧ Ok r P) := by
  by_cases h : c
  · rw [if_pos h]; exact propext ⟨fun z => ⟨h, z⟩, fun z => z.2⟩
  · rw [if_neg h]; exact propext ⟨fun z => False.elim z, fun z => h z.1⟩
theorem oks_nx : OkS (.nx Γ μ) N B C T = N Γ μ := rfl
theorem oks_stk : OkS .stk N B C T = False := rfl
theorem oks_exc {e : ExK} : OkS (.exc e μ) N B C T = x_.X e μ := rfl
theorem oks_bk : OkS (.bk Γ μ) N B C T = B Γ μ := rfl
theorem oks_ct : OkS (.ct Γ μ) N B C T = C Γ μ := rfl
theorem oks_rt {d : D} : OkS (.rt d μ) N B C T = T d μ := rfl
theorem oks_then {r : R α} {f : α → Mu → RS} : OkS (r.thenS f) N B C T = Ok r fun a μ1 => OkS (f a μ1) N B C T := by cases r <;> rfl
theorem oks_thenN {r : RS} {f : Gam → Mu → RS} : OkS (r.thenN f) N B C T = OkS r (fun Γ μ => OkS (f Γ μ) N B C T) B C T := by cases r <;> rfl
theorem oks_ite {c : Prop} [Decidable c] {r s : RS} : OkS (if c then r else s) N B C T = if c then OkS r N B C T else OkS s N B C T := by split <;> rfl
/-! expressions -/
theorem ok_var0 {d : D} {G : Gam} : Ok (dVar 0 (some d :: G) μ) Q = Q d μ := rfl
theorem ok_varS {i : Nat} {x : Option D} {G : Gam} : Ok (dVar (i + 1) (x :: G) μ) Q = Ok (dVar i G μ) Q := rfl
theorem ok_c {d : D} : Ok (dC d Γ μ) Q = Q d μ := rfl
theorem ok_bin {f : Mu → D → D → Option D} {a b : DE} : Ok (dBin f a b Γ μ) Q = Ok (a Γ μ) fun x μ1 => Ok (b Γ μ1) fun y μ2 => OkO (f μ2 x y) fun z => Q z μ2 := by
  unfold dBin; simp only [ok_bind, ok_of]
theorem ok_un {f : Mu → D → Option D} {a : DE} : Ok (dUn f a Γ μ) Q = Ok (a Γ μ) fun x μ1 => OkO (f μ1 x) fun z => Q z μ1 := by
  unfold dUn; simp only [ok_bind, ok_of]
def OkB (d : D) (P : Bool → Prop) : Prop := match d with
  | .bl b => P b
  | _ => False
theorem okb {b : Bool} {P : Bool → Prop} : OkB (.bl b) P = P b := rfl
theorem ok_test {a : DE} : Ok (dTest a Γ μ) QB = Ok (a Γ μ) fun x μ1 => OkB x fun b => QB b μ1 := by
  unfold dTest; rw [ok_bind]; congr 1; funext x μ1; cases x <;> rfl
theorem ok_tru {a : DE} : Ok (dTru a Γ μ) QB = Ok (a Γ μ) fun x μ1 => OkO (truD μ1 x) fun b => QB b μ1 := by
  unfold dTru; simp only [ok_bind, ok_of]
theorem ok_and {t u : DT} : Ok (dAnd t u Γ μ) QB = Ok (t Γ μ) fun c μ1 => if c = true then Ok (u Γ μ1) QB else QB false μ1 := by
  unfold dAnd; rw [ok_bind]; congr 1; funext c μ1; cases c <;> rfl
theorem ok_or {t u : DT} : Ok (dOr t u Γ μ) QB = Ok (t Γ μ) fun c μ1 => if c = true then QB true μ1 else Ok (u Γ μ1) QB := by
  unfold dOr; rw [ok_bind]; congr 1; funext c μ1; cases c <;> rfl
theorem ok_not {t : DT} : Ok (dNot t Γ μ) QB = Ok (t Γ μ) fun c μ1 => QB (!c) μ1 := by
  unfold dNot; simp only [ok_bind, ok_ok]
theorem ok_andV {x y : DE} : Ok (dAndV x y Γ μ) Q = Ok (x Γ μ) fun c μ1 => OkB c fun b => if b = true then Ok (y Γ μ1) Q else Q (.bl false) μ1 := by
  unfold dAndV; rw [ok_bind]; congr 1; funext c μ1
  cases c with
  | bl b => cases b <;> rfl
  | _ => rfl
theorem ok_orV {x y : DE} : Ok (dOrV x y Γ μ) Q = Ok (x Γ μ) fun c μ1 => OkB c fun b => if b = true then Q (.bl true) μ1 else Ok (y Γ μ1) Q := by
  unfold dOrV; rw [ok_bind]; congr 1; funext c μ1
  cases c with
  | bl b => cases b <;> rfl
  | _ => rfl
theorem ok_notV {x : DE} : Ok (dNotV x Γ μ) Q = Ok (x Γ μ) fun c μ1 => OkB c fun b => Q (.bl (!b)) μ1 := by
  unfold dNotV; rw [ok_bind]; congr 1; funext c μ1
  cases c with
  | bl b => cases b <;> rfl
  | _ => rfl
theorem ok_if {t : DT} {x y : DE} : Ok (dIf t x y Γ μ) Q = Ok (t Γ μ) fun c μ1 => if c = true then Ok (x Γ μ1) Q else Ok (y Γ μ1) Q := by
  unfold dIf; rw [ok_bind]; congr 1; funext c μ1; cases c <;> rfl
theorem ok_nil : Ok (daNil Γ μ) QL = QL [] μ := rfl
theorem ok_cons {e : DE} {r : DA} : Ok (daCons e r Γ μ) QL = Ok (e Γ μ) fun x μ1 => Ok (r Γ μ1) fun xs μ2 => QL (x :: xs) μ2 := by
  unfold daCons; simp only [ok_bind, ok_ok]
theorem ok_tup {a : DA} : Ok (dTup a Γ μ) Q = Ok (a Γ μ) fun xs μ1 => LenLe xs 1000000 (Q (.tup xs) μ1) := by
  unfold dTup LenLe; simp only [ok_bind, ok_ite, ok_ok]
theorem ok_lst {a : DA} : Ok (dLst a Γ μ) Q = Ok (a Γ μ) fun xs μ1 => LenLe xs 1000000 (Q (.lst xs) μ1) := by
  unfold dLst LenLe; simp only [ok_bind, ok_ite, ok_ok]
theorem ok_lstM {a : DA} : Ok (dLstM a Γ μ) Q = Ok (a Γ μ) fun xs μ1 => LenLe xs 1000000 (Q (.loc μ1.length) (μ1 ++ [.lst xs])) := by
  unfold dLstM LenLe; simp only [ok_bind, ok_ite, ok_ok]
theorem ok_fn {f : Mu → List D → Option D} {a : DA} : Ok (dFn f a Γ μ) Q = Ok (a Γ μ) fun ds μ1 => OkO (f μ1 ds) fun z => Q z μ1 := by
  unfold dFn; simp only [ok_bind, ok_of]
theorem ok_call {m : Fn} {a : DA} : Ok (dCall m a Γ μ) Q = Ok (a Γ μ) fun ds μ1 => Ok (m ds μ1) Q := by
  unfold dCall; simp only [ok_bind]
theorem ok_callK {n m : Nat} {pm : List Nat} {f : Fn} {a k : DA} : Ok (dCallK n m pm f a k Γ μ) Q = Ok (a Γ μ) fun xs μ1 => Ok (k Γ μ1) fun zs μ2 => LenIs xs n (LenIs zs m (Ok (f (pick pm (xs ++ zs)) μ2) Q)) := by
  unfold dCallK LenIs; simp only [ok_bind, ok_ite, and_assoc]
theorem ok_noPart : Ok (dNoPart Γ μ) QO_ = QO_ none μ := rfl
def OkI (d : D) (P : Int → Prop) : Prop := match d with
  | .int b => P b
  | _ => False
theorem oki {i : Int} {P : Int → Prop} : OkI (.int i) P = P i := rfl
theorem ok_part {a : DE} : Ok (dPart a Γ μ) QO_ = Ok (a Γ μ) fun x μ1 => OkI x fun i => QO_ (some i) μ1 := by
  unfold dPart; rw [ok_bind]; congr 1; funext x μ1; cases x <;> rfl
theorem ok_sl {a : DE} {l h : DO} : Ok (dSl a l h Γ μ) Q = Ok (a Γ μ) fun x μ1 => Ok (l Γ μ1) fun lo μ2 => Ok (h Γ μ2) fun hi μ3 => OkO (fSl μ3 x lo hi) fun z => Q z μ3 := by
  unfold dSl; simp only [ok_bind, ok_of]
/-! statements -/
theorem oks_next : OkS (dsNext Γ μ) N B C T = N Γ μ := rfl
theorem oks_seq {s t : DS} : OkS (dSeq s t Γ μ) N B C T = OkS (s Γ μ) (fun Γ μ => OkS (t Γ μ) N B C T) B C T := by unfold dSeq; rw [oks_thenN]
theorem oks_drop {e : DE} : OkS (dDrop e Γ μ) N B C T = Ok (e Γ μ) fun _ μ1 => N Γ μ1 := by unfold dDrop; simp only [oks_then, oks_nx]
theorem oks_ret {e : DE} : OkS (dRet e Γ μ) N B C T = Ok (e Γ μ) T := by unfold dRet; simp only [oks_then, oks_rt]
theorem oks_retN : OkS (dRetN Γ μ) N B C T = T .non μ := rfl
theorem oks_break : OkS (dBreak Γ μ) N B C T = B Γ μ := rfl
theorem oks_cont : OkS (dCont Γ μ) N B C T = C Γ μ := rfl
theorem oks_never : OkS (dNever Γ μ) N B C T = False := rfl
theorem oks_if {c : DT} {s t : DS} : OkS (dIfS c s t Γ μ) N B C T = Ok (c Γ μ) fun b μ1 => if b = true then OkS (s Γ μ1) N B C T else OkS (t Γ μ1) N B C T := by
  unfold dIfS; rw [oks_then]; congr 1; funext b μ1; cases b <;> rfl
theorem oks_asg {e : DE} {g : DG} : OkS (dAsg e g Γ μ) N B C T = Ok (e Γ μ) fun d μ1 => Ok (g d Γ μ1) N := by unfold dAsg; simp only [oks_then, oks_nx]
theorem oks_set {i : Nat} {e : DE} : OkS (dSet i e Γ μ) N B C T = Ok (e Γ μ) fun d μ1 => SetG Γ i d fun G => N G μ1 := by unfold dSet SetG; simp only [oks_then, oks_nx]
theorem ok_gName {i : Nat} {d : D} : Ok (dgName i d Γ μ) N = SetG Γ i d fun G => N G μ := rfl
theorem ok_gNil : Ok (dgNil [] Γ μ) N = N Γ μ := rfl
theorem ok_gCons {g : DG} {gs : DGs} {d : D} {r : List D} : Ok (dgCons g gs (d :: r) Γ μ) N = Ok (g d Γ μ) fun Γ1 μ1 => Ok (gs r Γ1 μ1) N := by unfold dgCons; simp only [ok_bind]
theorem ok_gTup {n : Nat} {gs : DGs} {ds : List D} : Ok (dgTup n gs (.tup ds) Γ μ) N = LenIs ds n (Ok (gs ds Γ μ) N) := by unfold dgTup LenIs; simp only [ok_ite]
theorem ok_gSub {o i : DE} {d : D} : Ok (dgSub o i d Γ μ) N = Ok (o Γ μ) fun x μ1 => Ok (i Γ μ1) fun y μ2 => OkO (placeL μ2 x) fun p => OkI y fun j => OkO (ixN p.2.length j) fun m => N Γ (μ2.set p.1 (.lst (p.2.set m d))) := by
  unfold dgSub; simp only [ok_bind]
  congr 1; funext x μ1; congr 1; funext y μ2
  unfold placeL
  split
  · rename_i n j
    cases h : μ2[n]? with
    | none => simp [ok_stk, OkO, h]
    | some o =>
      cases o with
      | lst ds =>
        simp only [h, oko_some, oki]
        cases ixN ds.length j <;> rfl
      | _ => simp [ok_stk, OkO, h]
  · rename_i hx
    rw [ok_stk]
    cases x with
    | loc n =>
      cases y with
      | int j => exact absurd rfl (hx n j rfl)
      | _ =>
        cases h : μ2[n]? with
        | none => simp [OkO, h]
        | some o => cases o <;> simp [OkO, OkI, h]
    | _ => rfl
def OkL2 (ds : List D) (P : D → D → Prop) : Prop := match ds with
  | [x, y] => P x y
  | _ => False
def OkL3 (ds : List D) (P : D → D → D → Prop) : Prop := match ds with
  | [x, y, z] => P x y z
  | _ => False
theorem okl2 {x y : D} {P : D → D → Prop} : OkL2 [x, y] P = P x y := rfl
theorem okl3 {x y z : D} {P : D → D → D → Prop} : OkL3 [x, y, z] P = P x y z := rfl
theorem oks_par {i j : Nat} {a : DA} : OkS (dPar i j a Γ μ) N B C T = Ok (a Γ μ) fun ds μ1 => OkL2 ds fun x y => SetG Γ i x fun G => SetG G j y fun G => N G μ1 := by
  unfold dPar; rw [oks_then]; congr 1; funext ds μ1
  rcases ds with _ | ⟨x, _ | ⟨y, _ | ⟨z, r⟩⟩⟩ <;> rfl
theorem oks_par3 {i j l : Nat} {a : DA} : OkS (dPar3 i j l a Γ μ) N B C T = Ok (a Γ μ) fun ds μ1 => OkL3 ds fun x y z => SetG Γ i x fun G => SetG G j y fun G => SetG G l z fun G => N G μ1 := by
  unfold dPar3; rw [oks_then]; congr 1; funext ds μ1
  rcases ds with _ | ⟨x, _ | ⟨y, _ | ⟨z, _ | ⟨u, r⟩⟩⟩⟩ <;> rfl
def OkV (Γ : Gam) (i : Nat) (P : D → Prop) : Prop := match Γ[i]? with
  | some (some x) => P x
  | _ => False
theorem okv0 {d : D} {G : Gam} {P : D → Prop} : OkV (some d :: G) 0 P = P d := rfl
theorem okvS {x : Option D} {G : Gam} {i : Nat} {P : D → Prop} : OkV (x :: G) (i + 1) P = OkV G i P := rfl
theorem oks_aug {i : Nat} {f : Mu → D → D → Option D} {a : DE} : OkS (dAug i f a Γ μ) N B C T = OkV Γ i fun x => Ok (a Γ μ) fun y μ1 => OkO (f μ1 x y) fun z => SetG Γ i z fun G => N G μ1 := by
  unfold dAug OkV SetG
  cases h : Γ[i]? with
  | none => rfl
  | some o => cases o <;> simp only [oks_then, ok_of, oks_nx, oks_stk]
theorem ok_append {o e : DE} : Ok (dAppend o e Γ μ) Q = Ok (o Γ μ) fun x μ1 => OkO (placeL μ1 x) fun _ => Ok (e Γ μ1) fun d μ2 => OkO (placeL μ2 x) fun p => p.2.length < 1000000 ∧ Q .non (μ2.set p.1 (.lst (p.2 ++ [d]))) := by
  unfold dAppend; rw [ok_bind]; congr 1; funext x μ1
  cases placeL μ1 x with
  | none => rfl
  | some p =>
    simp only [ok_bind, oko_some]
    congr 1; funext d μ2
    cases placeL μ2 x with
    | none => rfl
    | some p => simp only [ok_ite, ok_ok, oko_some]
theorem ok_strM {f : Mu → D → D → Option D} {o e : DE} : Ok (dStrM f o e Γ μ) Q = Ok (o Γ μ) fun x μ1 => (isStr x = true ∧ Ok (e Γ μ1) fun y μ2 => OkO (f μ2 x y) fun z => Q z μ2) := by
  unfold dStrM; rw [ok_bind]; congr 1; funext x μ1
  cases isStr x with
  | true => simp only [ok_bind, ok_of, true_and]
  | false => simp [ok_stk]
/-! defs -/
theorem ok_def {n M : Nat} {b : DS} {ds : List D} : Ok (dDef n M b ds μ) Q = LenIs ds n (InitG ds M fun G => OkS (b G μ) (fun _ μ => Q .non μ) (fun _ _ => False) (fun _ _ => False) Q) := by
  unfold dDef LenIs InitG; rw [ok_ite]; congr 1
  show Ok (b (ds.map some ++ List.replicate (M - ds.length) none) μ).fin Q = OkS (b (ds.map some ++ List.replicate (M - ds.length) none) μ) _ _ _ _
  generalize b (ds.map some ++ List.replicate (M - ds.length) none) μ = r
  cases r <;> rfl
/-! walks -/
theorem ok_iSeq {e : DE} : Ok (diSeq e Γ μ) QL = Ok (e Γ μ) fun d μ1 => Ok (seqI d μ1) QL := by unfold diSeq; rw [ok_bind]
def OkI1 (ds : List D) (P : Int → Prop) : Prop := match ds with
  | [.int j] => P j
  | _ => False
def OkI2 (ds : List D) (P : Int → Int → Prop) : Prop := match ds with
  | [.int i, .int j] => P i j
  | _ => False
theorem oki1 {i : Int} {P : Int → Prop} : OkI1 [.int i] P = P i := rfl
theorem oki2 {i j : Int} {P : Int → Int → Prop} : OkI2 [.int i, .int j] P = P i j := rfl
theorem ok_range1 {a : DA} : Ok (diRange1 a Γ μ) QL = Ok (a Γ μ) fun ds μ1 => OkI1 ds fun j => j.natAbs < 2 ^ 61 ∧ QL (rngD 0 j.toNat) μ1 := by
  unfold diRange1; rw [ok_bind]; congr 1; funext ds μ1
  rcases ds with _ | ⟨x, _ | ⟨y, r⟩⟩
  · rfl
  · cases x <;> first | rfl | exact ok_ite
  · cases x <;> rfl
theorem ok_range2 {a : DA} : Ok (diRange2 a Γ μ) QL = Ok (a Γ μ) fun ds μ1 => OkI2 ds fun i j => (i.natAbs < 2 ^ 61 ∧ j.natAbs < 2 ^ 61) ∧ QL (rngD i (j - i).toNat) μ1 := by
  unfold diRange2; rw [ok_bind]; congr 1; funext ds μ1
  rcases ds with _ | ⟨x, _ | ⟨y, _ | ⟨z, r⟩⟩⟩
  · rfl
  · cases x <;> rfl
  · cases x <;> cases y <;> first | rfl | exact ok_ite
  · cases x <;> cases y <;> rfl
def OkL1 (ds : List D) (P : D → Prop) : Prop := match ds with
  | [x] => P x
  | _ => False
theorem okl1 {x : D} {P : D → Prop} : OkL1 [x] P = P x := rfl
theorem ok_enum {a : DA} : Ok (diEnum a Γ μ) QL = Ok (a Γ μ) fun xs μ1 => OkL1 xs fun x => Ok (seqIE x μ1) fun ds μ2 => QL (enumD 0 ds) μ2 := by
  unfold diEnum; rw [ok_bind]; congr 1; funext ds μ1
  rcases ds with _ | ⟨x, _ | ⟨y, r⟩⟩
  · rfl
  · show Ok ((seqIE x μ1).bind _) _ = _
    rw [ok_bind]; rfl
  · rfl
theorem oks_for {i : DA} {g : DG} {b : DS} : OkS (dFor i g b Γ μ) N B C T = Ok (i Γ μ) fun ds μ1 => OkS (forL g b ds Γ μ1) N B C T := by unfold dFor; rw [oks_then]
theorem oks_forNil {g : DG} {b : DS} : OkS (forL g b [] Γ μ) N B C T = N Γ μ := rfl
theorem oks_forCons {g : DG} {b : DS} {d : D} {ds : List D} : OkS (forL g b (d :: ds) Γ μ) N B C T = Ok (g d Γ μ) fun Γ1 μ1 => OkS (b Γ1 μ1) (fun Γ2 μ2 => OkS (forL g b ds Γ2 μ2) N B C T) N (fun Γ2 μ2 => OkS (forL g b ds Γ2 μ2) N B C T) T := by
  rw [forL, oks_then]; congr 1; funext Γ1 μ1
  cases b Γ1 μ1 <;> rfl
/-- a loop by what stands before each item -/
theorem oks_forInv {g : DG} {b : DS} (I : List D → List D → Gam → Mu → Prop) : ∀ (ds pre : List D) (Γ : Gam) (μ : Mu), I pre ds Γ μ → (∀ pre d ds Γ μ, I pre (d :: ds) Γ μ → Ok (g d Γ μ) fun Γ1 μ1 => OkS (b Γ1 μ1) (I (pre ++ [d]) ds) N (I (pre ++ [d]) ds) T) → (∀ pre Γ μ, I pre [] Γ μ → N Γ μ) → OkS (forL g b ds Γ μ) N B C T
  | [], pre, Γ, μ, h, _, h2 => h2 pre Γ μ h
  | d :: ds, pre, Γ, μ, h, h1, h2 => by
    rw [oks_forCons]
    exact (h1 pre d ds Γ μ h).mono fun Γ1 μ1 q => q.mono (fun Γ2 μ2 q => oks_forInv I ds (pre ++ [d]) Γ2 μ2 q h1 h2) (fun _ _ q => q) (fun Γ2 μ2 q => oks_forInv I ds (pre ++ [d]) Γ2 μ2 q h1 h2) fun _ _ q => q
theorem oks_whileS {c : DT} {b : DS} {n : Nat} : OkS (whileN c b (n + 1) Γ μ) N B C T = Ok (c Γ μ) fun t μ1 => if t = true then OkS (b Γ μ1) (fun Γ2 μ2 => OkS (whileN c b n Γ2 μ2) N B C T) N (fun Γ2 μ2 => OkS (whileN c b n Γ2 μ2) N B C T) T else N Γ μ1 := by
  rw [whileN, oks_then]; congr 1; funext t μ1
  cases t with
  | false => rfl
  | true =>
    show OkS (match b Γ μ1 with
      | .nx Γ2 μ2 => whileN c b n Γ2 μ2
      | .ct Γ2 μ2 => whileN c b n Γ2 μ2
      | .bk Γ2 μ2 => .nx Γ2 μ2
      | .rt d μ2 => .rt d μ2
      | .exc e μ2 => .exc e μ2
      | .stk => .stk) N B C T = _
    cases b Γ μ1 <;> rfl
theorem oks_not_stk {r : RS} (h : OkS r N B C T) : r ≠ .stk := fun z => by subst z; exact h
/-- a while by what stands before each turn, and a number that falls -/
theorem oks_whileInv {c : DT} {b : DS} (I : Nat → Gam → Mu → Prop) {k : Nat} (h : I k Γ μ) (step : ∀ k Γ μ, I k Γ μ → Ok (c Γ μ) fun t μ1 => if t = true then OkS (b Γ μ1) (fun Γ2 μ2 => ∃ j, j < k ∧ I j Γ2 μ2) N (fun Γ2 μ2 => ∃ j, j < k ∧ I j Γ2 μ2) T else N Γ μ1) : OkS (dWhile c b Γ μ) N B C T := by
  have all : ∀ n k Γ μ, k ≤ n → I k Γ μ → OkS (whileN c b (n + 1) Γ μ) N B C T := by
    intro n
    induction n with
    | zero =>
      intro k Γ μ hk hi
      rw [oks_whileS]
      refine (step k Γ μ hi).mono fun t μ1 q => ?_
      cases t with
      | false => exact q
      | true => exact OkS.mono q (fun Γ2 μ2 ⟨j, hj, _⟩ => absurd hj (by omega)) (fun _ _ z => z) (fun Γ2 μ2 ⟨j, hj, _⟩ => absurd hj (by omega)) fun _ _ z => z
    | succ n ih =>
      intro k Γ μ hk hi
      rw [oks_whileS]
      refine (step k Γ μ hi).mono fun t μ1 q => ?_
      cases t with
      | false => exact q
      | true => exact OkS.mono q (fun Γ2 μ2 ⟨j, hj, z⟩ => ih j Γ2 μ2 (by omega) z) (fun _ _ z => z) (fun Γ2 μ2 ⟨j, hj, z⟩ => ih j Γ2 μ2 (by omega) z) fun _ _ z => z
  have q := all k k Γ μ (Nat.le_refl _) h
  rw [dWhile_eq (oks_not_stk q)]
  exact q
theorem lc_nx {g : DG} {t : DT} {e : DE} {P : List D → Mu → Prop} : ∀ (ds : List D) (Γ : Gam) (μ : Mu), Ok (lcL g t e Γ ds μ) P = @Ok xp0 _ (lcL g t e Γ ds μ) P
  | [], _, _ => rfl
  | d :: ds, Γ, μ => by
    have no : ∀ (ds : List D) (Γ : Gam) (μ : Mu) (z : ExK) (ν : Mu), lcL g t e Γ ds μ ≠ .exc z ν := by
      intro ds
      induction ds with
      | nil => intro Γ μ z ν h; cases h
      | cons d ds ih =>
        intro Γ μ z ν h
        rw [lcL] at h
        cases h1 : (g d Γ μ) with
        | ok Γ1 μ1 =>
          rw [h1] at h
          simp only [R.nox, R.bind] at h
          cases h2 : (t Γ1 μ1) with
          | ok b μ2 =>
            rw [h2] at h
            simp only [R.nox, R.bind] at h
            cases b with
            | true =>
              cases h3 : (e Γ1 μ2) with
              | ok y μ3 =>
                simp only [h3, R.nox, R.bind] at h
                cases h4 : lcL g t e Γ ds μ3 with
                | ok ys μ4 => rw [h4] at h; cases h
                | exc a b => exact ih _ _ _ _ h4
                | stk => rw [h4] at h; cases h
              | exc a b => simp only [h3, R.nox, R.bind] at h; cases h
              | stk => simp only [h3, R.nox, R.bind] at h; cases h
            | false => exact ih _ _ _ _ h
          | exc a b => rw [h2] at h; cases h
          | stk => rw [h2] at h; cases h
        | exc a b => rw [h1] at h; cases h
        | stk => rw [h1] at h; cases h
    cases h : lcL g t e Γ (d :: ds) μ with
    | ok a μ => rfl
    | exc a b => exact absurd h (no _ _ _ _ _)
    | stk => rfl
theorem ok_lc {fin : List D → Mu → R D} {vs : List Nat} {i : DA} {g : DG} {t : DT} {e : DE} : Ok (dLcF fin vs i g t e Γ μ) Q = Ok (i Γ μ) fun ds μ1 => LenLe ds 1000000 (WipeG Γ vs fun G => @Ok xp0 _ (lcL g t e G ds μ1) fun ys μ2 => Ok (fin ys μ2) Q) := by
  unfold dLcF LenLe WipeG; simp only [ok_bind, ok_ite]
  congr 1; funext a μ1; rw [lc_nx]
theorem ok_finL {ys : List D} : Ok (finL ys μ) Q = Q (.lst ys) μ := rfl
theorem ok_finM {ys : List D} : Ok (finM ys μ) Q = Q (.loc μ.length) (μ ++ [.lst ys]) := rfl
end
section
variable {α β : Type} {Γ : Gam} {μ : Mu} {Q : D → Mu → Prop} {QB : Bool → Mu → Prop} {QL : List D → Mu → Prop} {QG_ : Gam → Mu → Prop} {QO_ : Option Int → Mu → Prop} {N B C : Gam → Mu → Prop} {T : D → Mu → Prop}
theorem ok_lcNil {g : DG} {t : DT} {e : DE} : Ok (lcL g t e Γ [] μ) QL = QL [] μ := rfl
theorem ok_lcCons {g : DG} {t : DT} {e : DE} {d : D} {ds : List D} : Ok (lcL g t e Γ (d :: ds) μ) QL = Ok (g d Γ μ) fun Γ1 μ1 => Ok (t Γ1 μ1) fun b μ2 => if b = true then Ok (e Γ1 μ2) fun y μ3 => Ok (lcL g t e Γ ds μ3) fun ys μ4 => QL (y :: ys) μ4 else Ok (lcL g t e Γ ds μ2) QL := by
  rw [lcL]; simp only [ok_bind, ok_nox]
  congr 1; funext Γ1 μ1; congr 1; funext b μ2
  cases b <;> simp only [ok_bind, ok_nox, ok_ok, if_true, if_false, Bool.false_eq_true]
theorem ok_lcConsY {g : DG} {e : DE} {d : D} {ds : List D} : Ok (lcL g dYes e Γ (d :: ds) μ) QL = Ok (g d Γ μ) fun Γ1 μ1 => Ok (e Γ1 μ1) fun y μ3 => Ok (lcL g dYes e Γ ds μ3) fun ys μ4 => QL (y :: ys) μ4 := by
  rw [ok_lcCons]; rfl
theorem ok_yes {QB : Bool → Mu → Prop} : Ok (dYes Γ μ) QB = QB true μ := rfl
/-- a comprehension with no if, by what stands -/
theorem ok_lcInv {g : DG} {e : DE} (I : List D → List D → Mu → Prop) : ∀ (ds acc : List D) (μ : Mu), I acc ds μ → (∀ acc d ds μ, I acc (d :: ds) μ → Ok (g d Γ μ) fun Γ1 μ1 => Ok (e Γ1 μ1) fun y μ2 => I (acc ++ [y]) ds μ2) → Ok (lcL g dYes e Γ ds μ) fun ys μ2 => I (acc ++ ys) [] μ2
  | [], acc, μ, h, _ => by rw [ok_lcNil, List.append_nil]; exact h
  | d :: ds, acc, μ, h, h1 => by
    rw [ok_lcCons]
    refine (h1 acc d ds μ h).mono fun Γ1 μ1 q => ?_
    rw [ok_yes, if_pos rfl]
    refine q.mono fun y μ2 q => ?_
    refine (ok_lcInv I ds (acc ++ [y]) μ2 q h1).mono fun ys μ3 q => ?_
    rw [List.append_assoc] at q
    exact q
/-- a comprehension whose items leave all as it was -/
theorem ok_lcPure {g : DG} {e : DE} {Γ : Gam} {μ : Mu} {QL : List D → Mu → Prop} (f : D → D) : ∀ (ds : List D), (∀ d ∈ ds, ∀ P : D → Mu → Prop, P (f d) μ → Ok (g d Γ μ) fun Γ1 μ1 => Ok (e Γ1 μ1) P) → QL (ds.map f) μ → Ok (lcL g dYes e Γ ds μ) QL
  | [], _, q => q
  | d :: ds, h, q => by
    rw [ok_lcCons]
    refine (h d List.mem_cons_self (fun y μ1 => y = f d ∧ μ1 = μ) ⟨rfl, rfl⟩).mono fun Γ1 μ1 z => ?_
    rw [ok_yes, if_pos rfl]
    refine z.mono fun y μ2 z => ?_
    obtain ⟨rfl, rfl⟩ := z
    exact ok_lcPure f ds (fun d hd => h d (List.mem_cons_of_mem _ hd)) q
theorem ok_end {r : R D} (h : Ok r fun d _ => d = .bl true) : ∃ μ, r = .ok (.bl true) μ := by
  cases r with
  | ok d μ =>
    have h : d = .bl true := h
    exact ⟨μ, by rw [h]⟩
  | _ => exact False.elim h
end
end Ar

set_option Elab.async false
set_option linter.all false
set_option maxRecDepth 100000
set_option maxHeartbeats 2000000
/-! Ar12: small facts of the mirror's data -/
namespace Ar
open PySem PySem.Spec PyProof.Rows L2

theorem fix_tup {μ : Mu} {ds : List D} {i : Int} : fIx μ (.tup ds) (.int i) = L2.atI ds i := rfl
theorem fix_lst {μ : Mu} {ds : List D} {i : Int} : fIx μ (.lst ds) (.int i) = L2.atI ds i := rfl
theorem fix_scr {μ : Mu} {ds : List D} {i : Int} : fIx μ (.scr ds) (.int i) = L2.atI ds i := rfl
theorem fix_loc {μ : Mu} {n : Nat} {ds : List D} {i : Int} (h : μ[n]? = some (.lst ds)) : fIx μ (.loc n) (.int i) = L2.atI ds i := by
  show (match seqA μ (.loc n) with | some ds => L2.atI ds i | none => none) = _
  unfold seqA seqL
  simp only [h]
theorem fix_frz {μ : Mu} {n : Nat} {ds : List D} {i : Int} (h : μ[n]? = some (.frz ds)) : fIx μ (.loc n) (.int i) = L2.atI ds i := by
  show (match seqA μ (.loc n) with | some ds => L2.atI ds i | none => none) = _
  unfold seqA seqL
  simp only [h]
theorem place_loc {μ : Mu} {n : Nat} {ds : List D} (h : μ[n]? = some (.lst ds)) : placeL μ (.loc n) = some (n, ds) := by
  unfold placeL
  simp only [h]
theorem atI_0 {α : Type} {a : α} {r : List α} : L2.atI (a :: r) 0 = some a := by
  unfold L2.atI ixN; rw [if_pos (by decide), if_pos (by simp only [List.length_cons]; omega)]; rfl
theorem atI_1 {α : Type} {a b : α} {r : List α} : L2.atI (a :: b :: r) 1 = some b := by
  unfold L2.atI ixN; rw [if_pos (by decide), if_pos (by simp only [List.length_cons]; omega)]; rfl
theorem atI_2 {α : Type} {a b c : α} {r : List α} : L2.atI (a :: b :: c :: r) 2 = some c := by
  unfold L2.atI ixN; rw [if_pos (by decide), if_pos (by simp only [List.length_cons]; omega)]; rfl
theorem atI_3 {α : Type} {a b c d : α} {r : List α} : L2.atI (a :: b :: c :: d :: r) 3 = some d := by
  unfold L2.atI ixN; rw [if_pos (by decide), if_pos (by simp only [List.length_cons]; omega)]; rfl
theorem atI_4 {α : Type} {a b c d e : α} {r : List α} : L2.atI (a :: b :: c :: d :: e :: r) 4 = some e := by
  unfold L2.atI ixN; rw [if_pos (by decide), if_pos (by simp only [List.length_cons]; omega)]; rfl
theorem atI_5 {α : Type} {a b c d e f : α} {r : List α} : L2.atI (a :: b :: c :: d :: e :: f :: r) 5 = some f := by
  unfold L2.atI ixN; rw [if_pos (by decide), if_pos (by simp only [List.length_cons]; omega)]; rfl
theorem atI_nat {α : Type} {xs : List α} {k : Nat} : L2.atI xs (k : Int) = xs[k]? := by
  unfold L2.atI ixN
  rw [if_pos (by omega)]
  by_cases h : k < xs.length
  · rw [if_pos (by omega)]; rfl
  · rw [if_neg (by omega), List.getElem?_eq_none (by omega)]; rfl
theorem atI_map {xs : List D} {i : Int} (h0 : 0 ≤ i) (h1 : i < xs.length) : ∃ x, L2.atI xs i = some x ∧ x ∈ xs := by
  obtain ⟨k, rfl⟩ := Int.eq_ofNat_of_zero_le h0
  rw [atI_nat]
  exact ⟨xs[k]'(by omega), List.getElem?_eq_getElem _, List.getElem_mem _⟩
theorem ixN_nat {n k : Nat} (h : k < n) : ixN n (k : Int) = some k := by
  unfold ixN
  rw [if_pos (by omega), if_pos (by omega)]
  rfl
theorem pow_6 {μ : Mu} : fPowI μ (.int 10) (.int 6) = some (.int 1000000) := by
  have h : powOk 10 6 = true := by decide
  show (if powOk 10 6 = true then some (D.int (10 ^ (6 : Int).toNat)) else none) = _
  rw [if_pos h]; rfl
theorem pow_18 {μ : Mu} : fPowI μ (.int 10) (.int 18) = some (.int 1000000000000000000) := by
  have h : powOk 10 18 = true := by decide
  show (if powOk 10 18 = true then some (D.int (10 ^ (18 : Int).toNat)) else none) = _
  rw [if_pos h]; rfl
theorem mul_l {i j : Int} (h : i.natAbs < 2 ^ 64) : mulOk i j = true := by
  unfold mulOk
  rw [show Nat.blt i.natAbs (2 ^ 64) = true from Nat.ble_eq_true_of_le h]; rfl
theorem mul_r {i j : Int} (h : j.natAbs < 2 ^ 64) : mulOk i j = true := by
  unfold mulOk
  rw [show Nat.blt j.natAbs (2 ^ 64) = true from Nat.ble_eq_true_of_le h, Bool.or_true]; rfl
theorem mul_small {i j : Int} (hi : i.natAbs < 2 ^ 200000) (hj : j.natAbs < 2 ^ 200000) : mulOk i j = true := by
  unfold mulOk
  rw [show Nat.blt (i.natAbs.log2 + j.natAbs.log2) 1000000 = true from ?_, Bool.or_true]
  have lg : ∀ n : Nat, n < 2 ^ 200000 → n.log2 < 200000 := fun n h => by
    by_cases hn : n = 0
    · subst hn; rw [Nat.log2_zero]; omega
    · exact (Nat.log2_lt hn).mpr h
  have h1 := lg _ hi
  have h2 := lg _ hj
  exact Nat.ble_eq_true_of_le (show i.natAbs.log2 + j.natAbs.log2 < 1000000 by omega)
def B30 : Nat := 10 ^ 30
def LIM : Nat := 10 ^ 200
theorem B_LIM : 100000 * B30 < LIM := by
  unfold B30 LIM
  exact Nat.lt_of_lt_of_le (show 100000 * 10 ^ 30 < 10 ^ 36 by decide +kernel) (Nat.pow_le_pow_right (by decide) (by decide))
/-- others are as they were -/
structure Gr (n : Nat) (μ μ' : Mu) : Prop where
  len : μ.length ≤ μ'.length
  at_ : ∀ j o, j ≠ n → μ[j]? = some o → μ'[j]? = some o
theorem Gr.refl {n : Nat} {μ : Mu} : Gr n μ μ := ⟨Nat.le_refl _, fun _ _ _ h => h⟩
theorem Gr.trans {n : Nat} {μ μ' μ'' : Mu} (a : Gr n μ μ') (b : Gr n μ' μ'') : Gr n μ μ'' := ⟨Nat.le_trans a.len b.len, fun j o h e => b.at_ j o h (a.at_ j o h e)⟩
theorem Gr.set {n : Nat} {μ : Mu} {o : MO} : Gr n μ (μ.set n o) := ⟨by simp, fun j o h e => by rw [List.getElem?_set_ne (Ne.symm h)]; exact e⟩
theorem Gr.app {n : Nat} {μ : Mu} {o : MO} : Gr n μ (μ ++ [o]) := ⟨by simp, fun j o h e => by rw [List.getElem?_append_left (List.getElem?_eq_some_iff.mp e).1]; exact e⟩
theorem Gr.setN {n m : Nat} {μ μ' : Mu} {o : MO} (h : Gr n μ μ') (hm : μ.length ≤ m) : Gr n μ (μ'.set m o) := ⟨by rw [List.length_set]; exact h.len, fun j u hj e => by
  have := (List.getElem?_eq_some_iff.mp e).1
  rw [List.getElem?_set_ne (by omega)]
  exact h.at_ j u hj e⟩
theorem app_new {μ : Mu} {o : MO} : (μ ++ [o])[μ.length]? = some o := by simp
theorem app_old {μ : Mu} {o : MO} {n : Nat} {x : MO} (h : μ[n]? = some x) : (μ ++ [o])[n]? = some x := by
  rw [List.getElem?_append_left (List.getElem?_eq_some_iff.mp h).1]; exact h
theorem set_new {μ : Mu} {n : Nat} {x o : MO} (h : μ[n]? = some x) : (μ.set n o)[n]? = some o := List.getElem?_set_self (List.getElem?_eq_some_iff.mp h).1
/-- the well of a drawing -/
def Wl (n : Nat) (μ : Mu) : Prop := ∃ a b c : Int, 0 ≤ a ∧ 0 ≤ b ∧ b < 2147483399 ∧ μ[n]? = some (.lst [.int a, .int b, .int c])
theorem Wl.lt {n : Nat} {μ : Mu} (h : Wl n μ) : n < μ.length := by
  obtain ⟨a, b, c, _, _, _, e⟩ := h
  exact (List.getElem?_eq_some_iff.mp e).1
theorem Wl.app {n : Nat} {μ : Mu} {o : MO} (h : Wl n μ) : Wl n (μ ++ [o]) := by
  obtain ⟨a, b, c, h1, h2, h3, e⟩ := h
  exact ⟨a, b, c, h1, h2, h3, app_old e⟩
theorem Wl.set {n m : Nat} {μ : Mu} {o : MO} (h : Wl n μ) (hm : m ≠ n) : Wl n (μ.set m o) := by
  obtain ⟨a, b, c, h1, h2, h3, e⟩ := h
  exact ⟨a, b, c, h1, h2, h3, by rw [List.getElem?_set_ne hm]; exact e⟩
theorem add_ii {μ : Mu} {i j : Int} : fAdd μ (.int i) (.int j) = some (.int (i + j)) := rfl
theorem sub_ii {μ : Mu} {i j : Int} : fSubI μ (.int i) (.int j) = some (.int (i - j)) := rfl
theorem mul_ii {μ : Mu} {i j : Int} : fMulI μ (.int i) (.int j) = if mulOk i j = true then some (.int (i * j)) else none := rfl
theorem div_ii {μ : Mu} {i j : Int} : fDivI μ (.int i) (.int j) = if fdOk j = true then some (.int (i.fdiv j)) else none := rfl
theorem mod_ii {μ : Mu} {i j : Int} : fModI μ (.int i) (.int j) = if j ≠ 0 then some (.int (i.fmod j)) else none := rfl
theorem lt_ii {μ : Mu} {i j : Int} : fLt μ (.int i) (.int j) = some (.bl (decide (i < j))) := rfl
theorem le_ii {μ : Mu} {i j : Int} : fLe μ (.int i) (.int j) = some (.bl (decide (i ≤ j))) := rfl
theorem gt_ii {μ : Mu} {i j : Int} : fGt μ (.int i) (.int j) = some (.bl (decide (j < i))) := rfl
theorem ge_ii {μ : Mu} {i j : Int} : fGe μ (.int i) (.int j) = some (.bl (decide (j ≤ i))) := rfl
theorem add_tt {μ : Mu} {i j : List D} : fAdd μ (.tup i) (.tup j) = if i.length + j.length ≤ 1000000 then some (.tup (i ++ j)) else none := by
  show (match (if i.length + j.length ≤ 1000000 then some (D.tup (i ++ j)) else none) with | some z => some z | none => none) = _
  by_cases h : i.length + j.length ≤ 1000000 <;> simp only [h, if_true, if_false]
theorem add_ll {μ : Mu} {i j : List D} : fAdd μ (.lst i) (.lst j) = if i.length + j.length ≤ 1000000 then some (.lst (i ++ j)) else none := rfl
theorem add_ss {μ : Mu} {i j : Str} : fAdd μ (.str i) (.str j) = if i.length + j.length ≤ 1000000 then some (.str (i ++ j)) else none := by
  show (match (if i.length + j.length ≤ 1000000 then some (D.str (i ++ j)) else none) with | some z => some z | none => none) = _
  by_cases h : i.length + j.length ≤ 1000000 <;> simp only [h, if_true, if_false]
theorem divmod_ii {μ : Mu} {i j : Int} : fDivmod μ [.int i, .int j] = if 0 < j ∧ fdOk j = true then some (.tup [.int (i / j), .int (i % j)]) else none := rfl
theorem neg_i {μ : Mu} {i : Int} : fNeg μ (.int i) = some (.int (-i)) := rfl
theorem int_i {μ : Mu} {i : Int} : fInt μ [.int i] = some (.int i) := rfl
theorem abs_i {μ : Mu} {i : Int} : fAbs μ [.int i] = some (.int (if i < 0 then -i else i)) := rfl
theorem max_ii {μ : Mu} {i j : Int} : fMax μ [.int i, .int j] = some (.int (if i < j then j else i)) := rfl
theorem min_ii {μ : Mu} {i j : Int} : fMin μ [.int i, .int j] = some (.int (if j < i then j else i)) := rfl
theorem len_tup {μ : Mu} {xs : List D} : fLen μ [.tup xs] = some (.int xs.length) := rfl
theorem len_lst {μ : Mu} {xs : List D} : fLen μ [.lst xs] = some (.int xs.length) := rfl
theorem len_scr {μ : Mu} {xs : List D} : fLen μ [.scr xs] = some (.int xs.length) := rfl
theorem slc_lst {μ : Mu} {xs : List D} {lo hi : Option Int} : fSl μ (.lst xs) lo hi = some (.lst (cutL xs lo hi)) := rfl
theorem slc_scr {μ : Mu} {xs : List D} {lo hi : Option Int} : fSl μ (.scr xs) lo hi = some (.lst (cutL xs lo hi)) := rfl
theorem slc_tup {μ : Mu} {xs : List D} {lo hi : Option Int} : fSl μ (.tup xs) lo hi = some (.tup (cutL xs lo hi)) := rfl
theorem ixN_30 : ixN 3 0 = some 0 := rfl
theorem ixN_31 : ixN 3 1 = some 1 := rfl
theorem ixN_32 : ixN 3 2 = some 2 := rfl
theorem tuple_lst {μ : Mu} {xs : List D} : fTuple μ [.lst xs] = some (.tup xs) := rfl
theorem tuple_tup {μ : Mu} {xs : List D} : fTuple μ [.tup xs] = some (.tup xs) := rfl
theorem tuple_scr {μ : Mu} {xs : List D} : fTuple μ [.scr xs] = some (.tup xs) := rfl
theorem list_tup {μ : Mu} {xs : List D} : fList μ [.tup xs] = some (.lst xs) := rfl
theorem list_lst {μ : Mu} {xs : List D} : fList μ [.lst xs] = some (.lst xs) := rfl
theorem bool_b {μ : Mu} {b : Bool} : fBool μ [.bl b] = some (.bl b) := rfl
theorem tru_b {μ : Mu} {b : Bool} : truD μ (.bl b) = some b := rfl
theorem tru_i {μ : Mu} {i : Int} : truD μ (.int i) = some (i != 0) := rfl
theorem tru_t {μ : Mu} {xs : List D} : truD μ (.tup xs) = some (!xs.isEmpty) := rfl
theorem tru_l {μ : Mu} {xs : List D} : truD μ (.lst xs) = some (!xs.isEmpty) := rfl
theorem tru_n {μ : Mu} : truD μ .non = some false := rfl
theorem isa_int_int {μ : Mu} {i : Int} : fIsa μ [.int i, .ty "int"] = some (.bl true) := rfl
theorem isa_int_bool {μ : Mu} {i : Int} : fIsa μ [.int i, .ty "bool"] = some (.bl false) := rfl
theorem isa_int_tup {μ : Mu} {i : Int} : fIsa μ [.int i, .ty "tuple"] = some (.bl false) := rfl
theorem isa_int_str {μ : Mu} {i : Int} : fIsa μ [.int i, .ty "str"] = some (.bl false) := rfl
theorem isa_int_lst {μ : Mu} {i : Int} : fIsa μ [.int i, .ty "list"] = some (.bl false) := rfl
theorem isa_bl_int {μ : Mu} {i : Bool} : fIsa μ [.bl i, .ty "int"] = some (.bl true) := rfl
theorem isa_bl_bool {μ : Mu} {i : Bool} : fIsa μ [.bl i, .ty "bool"] = some (.bl true) := rfl
theorem isa_tup_tup {μ : Mu} {i : List D} : fIsa μ [.tup i, .ty "tuple"] = some (.bl true) := rfl
theorem isa_tup_int {μ : Mu} {i : List D} : fIsa μ [.tup i, .ty "int"] = some (.bl false) := rfl
theorem isa_tup_lst {μ : Mu} {i : List D} : fIsa μ [.tup i, .ty "list"] = some (.bl false) := rfl
theorem isa_tup_str {μ : Mu} {i : List D} : fIsa μ [.tup i, .ty "str"] = some (.bl false) := rfl
theorem isa_str_str {μ : Mu} {i : Str} : fIsa μ [.str i, .ty "str"] = some (.bl true) := rfl
theorem isa_str_int {μ : Mu} {i : Str} : fIsa μ [.str i, .ty "int"] = some (.bl false) := rfl
theorem isa_str_tup {μ : Mu} {i : Str} : fIsa μ [.str i, .ty "tuple"] = some (.bl false) := rfl
theorem isa_lst_lst {μ : Mu} {i : List D} : fIsa μ [.lst i, .ty "list"] = some (.bl true) := rfl
theorem isa_lst_tup {μ : Mu} {i : List D} : fIsa μ [.lst i, .ty "tuple"] = some (.bl false) := rfl
theorem isa_lst_int {μ : Mu} {i : List D} : fIsa μ [.lst i, .ty "int"] = some (.bl false) := rfl
theorem isa_non_int {μ : Mu} : fIsa μ [.non, .ty "int"] = some (.bl false) := rfl
theorem isa_non_tup {μ : Mu} : fIsa μ [.non, .ty "tuple"] = some (.bl false) := rfl
theorem seqIE_lst [ExW] {μ : Mu} {xs : List D} {P : List D → Mu → Prop} : Ok (seqIE (.lst xs) μ) P = P xs μ := rfl
theorem seqIE_tup [ExW] {μ : Mu} {xs : List D} {P : List D → Mu → Prop} : Ok (seqIE (.tup xs) μ) P = P xs μ := rfl
theorem seqIE_scr [ExW] {μ : Mu} {xs : List D} {P : List D → Mu → Prop} : Ok (seqIE (.scr xs) μ) P = P xs μ := rfl
theorem seqI_str [ExW] {μ : Mu} {z : Str} {P : List D → Mu → Prop} : Ok (seqI (.str z) μ) P = P (z.cps.toList.map fun c => .str ⟨#[c]⟩) μ := rfl
theorem seqI_lst [ExW] {μ : Mu} {xs : List D} {P : List D → Mu → Prop} : Ok (seqI (.lst xs) μ) P = P xs μ := rfl
theorem seqI_tup [ExW] {μ : Mu} {xs : List D} {P : List D → Mu → Prop} : Ok (seqI (.tup xs) μ) P = P xs μ := rfl
theorem seqI_scr [ExW] {μ : Mu} {xs : List D} {P : List D → Mu → Prop} : Ok (seqI (.scr xs) μ) P = P xs μ := rfl
theorem cut_len {xs : List D} {lo hi : Option Int} : (cutL xs lo hi).length ≤ xs.length := by
  unfold cutL
  rw [List.length_take, List.length_drop]
  omega
theorem cut_mem {xs : List D} {lo hi : Option Int} {d : D} (h : d ∈ cutL xs lo hi) : d ∈ xs := List.mem_of_mem_drop (List.mem_of_mem_take h)
theorem int_mem {ns : List Int} {d : D} (h : d ∈ ns.map D.int) : ∃ i, d = .int i := by
  obtain ⟨i, _, e⟩ := List.mem_map.mp h
  exact ⟨i, e.symm⟩
theorem int_at {ns : List Int} {t : Int} (h0 : 0 ≤ t) (h : t < ns.length) : ∃ z : Int, L2.atI (ns.map D.int) t = some (.int z) := by
  obtain ⟨x, e, m⟩ := atI_map (xs := ns.map D.int) h0 (by rw [List.length_map]; exact h)
  obtain ⟨i, rfl⟩ := int_mem m
  exact ⟨i, e⟩
theorem mod_p (x : Int) : 0 ≤ x.fmod 2147483399 ∧ x.fmod 2147483399 < 2147483399 := ⟨Int.fmod_nonneg_of_pos _ (by decide), Int.fmod_lt_of_pos _ (by decide)⟩
theorem sum_3 {μ : Mu} {a b c : Int} : fSum μ [.lst [.int a, .int b, .int c]] = some (.int (a + (b + (c + 0)))) := rfl
theorem all_3 {μ : Mu} {a b c : Bool} : fAll μ [.lst [.bl a, .bl b, .bl c]] = some (.bl (a && (b && (c && true)))) := by cases a <;> cases b <;> cases c <;> rfl
theorem rng_3 : rngD 0 (3 : Int).toNat = [.int 0, .int 1, .int 2] := rfl
theorem rng_2 : rngD 0 (2 : Int).toNat = [.int 0, .int 1] := rfl
theorem mul_mid {i j : Int} (hi : i.natAbs < 10 ^ 200) (hj : j.natAbs < 10 ^ 200) : mulOk i j = true := by
  have h : (10 : Nat) ^ 200 < 2 ^ 200000 := Nat.lt_of_lt_of_le (Nat.lt_of_lt_of_le (show (10 : Nat) ^ 200 < 16 ^ 200 from Nat.pow_lt_pow_left (by decide) (by decide)) (by rw [show (16 : Nat) = 2 ^ 4 from rfl, ← Nat.pow_mul]; exact Nat.le_refl _) : (10 : Nat) ^ 200 < 2 ^ 800) (Nat.pow_le_pow_right (by decide) (by decide))
  exact mul_small (Nat.lt_trans hi h) (Nat.lt_trans hj h)
theorem mul_lim {i j : Int} (hi : i.natAbs < LIM) (hj : j.natAbs < LIM) : mulOk i j = true := mul_mid hi hj
theorem eqLs_refl {f : D → D → Bool} : ∀ {ds : List D}, (∀ d ∈ ds, f d d = true) → eqLs f ds ds = true
  | [], _ => rfl
  | d :: ds, h => by
    show (f d d && eqLs f ds ds) = true
    rw [h d List.mem_cons_self, eqLs_refl fun d hd => h d (List.mem_cons_of_mem _ hd)]
    rfl
theorem eqD_refl : ∀ (n : Nat) (d : D), plainD n d = true → eqD n d d = true := by
  intro n
  induction n with
  | zero =>
    intro d h
    cases d with
    | non => rfl
    | bl b => cases b <;> rfl
    | int i => show (i == i) = true; simp
    | str x => show (x == x) = true; simp
    | _ => cases h
  | succ n ih =>
    intro d h
    cases d with
    | non => rfl
    | bl b => cases b <;> rfl
    | int i => show (i == i) = true; simp
    | str x => show (x == x) = true; simp
    | tup ds =>
      have h : ds.all (plainD n) = true := h
      exact eqLs_refl fun d hd => ih d (List.all_eq_true.mp h d hd)
    | lst ds =>
      have h : ds.all (plainD n) = true := h
      exact eqLs_refl fun d hd => ih d (List.all_eq_true.mp h d hd)
    | _ => cases h
theorem o_eq_self {μ : Mu} {d : D} {P : D → Prop} (h : plainD 20 d = true) (q : P (.bl true)) : OkO (fEq μ d d) P := by
  have u : unloc μ d = d := by
    cases d with
    | loc n => cases h
    | _ => rfl
  unfold fEq
  rw [u, if_pos ⟨h, h⟩, eqD_refl 20 d h]
  exact q
theorem o_ne_self {μ : Mu} {d : D} {P : D → Prop} (h : plainD 20 d = true) (q : P (.bl false)) : OkO (fNe μ d d) P := by
  have u : unloc μ d = d := by
    cases d with
    | loc n => cases h
    | _ => rfl
  unfold fNe
  rw [u, if_pos ⟨h, h⟩, eqD_refl 20 d h]
  exact q
theorem cut_map {α β : Type} {f : α → β} {xs : List α} {lo hi : Option Int} : cutL (xs.map f) lo hi = (cutL xs lo hi).map f := by
  unfold cutL
  rw [List.length_map, List.map_take, List.map_drop]
theorem cut_lo {α : Type} {xs : List α} {k : Nat} (h : k ≤ xs.length) : cutL xs none (some (k : Int)) = xs.take k := by
  unfold cutL
  rw [HT.sIx_none, HT.sIx_nat, List.drop_zero, Nat.sub_zero, Nat.min_eq_left h]
theorem cut_hi {α : Type} {xs : List α} {k : Nat} (h : k ≤ xs.length) : cutL xs (some (k : Int)) none = xs.drop k := by
  unfold cutL
  rw [HT.sIx_none, HT.sIx_nat, Nat.min_eq_left h, List.take_of_length_le (by rw [List.length_drop]; omega)]
theorem bls_true : ∀ {ys : List D}, (∀ d ∈ ys, d = D.bl true) → ∃ bs, blsOf ys = some bs ∧ bs.all id = true
  | [], _ => ⟨[], rfl, rfl⟩
  | y :: ys, h => by
    obtain ⟨bs, e1, e2⟩ := bls_true fun d hd => h d (List.mem_cons_of_mem _ hd)
    rw [h y List.mem_cons_self]
    exact ⟨true :: bs, by show (blsOf ys).map (true :: ·) = _; rw [e1]; rfl, by rw [List.all_cons, e2]; rfl⟩
theorem all_true {μ : Mu} {ys : List D} {P : D → Prop} (h : ∀ d ∈ ys, d = D.bl true) (q : P (.bl true)) : OkO (fAll μ [.lst ys]) P := by
  obtain ⟨bs, e1, e2⟩ := bls_true h
  have e : fAll μ [.lst ys] = some (.bl true) := by
    show (match seqL μ (.lst ys) with
      | some xs => (blsOf xs).map fun bs => D.bl (bs.all id)
      | none => none) = some (.bl true)
    show (blsOf ys).map (fun bs => D.bl (bs.all id)) = some (.bl true)
    rw [e1]
    show some (D.bl (bs.all id)) = _
    rw [e2]
  rw [e]
  exact q
theorem rng_nat {lo : Int} {n : Nat} {d : D} (h : d ∈ rngD lo n) : ∃ i : Int, d = .int i ∧ lo ≤ i ∧ i < lo + n := by
  obtain ⟨i, hi, rfl⟩ := List.mem_map.mp h
  have := List.mem_range.mp hi
  exact ⟨_, rfl, by omega, by omega⟩
theorem fdOk_640 : fdOk 640 = true := by decide
theorem eq_ii {μ : Mu} {i j : Int} : fEq μ (.int i) (.int j) = some (.bl (decide (i = j))) := rfl
theorem ne_ii {μ : Mu} {i j : Int} : fNe μ (.int i) (.int j) = some (.bl (!decide (i = j))) := rfl
theorem int_bool {a b : Int} : (a != b) = !decide (a = b) := by
  by_cases h : a = b <;> simp [h]
theorem o_add_ii {μ : Mu} {i j : Int} {P : D → Prop} : OkO (fAdd μ (.int i) (.int j)) P = P (.int (i + j)) := by rw [add_ii, oko_some]
theorem o_sub_ii {μ : Mu} {i j : Int} {P : D → Prop} : OkO (fSubI μ (.int i) (.int j)) P = P (.int (i - j)) := by rw [sub_ii, oko_some]
theorem o_mul_ii {μ : Mu} {i j : Int} {P : D → Prop} : OkO (fMulI μ (.int i) (.int j)) P = ((mulOk i j = true) ∧ P ((.int (i * j)))) := by rw [mul_ii, oko_ite]
theorem o_div_ii {μ : Mu} {i j : Int} {P : D → Prop} : OkO (fDivI μ (.int i) (.int j)) P = ((fdOk j = true) ∧ P ((.int (i.fdiv j)))) := by rw [div_ii, oko_ite]
theorem o_mod_ii {μ : Mu} {i j : Int} {P : D → Prop} : OkO (fModI μ (.int i) (.int j)) P = ((j ≠ 0) ∧ P ((.int (i.fmod j)))) := by rw [mod_ii, oko_ite]
theorem o_lt_ii {μ : Mu} {i j : Int} {P : D → Prop} : OkO (fLt μ (.int i) (.int j)) P = P (.bl (decide (i < j))) := by rw [lt_ii, oko_some]
theorem o_le_ii {μ : Mu} {i j : Int} {P : D → Prop} : OkO (fLe μ (.int i) (.int j)) P = P (.bl (decide (i ≤ j))) := by rw [le_ii, oko_some]
theorem o_gt_ii {μ : Mu} {i j : Int} {P : D → Prop} : OkO (fGt μ (.int i) (.int j)) P = P (.bl (decide (j < i))) := by rw [gt_ii, oko_some]
theorem o_ge_ii {μ : Mu} {i j : Int} {P : D → Prop} : OkO (fGe μ (.int i) (.int j)) P = P (.bl (decide (j ≤ i))) := by rw [ge_ii, oko_some]
theorem o_add_tt {μ : Mu} {i j : List D} {P : D → Prop} : OkO (fAdd μ (.tup i) (.tup j)) P = ((i.length + j.length ≤ 1000000) ∧ P ((.tup (i ++ j)))) := by rw [add_tt, oko_ite]
theorem o_add_ll {μ : Mu} {i j : List D} {P : D → Prop} : OkO (fAdd μ (.lst i) (.lst j)) P = ((i.length + j.length ≤ 1000000) ∧ P ((.lst (i ++ j)))) := by rw [add_ll, oko_ite]
theorem o_add_ss {μ : Mu} {i j : Str} {P : D → Prop} : OkO (fAdd μ (.str i) (.str j)) P = ((i.length + j.length ≤ 1000000) ∧ P ((.str (i ++ j)))) := by rw [add_ss, oko_ite]
theorem o_divmod_ii {μ : Mu} {i j : Int} {P : D → Prop} : OkO (fDivmod μ [.int i, .int j]) P = ((0 < j ∧ fdOk j = true) ∧ P ((.tup [.int (i / j), .int (i % j)]))) := by rw [divmod_ii, oko_ite]
theorem o_neg_i {μ : Mu} {i : Int} {P : D → Prop} : OkO (fNeg μ (.int i)) P = P (.int (-i)) := by rw [neg_i, oko_some]
theorem o_int_i {μ : Mu} {i : Int} {P : D → Prop} : OkO (fInt μ [.int i]) P = P (.int i) := by rw [int_i, oko_some]
theorem o_abs_i {μ : Mu} {i : Int} {P : D → Prop} : OkO (fAbs μ [.int i]) P = P (.int (if i < 0 then -i else i)) := by rw [abs_i, oko_some]
theorem o_max_ii {μ : Mu} {i j : Int} {P : D → Prop} : OkO (fMax μ [.int i, .int j]) P = P (.int (if i < j then j else i)) := by rw [max_ii, oko_some]
theorem o_min_ii {μ : Mu} {i j : Int} {P : D → Prop} : OkO (fMin μ [.int i, .int j]) P = P (.int (if j < i then j else i)) := by rw [min_ii, oko_some]
theorem o_len_tup {μ : Mu} {xs : List D} {P : D → Prop} : OkO (fLen μ [.tup xs]) P = P (.int xs.length) := by rw [len_tup, oko_some]
theorem o_len_lst {μ : Mu} {xs : List D} {P : D → Prop} : OkO (fLen μ [.lst xs]) P = P (.int xs.length) := by rw [len_lst, oko_some]
theorem o_len_scr {μ : Mu} {xs : List D} {P : D → Prop} : OkO (fLen μ [.scr xs]) P = P (.int xs.length) := by rw [len_scr, oko_some]
theorem o_slc_lst {μ : Mu} {xs : List D} {lo hi : Option Int} {P : D → Prop} : OkO (fSl μ (.lst xs) lo hi) P = P (.lst (cutL xs lo hi)) := by rw [slc_lst, oko_some]
theorem o_slc_scr {μ : Mu} {xs : List D} {lo hi : Option Int} {P : D → Prop} : OkO (fSl μ (.scr xs) lo hi) P = P (.lst (cutL xs lo hi)) := by rw [slc_scr, oko_some]
theorem o_slc_tup {μ : Mu} {xs : List D} {lo hi : Option Int} {P : D → Prop} : OkO (fSl μ (.tup xs) lo hi) P = P (.tup (cutL xs lo hi)) := by rw [slc_tup, oko_some]
theorem o_tuple_lst {μ : Mu} {xs : List D} {P : D → Prop} : OkO (fTuple μ [.lst xs]) P = P (.tup xs) := by rw [tuple_lst, oko_some]
theorem o_tuple_tup {μ : Mu} {xs : List D} {P : D → Prop} : OkO (fTuple μ [.tup xs]) P = P (.tup xs) := by rw [tuple_tup, oko_some]
theorem o_tuple_scr {μ : Mu} {xs : List D} {P : D → Prop} : OkO (fTuple μ [.scr xs]) P = P (.tup xs) := by rw [tuple_scr, oko_some]
theorem o_list_tup {μ : Mu} {xs : List D} {P : D → Prop} : OkO (fList μ [.tup xs]) P = P (.lst xs) := by rw [list_tup, oko_some]
theorem o_list_lst {μ : Mu} {xs : List D} {P : D → Prop} : OkO (fList μ [.lst xs]) P = P (.lst xs) := by rw [list_lst, oko_some]
theorem o_bool_b {μ : Mu} {b : Bool} {P : D → Prop} : OkO (fBool μ [.bl b]) P = P (.bl b) := by rw [bool_b, oko_some]
theorem o_isa_int_int {μ : Mu} {i : Int} {P : D → Prop} : OkO (fIsa μ [.int i, .ty "int"]) P = P (.bl true) := by rw [isa_int_int, oko_some]
theorem o_isa_int_bool {μ : Mu} {i : Int} {P : D → Prop} : OkO (fIsa μ [.int i, .ty "bool"]) P = P (.bl false) := by rw [isa_int_bool, oko_some]
theorem o_isa_int_tup {μ : Mu} {i : Int} {P : D → Prop} : OkO (fIsa μ [.int i, .ty "tuple"]) P = P (.bl false) := by rw [isa_int_tup, oko_some]
theorem o_isa_int_str {μ : Mu} {i : Int} {P : D → Prop} : OkO (fIsa μ [.int i, .ty "str"]) P = P (.bl false) := by rw [isa_int_str, oko_some]
theorem o_isa_int_lst {μ : Mu} {i : Int} {P : D → Prop} : OkO (fIsa μ [.int i, .ty "list"]) P = P (.bl false) := by rw [isa_int_lst, oko_some]
theorem o_isa_bl_int {μ : Mu} {i : Bool} {P : D → Prop} : OkO (fIsa μ [.bl i, .ty "int"]) P = P (.bl true) := by rw [isa_bl_int, oko_some]
theorem o_isa_bl_bool {μ : Mu} {i : Bool} {P : D → Prop} : OkO (fIsa μ [.bl i, .ty "bool"]) P = P (.bl true) := by rw [isa_bl_bool, oko_some]
theorem o_isa_tup_tup {μ : Mu} {i : List D} {P : D → Prop} : OkO (fIsa μ [.tup i, .ty "tuple"]) P = P (.bl true) := by rw [isa_tup_tup, oko_some]
theorem o_isa_tup_int {μ : Mu} {i : List D} {P : D → Prop} : OkO (fIsa μ [.tup i, .ty "int"]) P = P (.bl false) := by rw [isa_tup_int, oko_some]
theorem o_isa_tup_lst {μ : Mu} {i : List D} {P : D → Prop} : OkO (fIsa μ [.tup i, .ty "list"]) P = P (.bl false) := by rw [isa_tup_lst, oko_some]
theorem o_isa_tup_str {μ : Mu} {i : List D} {P : D → Prop} : OkO (fIsa μ [.tup i, .ty "str"]) P = P (.bl false) := by rw [isa_tup_str, oko_some]
theorem o_isa_str_str {μ : Mu} {i : Str} {P : D → Prop} : OkO (fIsa μ [.str i, .ty "str"]) P = P (.bl true) := by rw [isa_str_str, oko_some]
theorem o_isa_str_int {μ : Mu} {i : Str} {P : D → Prop} : OkO (fIsa μ [.str i, .ty "int"]) P = P (.bl false) := by rw [isa_str_int, oko_some]
theorem o_isa_str_tup {μ : Mu} {i : Str} {P : D → Prop} : OkO (fIsa μ [.str i, .ty "tuple"]) P = P (.bl false) := by rw [isa_str_tup, oko_some]
theorem o_isa_lst_lst {μ : Mu} {i : List D} {P : D → Prop} : OkO (fIsa μ [.lst i, .ty "list"]) P = P (.bl true) := by rw [isa_lst_lst, oko_some]
theorem o_isa_lst_tup {μ : Mu} {i : List D} {P : D → Prop} : OkO (fIsa μ [.lst i, .ty "tuple"]) P = P (.bl false) := by rw [isa_lst_tup, oko_some]
theorem o_isa_lst_int {μ : Mu} {i : List D} {P : D → Prop} : OkO (fIsa μ [.lst i, .ty "int"]) P = P (.bl false) := by rw [isa_lst_int, oko_some]
theorem o_isa_non_int {μ : Mu} {P : D → Prop} : OkO (fIsa μ [.non, .ty "int"]) P = P (.bl false) := by rw [isa_non_int, oko_some]
theorem o_isa_non_tup {μ : Mu} {P : D → Prop} : OkO (fIsa μ [.non, .ty "tuple"]) P = P (.bl false) := by rw [isa_non_tup, oko_some]
theorem o_sum_3 {μ : Mu} {a b c : Int} {P : D → Prop} : OkO (fSum μ [.lst [.int a, .int b, .int c]]) P = P (.int (a + (b + (c + 0)))) := by rw [sum_3, oko_some]
theorem o_all_3 {μ : Mu} {a b c : Bool} {P : D → Prop} : OkO (fAll μ [.lst [.bl a, .bl b, .bl c]]) P = P (.bl (a && (b && (c && true)))) := by rw [all_3, oko_some]
theorem o_atI_0 {a : D} {r : List D} {P : D → Prop} : OkO (L2.atI (a :: r) 0) P = P a := by rw [atI_0, oko_some]
theorem o_atI_1 {a b : D} {r : List D} {P : D → Prop} : OkO (L2.atI (a :: b :: r) 1) P = P b := by rw [atI_1, oko_some]
theorem o_atI_2 {a b c : D} {r : List D} {P : D → Prop} : OkO (L2.atI (a :: b :: c :: r) 2) P = P c := by rw [atI_2, oko_some]
theorem o_atI_3 {a b c d : D} {r : List D} {P : D → Prop} : OkO (L2.atI (a :: b :: c :: d :: r) 3) P = P d := by rw [atI_3, oko_some]
theorem o_atI_4 {a b c d e : D} {r : List D} {P : D → Prop} : OkO (L2.atI (a :: b :: c :: d :: e :: r) 4) P = P e := by rw [atI_4, oko_some]
theorem o_atI_5 {a b c d e f : D} {r : List D} {P : D → Prop} : OkO (L2.atI (a :: b :: c :: d :: e :: f :: r) 5) P = P f := by rw [atI_5, oko_some]
theorem o_ixN_30 {P : Nat → Prop} : OkO (ixN 3 0) P = P 0 := rfl
theorem o_ixN_31 {P : Nat → Prop} : OkO (ixN 3 1) P = P 1 := rfl
theorem o_ixN_32 {P : Nat → Prop} : OkO (ixN 3 2) P = P 2 := rfl
theorem o_fix_tup {μ : Mu} {ds : List D} {i : Int} {P : D → Prop} : OkO (fIx μ (.tup ds) (.int i)) P = OkO (L2.atI ds i) P := rfl
theorem o_fix_lst {μ : Mu} {ds : List D} {i : Int} {P : D → Prop} : OkO (fIx μ (.lst ds) (.int i)) P = OkO (L2.atI ds i) P := rfl
theorem o_fix_scr {μ : Mu} {ds : List D} {i : Int} {P : D → Prop} : OkO (fIx μ (.scr ds) (.int i)) P = OkO (L2.atI ds i) P := rfl
theorem o_pow_6 {μ : Mu} {P : D → Prop} : OkO (fPowI μ (.int 10) (.int 6)) P = P (.int 1000000) := by rw [pow_6, oko_some]
theorem o_pow_18 {μ : Mu} {P : D → Prop} : OkO (fPowI μ (.int 10) (.int 18)) P = P (.int 1000000000000000000) := by rw [pow_18, oko_some]
theorem o_fix_loc {μ : Mu} {n : Nat} {ds : List D} {i : Int} (h : μ[n]? = some (.lst ds)) {P : D → Prop} : OkO (fIx μ (.loc n) (.int i)) P = OkO (L2.atI ds i) P := by rw [fix_loc h]
theorem o_place {μ : Mu} {n : Nat} {ds : List D} (h : μ[n]? = some (.lst ds)) {P : Nat × List D → Prop} : OkO (placeL μ (.loc n)) P = P (n, ds) := by rw [place_loc h, oko_some]
theorem o_eq_ii {μ : Mu} {i j : Int} {P : D → Prop} : OkO (fEq μ (.int i) (.int j)) P = P (.bl (decide (i = j))) := rfl
theorem o_ne_ii {μ : Mu} {i j : Int} {P : D → Prop} : OkO (fNe μ (.int i) (.int j)) P = P (.bl (!decide (i = j))) := rfl
theorem o_ne_mv {μ : Mu} {a b c x y z : Int} {P : D → Prop} : OkO (fNe μ (.tup [.int a, .int b, .int c]) (.tup [.int x, .int y, .int z])) P = P (.bl (!(decide (a = x) && (decide (b = y) && (decide (c = z) && true))))) := rfl
theorem o_eq_mv {μ : Mu} {a b c x y z : Int} {P : D → Prop} : OkO (fEq μ (.tup [.int a, .int b, .int c]) (.tup [.int x, .int y, .int z])) P = P (.bl (decide (a = x) && (decide (b = y) && (decide (c = z) && true)))) := rfl
theorem o_mul_rep {μ : Mu} {ds : List D} {k : Int} {P : D → Prop} : OkO (fMul μ (.lst ds) (.int k)) P = (((-(2 ^ 63) ≤ k ∧ k < 2 ^ 63) ∧ ds.length * k.toNat ≤ 1000000) ∧ P (.lst (List.replicate k.toNat ds).flatten)) := by
  show OkO (if (-(2 ^ 63) ≤ k ∧ k < 2 ^ 63) ∧ ds.length * k.toNat ≤ 1000000 then some (D.lst (List.replicate k.toNat ds).flatten) else none) P = _
  rw [oko_ite]
theorem o_mul_iiF {μ : Mu} {i j : Int} {P : D → Prop} : OkO (fMul μ (.int i) (.int j)) P = (mulOk i j = true ∧ P (.int (i * j))) := by
  rw [← oko_ite]
  by_cases h : mulOk i j = true
  · rw [if_pos h]; show OkO (match (if mulOk i j = true then some (D.int (i * j)) else none) with | some z => some z | none => none) P = _; rw [if_pos h]
  · rw [if_neg h]; show OkO (match (if mulOk i j = true then some (D.int (i * j)) else none) with | some z => some z | none => none) P = _; rw [if_neg h]
theorem o_isn_non {μ : Mu} {P : D → Prop} : OkO (fIs true μ .non .non) P = P (.bl false) := id rfl
theorem o_isn_int {μ : Mu} {i : Int} {P : D → Prop} : OkO (fIs true μ (.int i) .non) P = P (.bl true) := id rfl
theorem o_isn_tup {μ : Mu} {i : List D} {P : D → Prop} : OkO (fIs true μ (.tup i) .non) P = P (.bl true) := id rfl
theorem o_isn_lst {μ : Mu} {i : List D} {P : D → Prop} : OkO (fIs true μ (.lst i) .non) P = P (.bl true) := id rfl
theorem o_isn_str {μ : Mu} {i : Str} {P : D → Prop} : OkO (fIs true μ (.str i) .non) P = P (.bl true) := id rfl
theorem o_is_non {μ : Mu} {P : D → Prop} : OkO (fIs false μ .non .non) P = P (.bl true) := id rfl
theorem o_is_int {μ : Mu} {i : Int} {P : D → Prop} : OkO (fIs false μ (.int i) .non) P = P (.bl false) := id rfl
theorem o_is_tup {μ : Mu} {i : List D} {P : D → Prop} : OkO (fIs false μ (.tup i) .non) P = P (.bl false) := id rfl
theorem o_is_lst {μ : Mu} {i : List D} {P : D → Prop} : OkO (fIs false μ (.lst i) .non) P = P (.bl false) := id rfl
theorem o_is_str {μ : Mu} {i : Str} {P : D → Prop} : OkO (fIs false μ (.str i) .non) P = P (.bl false) := id rfl
/-- of at most n hex figures -/
def Dg (n : Nat) (x : Int) : Prop := x.natAbs < 16 ^ n
theorem Dg.mono {a b : Nat} {x : Int} (h : Dg a x) (hl : a ≤ b) : Dg b x := Nat.lt_of_lt_of_le h (Nat.pow_le_pow_right (by decide) hl)
theorem Dg.mul {a b : Nat} {x y : Int} (h : Dg a x) (h2 : Dg b y) : Dg (a + b) (x * y) := by
  unfold Dg at h h2 ⊢
  rw [Int.natAbs_mul, Nat.pow_add]
  exact Nat.mul_lt_mul_of_lt_of_lt h h2
theorem Dg.add {a b : Nat} {x y : Int} (h : Dg a x) (h2 : Dg b y) : Dg (max a b + 1) (x + y) := by
  have h := h.mono (Nat.le_max_left a b)
  have h2 := h2.mono (Nat.le_max_right a b)
  unfold Dg at h h2 ⊢
  rw [Nat.pow_succ]
  have := Int.natAbs_add_le x y
  omega
theorem Dg.neg {a : Nat} {x : Int} (h : Dg a x) : Dg a (-x) := by
  unfold Dg at h ⊢
  rw [Int.natAbs_neg]
  exact h
theorem Dg.sub {a b : Nat} {x y : Int} (h : Dg a x) (h2 : Dg b y) : Dg (max a b + 1) (x - y) := by
  rw [Int.sub_eq_add_neg]
  exact h.add h2.neg
theorem Dg.half {a : Nat} {x : Int} (h : Dg a x) : Dg a (x.fdiv 2) := by
  unfold Dg at h ⊢
  rw [Int.fdiv_eq_ediv_of_nonneg _ (by decide)]
  omega
theorem Dg.lit {x : Int} {a : Nat} (h : x.natAbs < 16) (ha : 1 ≤ a) : Dg a x := Nat.lt_of_lt_of_le (show x.natAbs < 16 ^ 1 from h) (Nat.pow_le_pow_right (show 16 > 0 by decide) ha)
theorem Dg.ok {a b : Nat} {x y : Int} (h : Dg a x) (h2 : Dg b y) (ha : a ≤ 50000) (hb : b ≤ 50000) : mulOk x y = true := by
  have e : (16 : Nat) ^ 50000 = 2 ^ 200000 := by rw [show (16 : Nat) = 2 ^ 4 from rfl, ← Nat.pow_mul]
  have h := h.mono ha
  have h2 := h2.mono hb
  unfold Dg at h h2
  rw [e] at h h2
  exact mul_small h h2
theorem dg30 {x : Int} (h : x.natAbs < 10 ^ 30) : Dg 25 x := Nat.lt_trans h (by decide)
theorem fdOk_dg {s : Int} {a : Nat} (h : Dg a s) (ha : a ≤ 2000) (h0 : s ≠ 0) : fdOk s = true := by
  unfold fdOk
  rw [Bool.and_eq_true]
  refine ⟨by simpa using h0, Nat.ble_eq_true_of_le ?_⟩
  have hn : s.natAbs ≠ 0 := by omega
  have h2 := h.mono ha
  unfold Dg at h2
  rw [show (16 : Nat) = 2 ^ 4 from rfl, ← Nat.pow_mul] at h2
  have := (Nat.log2_lt hn).mpr h2
  omega
theorem fdOk_small {s : Int} (h : s.natAbs < 16 ^ 20) (h0 : s ≠ 0) : fdOk s = true := fdOk_dg (a := 20) h (by decide) h0
theorem Dg.fdiv {a : Nat} {x m : Int} (h : Dg a x) (hm : 0 < m) : Dg a (x.fdiv m) := by
  have e : (x.fdiv m).natAbs ≤ x.natAbs := by
    rw [Int.fdiv_eq_ediv_of_nonneg _ (by omega)]
    by_cases hx : 0 ≤ x
    · have h1 := Int.ediv_nonneg hx (Int.le_of_lt hm)
      have h2 := Int.ediv_le_self m hx
      omega
    · have h1 : x ≤ x / m := Int.le_ediv_of_mul_le hm (by
        have : x * m ≤ x * 1 := Int.mul_le_mul_of_nonpos_left (by omega) (by omega)
        omega)
      have h2 : x / m < 0 := Int.ediv_neg_of_neg_of_pos (by omega) hm
      omega
  exact Nat.lt_of_le_of_lt e h
theorem tri2 (n : Int) : 2 * (n * (n - 1)).fdiv 2 = n * (n - 1) := by
  rw [Int.fdiv_eq_ediv_of_nonneg _ (by decide)]
  have h : ∃ z, n * (n - 1) = 2 * z := by
    have : n % 2 = 0 ∨ n % 2 = 1 := by omega
    rcases this with h | h
    · exact ⟨n / 2 * (n - 1), by rw [← Int.mul_assoc, show 2 * (n / 2) = n by omega]⟩
    · exact ⟨n * (n / 2), by rw [Int.mul_left_comm, show 2 * (n / 2) = n - 1 by omega]⟩
  obtain ⟨z, hz⟩ := h
  rw [hz]
  omega
theorem o_tuple_loc {μ : Mu} {n : Nat} {ds : List D} (h : μ[n]? = some (.lst ds)) {P : D → Prop} : OkO (fTuple μ [.loc n]) P = P (.tup ds) := by
  have e : fTuple μ [.loc n] = some (.tup ds) := by
    show (seqA μ (.loc n)).map D.tup = _
    unfold seqA seqL
    simp only [h, Option.map_some]
  rw [e, oko_some]
/-- found, or nothing -/
def optD : Option D → D
  | some d => d
  | none => .non
theorem cut_2of3 {a b c : D} : cutL [a, b, c] none (some 2) = [a, b] := rfl
theorem o_ne_2 {μ : Mu} {a b x y : Int} {P : D → Prop} : OkO (fNe μ (.tup [.int a, .int b]) (.tup [.int x, .int y])) P = P (.bl (!(decide (a = x) && (decide (b = y) && true)))) := id rfl
theorem o_eq_2 {μ : Mu} {a b x y : Int} {P : D → Prop} : OkO (fEq μ (.tup [.int a, .int b]) (.tup [.int x, .int y])) P = P (.bl (decide (a = x) && (decide (b = y) && true))) := id rfl
theorem o_ne_bb {μ : Mu} {a b : Bool} {P : D → Prop} : OkO (fNe μ (.bl a) (.bl b)) P = P (.bl (!(a == b))) := id rfl
theorem o_eq_bb {μ : Mu} {a b : Bool} {P : D → Prop} : OkO (fEq μ (.bl a) (.bl b)) P = P (.bl (a == b)) := id rfl
theorem o_tru_b {μ : Mu} {b : Bool} {P : Bool → Prop} : OkO (truD μ (.bl b)) P = P b := id rfl
theorem o_tru_i {μ : Mu} {i : Int} {P : Bool → Prop} : OkO (truD μ (.int i)) P = P (i != 0) := id rfl
theorem o_tru_t {μ : Mu} {xs : List D} {P : Bool → Prop} : OkO (truD μ (.tup xs)) P = P (!xs.isEmpty) := id rfl
theorem o_tru_l {μ : Mu} {xs : List D} {P : Bool → Prop} : OkO (truD μ (.lst xs)) P = P (!xs.isEmpty) := id rfl
theorem o_tru_n {μ : Mu} {P : Bool → Prop} : OkO (truD μ .non) P = P false := id rfl
theorem natabsN {n : Nat} : Int.natAbs (no_index (@OfNat.ofNat Int n _)) = @OfNat.ofNat Nat n _ := rfl
theorem toNatN {n : Nat} : Int.toNat (no_index (@OfNat.ofNat Int n _)) = @OfNat.ofNat Nat n _ := rfl
def mulOkX : Int → Int → Bool := mulOk
theorem mulOkL {n : Nat} {j : Int} : mulOk (no_index (@OfNat.ofNat Int n _)) j = (decide (@OfNat.ofNat Nat n _ < 18446744073709551616) || mulOkX (@OfNat.ofNat Int n _) j) := by
  by_cases h : @OfNat.ofNat Nat n _ < 18446744073709551616
  · rw [mul_l (i := @OfNat.ofNat Int n _) (show n < 2 ^ 64 from h), decide_eq_true h]; rfl
  · rw [decide_eq_false h]; rfl
theorem mulOkR {n : Nat} {j : Int} : mulOk j (no_index (@OfNat.ofNat Int n _)) = (decide (@OfNat.ofNat Nat n _ < 18446744073709551616) || mulOkX j (@OfNat.ofNat Int n _)) := by
  by_cases h : @OfNat.ofNat Nat n _ < 18446744073709551616
  · rw [mul_r (j := @OfNat.ofNat Int n _) (show n < 2 ^ 64 from h), decide_eq_true h]; rfl
  · rw [decide_eq_false h]; rfl
theorem castN {n : Nat} : ((no_index (@OfNat.ofNat Nat n _) : Nat) : Int) = @OfNat.ofNat Int n _ := rfl
theorem pick_0 {a : D} : pick [0] [a] = [a] := rfl
theorem pick_01 {a b : D} : pick [0, 1] [a, b] = [a, b] := rfl
theorem pick_10 {a b : D} : pick [1, 0] [a, b] = [b, a] := rfl
theorem pick_012 {a b c : D} : pick [0, 1, 2] [a, b, c] = [a, b, c] := rfl
theorem pick_021 {a b c : D} : pick [0, 2, 1] [a, b, c] = [a, c, b] := rfl
theorem pick_102 {a b c : D} : pick [1, 0, 2] [a, b, c] = [b, a, c] := rfl
theorem pick_120 {a b c : D} : pick [1, 2, 0] [a, b, c] = [b, c, a] := rfl
theorem pick_201 {a b c : D} : pick [2, 0, 1] [a, b, c] = [c, a, b] := rfl
theorem pick_210 {a b c : D} : pick [2, 1, 0] [a, b, c] = [c, b, a] := rfl
end Ar

set_option Elab.async false
set_option linter.all false
set_option maxRecDepth 100000
set_option maxHeartbeats 2000000
/-! Ar13: dicts of the module with text keys -/
namespace Ar
open PySem PySem.Spec PyProof.Rows L2

structure DctC (K : PySem.W.Frag) (w : World) (mg : Str → Option Value) (x : Str) (kvs : List (Str × D)) : Prop where
  gl : mg x = some (.ref (He.ga K x))
  ex : ∃ es n, KDict K w (He.ga K x) es n
  has : ∀ z d, kvs.lookup z = some d → ∃ u v, PySem.W.nsIn K (He.ga K x) z = some (some u) ∧ RelV v u ∧ ∀ ρ F, Dn K ρ F v d
  no : ∀ z, kvs.lookup z = none → PySem.W.nsIn K (He.ga K x) z = some none
def dKIx (kvs : List (Str × D)) (b : DE) : DE := fun Γ μ => (b Γ μ).bind fun y μ1 => match y with
  | .str z => R.of μ1 (kvs.lookup z)
  | _ => .stk
def dKGet (kvs : List (Str × D)) (b f : DE) : DE := fun Γ μ => (b Γ μ).bind fun y μ1 => (f Γ μ1).bind fun z μ2 => match y with
  | .str k => .ok ((kvs.lookup k).getD z) μ2
  | _ => .stk
def KGet (K : PySem.W.Frag) (a : Addr) (k : Str) (r : Option V) : Prop := (∃ u v, PySem.W.nsIn K a k = some (some u) ∧ RelV v u ∧ r = some v) ∨ (PySem.W.nsIn K a k = some none ∧ r = none)
def tKGet2 (K : PySem.W.Frag) (w : World) (td ty tx : TE) : TE := fun σ H Q => td σ H fun x H1 => ∃ a es n, x = .ref a ∧ KDict K w a es n ∧ ty σ H1 fun y H2 => tx σ H2 fun z H3 => ∃ k r, y = .str k ∧ KGet K a k r ∧ Q (r.getD z) H3
section
variable {X : Cx} {E : XK} {o b e f : Expr} {td ty tx : TE} {db df : DE} {pos apos cpos p : Pos}
theorem pe_kget2 (ho : PE X o td) (he : PE X e ty) (hf : PE X f tx) (m : M2 X o "get" apos e f cpos) : PE X (.Call (.Attribute o "get" apos) [e, f] [] cpos) (tKGet2 X.K X.w td ty tx) := by
  refine ⟨fun pins s σ H Q I h => ?_⟩
  refine wpAny_Call_method m.base m.few m.line PySem.F.plainAttrs_dict PySem.F.slot_dict_get PySem.F.type_dict_get (thn (ho.run pins s σ H _ I h) fun u s1 ⟨x, H1, I1, rx, q⟩ => ?_)
  obtain ⟨a, es, n, rfl, kd, q⟩ := q
  obtain rfl : u = Value.ref a := rx
  have mo := fun {s : Shared} {σ : L2.St} {H : Hp} (I : L2.Inv X pins σ H s) => PySem.W.mapOf_K (prog := X.prog) (w := X.w) I.kIn kd.at_ kd.lit
  refine ⟨(mo I1).typeIs, fun b eb => by cases eb; exact ⟨_, I1.kIn _ _ kd.at_, rfl⟩, ?_⟩
  rw [m.trees]
  refine Calls.callWith_builtin rfl (Calls.evalArgs_plain (Calls.spliced_cons (thn (he.run pins s1 σ H1 _ I1 q) fun iv s2 ⟨y, H2, I2, ry, q2⟩ =>
    Calls.spliced_cons (thn (hf.run pins s2 σ H2 _ I2 q2) fun fv s3 ⟨z, H3, I3, rz, k, r, ey, g, q3⟩ => Calls.spliced_nil ?_))))
  subst ey
  obtain ⟨t, rfl⟩ := (show ∃ t, iv = Value.str k t from ry)
  rcases g with ⟨u0, v0, hn, ru, rfl⟩ | ⟨hn, rfl⟩
  · refine call_meetsIn PySem.F.slot_dict_get (mo I3).typeIs PySem.F.entry_dict_get (PySem.F.args_dict_get_3 _ _ _) (meets_dict_get_default (strKind X.prog X.w) a (strKind_is X.prog X.w k t) kd.low fv) ⟨_, mo I3, ?_⟩
    rw [PySem.W.find_K kd.at_ hn]
    exact ⟨_, H3, I3.tok _, ru, q3⟩
  · refine call_meetsIn PySem.F.slot_dict_get (mo I3).typeIs PySem.F.entry_dict_get (PySem.F.args_dict_get_3 _ _ _) (meets_dict_get_default (strKind X.prog X.w) a (strKind_is X.prog X.w k t) kd.low fv) ⟨_, mo I3, ?_⟩
    rw [PySem.W.find_K kd.at_ hn]
    exact ⟨_, H3, I3.tok _, rz, q3⟩
theorem q_ixK {x : Str} {kvs : List (Str × D)} (g : DctC X.K X.w X.mg x kvs) (hb : QE X E b db) (hg : Gl X x := by rfl) (hs : PlainIx b := by exact fun _ _ => rfl) (hd : (x == ("__debug__" : Str)) = false := by decide) : QE X E (.Subscript (.Name x p) b pos) (dKIx kvs db) := by
  obtain ⟨tb, b1, b2⟩ := hb.ex
  refine ⟨_, pe_ix (ta := tC (.ref (He.ga X.K x))) ix_kdict (pe_glob hg g.gl rfl hd) b1 hs, ?_⟩
  intro ρ F H Γ μ σ k s Q h
  refine b2 ρ F H Γ μ σ k s _ ((WpR.bind h).mono (fun y μ1 q => ?_) fun _ _ q => q)
  intro ρ1 F1 H1 v n1 k1 r1
  cases r1 with
  | str z =>
    obtain ⟨d, e, q⟩ := WpR.of q
    obtain ⟨es, n, kd⟩ := g.ex
    obtain ⟨u, v, hn, ru, hv⟩ := g.has z d e
    exact ⟨_, z, v, rfl, rfl, ⟨es, n, u, kd.at_, kd.lit, hn, ru⟩, q ρ1 F1 H1 v n1 k1 (hv _ _)⟩
  | _ => exact False.elim q
theorem q_getK {x : Str} {kvs : List (Str × D)} (g : DctC X.K X.w X.mg x kvs) (hb : QE X E e db) (hf : QE X E f df) (hg : Gl X x := by rfl) (hd : (x == ("__debug__" : Str)) = false := by decide)
    (hbase : attributeBase (.Name x p) "get" X.env (eval (.Name x p) X.env) = eval (.Name x p) X.env := by rfl)
    (hfew : ((backTo cpos (starEach [e, f] X.env)).all (fun x => !x.1) && (backToKw cpos (keywordEach [] X.env)).all (fun x => x.1.isSome) && decide (([e, f] : List Expr).length + ([] : List Keyword).length + (if ([] : List Keyword).isEmpty then 0 else 1) < 30)) = true := by rfl)
    (hline : (apos.endLine == cpos.line) = true := by rfl) (htr : backTo cpos (starEach [e, f] X.env) = [(false, eval e X.env), (false, eval f X.env)] := by rfl) : QE X E (.Call (.Attribute (.Name x p) "get" apos) [e, f] [] cpos) (dKGet kvs db df) := by
  obtain ⟨tb, b1, b2⟩ := hb.ex
  obtain ⟨tf, f1, f2⟩ := hf.ex
  refine ⟨_, pe_kget2 (pe_glob (v := .ref (He.ga X.K x)) hg g.gl rfl hd) b1 f1 ⟨hbase, hfew, hline, htr⟩, ?_⟩
  intro ρ F H Γ μ σ k s Q h
  obtain ⟨es, n, kd⟩ := g.ex
  refine ⟨_, es, n, rfl, kd, ?_⟩
  refine b2 ρ F H Γ μ σ k s _ ((WpR.bind h).mono (fun y μ1 q => ?_) fun _ _ q => q)
  intro ρ1 F1 H1 v n1 k1 r1
  refine f2 ρ1 F1 H1 Γ μ1 σ k1 (s.nx n1) _ ((WpR.bind q).mono (fun z μ2 q => ?_) fun _ _ q => XP.nx n1 q)
  intro ρ2 F2 H2 w n2 k2 r2
  cases r1 with
  | str y =>
    have q : QV X.K ρ F H Q ((kvs.lookup y).getD z) μ2 := q
    cases e : kvs.lookup y with
    | none =>
      rw [e] at q
      exact ⟨y, none, rfl, .inr ⟨g.no y e, rfl⟩, q ρ2 F2 H2 w (n1.trans n2) k2 r2⟩
    | some d =>
      rw [e] at q
      obtain ⟨u, v, hn, ru, hv⟩ := g.has y d e
      exact ⟨y, some v, rfl, .inl ⟨u, v, hn, ru, rfl⟩, q ρ2 F2 H2 v (n1.trans n2) k2 (hv _ _)⟩
  | _ => exact False.elim q
end
/-! ### the head with tables -/
def obsY (fa : List He.Fa) (fn : List He.DefD) (ts : List He.Tab) (ex : PySem.W.Frag → Bool) (K : PySem.W.Frag) : He.AlT := (obsX fa fn ex K, ts.map fun t => He.dicW K (t.1 K))
def SaysY (fa : List He.Fa) (fn : List He.DefD) (ts : List He.Tab) (ex : PySem.W.Frag → Bool) (w : World) (K : PySem.W.Frag) : Prop := obsY fa fn ts ex K = He.valT fn ts w
def obsYG (n : Nat) (fa : List He.Fa) (fn : List He.DefD) (ts : List He.Tab) (ex : PySem.W.Frag → Bool) (g : Addr → Option Obj) : He.AlT := obsY fa fn ts ex (He.frG g (He.asD g n))
def hookY (n : Nat) (fa : List He.Fa) (fn : List He.DefD) (ts : List He.Tab) (ex : PySem.W.Frag → Bool) : PySem.W.Hook where
  α := He.AlT
  obs := fun s => obsYG n fa fn ts ex s.heap.get?
  val := fun w => He.valT fn ts w
  says := fun w h => ∃ K : PySem.W.Frag, K.In h ∧ SaysY fa fn ts ex w K
  of := fun _ _ e => ⟨_, He.frG_in, e⟩
  keeps := fun _ _ _ ⟨K, hK, c⟩ k => ⟨K, PySem.W.Frag.In.keeps hK k, c⟩
theorem obsYG_eq {n : Nat} {fa : List He.Fa} {fn : List He.DefD} {ts : List He.Tab} {ex : PySem.W.Frag → Bool} {g : Addr → Option Obj} {s : Shared} (h : ∀ a, g a = s.heap.get? a) : obsYG n fa fn ts ex g = (hookY n fa fn ts ex).obs s := by
  have e : g = s.heap.get? := funext h
  rw [e] <;> rfl
theorem SaysY.x {fa : List He.Fa} {fn : List He.DefD} {ts : List He.Tab} {ex : PySem.W.Frag → Bool} {w : World} {K : PySem.W.Frag} (c : SaysY fa fn ts ex w K) : SaysX fa fn ex K := congrArg (fun z : He.AlT => z.1) c
theorem SaysY.tab {fa : List He.Fa} {fn : List He.DefD} {ts : List He.Tab} {ex : PySem.W.Frag → Bool} {w : World} {K : PySem.W.Frag} (c : SaysY fa fn ts ex w K) (i : Nat) {t : He.Tab} (h : ts[i]? = some t := by rfl) : ∃ es n, KDict K w (t.1 K) es n := by
  have e : ts.map (fun t => He.dicW K (t.1 K)) = ts.map fun t => some (He.keysIn w.params t.2) := congrArg (fun z : He.AlT => z.2) c
  have e2 : (ts.map fun t => He.dicW K (t.1 K))[i]? = (ts.map fun t => some (He.keysIn w.params t.2))[i]? := by rw [e]
  rw [List.getElem?_map, List.getElem?_map, h] at e2
  exact He.dicW_ok (Option.some.inj e2)
/-- a table's value: flat, or a tuple of flat ones -/
inductive Tv where
  | one (v : He.Dv)
  | tup (vs : List He.Dv)
def Tv.d : Tv → Option D
  | .one v => dvD v
  | .tup vs => (dvDs vs).map .tup
def tupAt (K : PySem.W.Frag) (a : Addr) (vs : List He.Dv) : Bool := match K.lookup a with
  | some ⟨.type c, _, .seq its _, _⟩ => decide (c = "tuple") && (decide (its.size ≤ sizeLine) && He.relAll (vs.map (He.Dv.v K)) its.toList)
  | _ => false
theorem tupAt_ok {K : PySem.W.Frag} {a : Addr} {vs : List He.Dv} (h : tupAt K a vs = true) (H : Hp) : SqT K H a (vs.map (He.Dv.v K)) := by
  unfold tupAt at h
  split at h
  · rename_i c od its n sl q
    obtain ⟨h1, h2⟩ := He.ba h
    obtain ⟨h3, h4⟩ := He.ba h2
    exact .inr ⟨_, its, n, q, congrArg Value.type (of_decide_eq_true h1), rfl, of_decide_eq_true h3, He.relAll_ok h4⟩
  · cases h
def tvB (K : PySem.W.Frag) (u : Value) : Tv → Bool
  | .one v => He.relB (v.v K) u
  | .tup vs => match u with
    | .ref a => tupAt K a vs
    | _ => false
def tabB (K : PySem.W.Frag) (x : Str) (kvs : List (Str × Tv)) : Bool := (kvs.all fun q => match PySem.W.nsIn K (He.ga K x) q.1 with
  | some (some u) => tvB K u q.2
  | _ => false) && match K.lookup (He.ga K x) with
  | some ⟨_, _, .dict es _, _⟩ => es.toList.all fun e => match e.key with
    | .str z _ => (kvs.map (·.1)).contains z
    | _ => false
  | _ => false
def tvD : List (Str × Tv) → Option (List (Str × D))
  | [] => some []
  | (k, v) :: r => match v.d, tvD r with
    | some d, some ds => some ((k, d) :: ds)
    | _, _ => none
theorem tvD_has : ∀ {kvs : List (Str × Tv)} {ds : List (Str × D)} {z : Str} {d : D}, tvD kvs = some ds → ds.lookup z = some d → ∃ v, (z, v) ∈ kvs ∧ v.d = some d
  | [], _, z, d, h, e => by cases h; cases e
  | (k, v) :: r, ds, z, d, h, e => by
    unfold tvD at h
    split at h
    · rename_i d1 ds1 e1 e2
      cases h
      rw [List.lookup_cons] at e
      split at e
      · rename_i hz
        cases e
        have : z = k := by simpa using hz
        subst this
        exact ⟨v, List.mem_cons_self, e1⟩
      · obtain ⟨v2, m, e3⟩ := tvD_has e2 e
        exact ⟨v2, List.mem_cons_of_mem _ m, e3⟩
    · cases h
theorem tvD_no : ∀ {kvs : List (Str × Tv)} {ds : List (Str × D)} {z : Str}, tvD kvs = some ds → ds.lookup z = none → z ∉ kvs.map (·.1)
  | [], _, z, h, e => by simp
  | (k, v) :: r, ds, z, h, e => by
    unfold tvD at h
    split at h
    · rename_i d1 ds1 e1 e2
      cases h
      rw [List.lookup_cons] at e
      split at e
      · cases e
      · rename_i hz
        have h1 := tvD_no e2 e
        simp only [List.map_cons, List.mem_cons, not_or]
        exact ⟨by simpa using hz, h1⟩
    · cases h
theorem glo_dct {K : PySem.W.Frag} {w : World} {h : Heap} {mg : Str → Option Value} {x : Str} {kvs : List (Str × Tv)} {ds : List (Str × D)} (X : K.In h) (G : h.Ns mainGlobals mg) (c1 : (He.Fa.glo x).ok K = true) (c2 : ∃ es n, KDict K w (He.ga K x) es n) (c3 : tabB K x kvs = true) (e : tvD kvs = some ds) : DctC K w mg x ds := by
  obtain ⟨h1, h2⟩ := He.ba c3
  refine ⟨He.glo_ok X G c1, c2, fun z d hz => ?_, fun z hz => ?_⟩
  · obtain ⟨v, hm, hv⟩ := tvD_has e hz
    have h3 := List.all_eq_true.mp h1 (z, v) hm
    split at h3
    · rename_i u hn
      cases v with
      | one v => exact ⟨u, v.v K, hn, He.relB_ok h3, fun ρ F => dvD_ok hv ρ F⟩
      | tup vs =>
        cases u with
        | ref a =>
          have hv : (dvDs vs).map D.tup = some d := hv
          cases hd : dvDs vs with
          | none => rw [hd] at hv; cases hv
          | some xs =>
            rw [hd] at hv
            cases hv
            exact ⟨_, .ref a, hn, rfl, fun ρ F => .tup (tupAt_ok h3 F) (dvDs_ok ρ F hd)⟩
        | _ => cases h3
    · cases h3
  · have hn := tvD_no e hz
    unfold PySem.W.nsIn
    split at h2
    · rename_i c od es n sl q
      rw [q]
      have h3 := List.all_eq_true.mp h2
      have f1 : es.toList.find? (·.key.isStr z) = none := by
        rw [List.find?_eq_none]
        intro e he
        have h4 := h3 e he
        split at h4
        · rename_i y t ek
          rw [ek]
          intro hc
          have : y = z := by
            have hc : (y == z) = true := hc
            simpa using hc
          subst this
          exact hn (by simpa using h4)
        · cases h4
      have f2 : es.toList.any (·.refKey) = false := by
        rw [List.any_eq_false]
        intro e he
        have h4 := h3 e he
        split at h4
        · rename_i y t ek
          unfold DictEntry.refKey
          rw [ek]
          simp
        · cases h4
      simp only [f1, f2]
      rfl
    · cases h2
end Ar

set_option Elab.async false
set_option linter.all false
set_option maxRecDepth 100000
set_option maxHeartbeats 2000000
/-! Ar14: texts: text * int, text[::-1]; dict(pairs), d[k] of a dict that never changes -/
namespace Ar
open PySem PySem.Spec PyProof.Rows L2

def rMulS : R2 := fun x y H Q => ∃ (z : Str) (n : Int), x = .str z ∧ y = .int n ∧ PySem.MulOk z n ∧ Q (.str (Txt.mul z n)) H
section
variable {X : Cx}
theorem op_mulS : OpR X (binaryOp .Mult) rMulS := by
  intro pins s σ H x y v u Q I rx ry h
  obtain ⟨z, n, rfl, rfl, ok, q⟩ := h
  obtain ⟨t, rfl⟩ := (show ∃ t, v = Value.str z t from rx)
  obtain ⟨t', rfl⟩ := (show ∃ t, u = Value.int n t from ry)
  exact SB.mul ok fun t k => ⟨.str (Txt.mul z n), H, I.tok _, ⟨t, rfl⟩, q⟩
def fMulS := fun (_ : Mu) (x y : D) => match x, y with
  | .str z, .int n => if n.natAbs < 1000000 ∧ z.length * n.toNat ≤ 1000000 then some (D.str (Txt.mul z n)) else none
  | _, _ => none
theorem mulOk_S {z : Str} {n : Int} (h1 : n.natAbs < 1000000) (h2 : z.length * n.toNat ≤ 1000000) : PySem.MulOk z n := by
  refine ⟨by simp; omega, fun h3 _ => ?_, fun h3 _ => ?_⟩
  · have hp : 0 < n := by omega
    have : (z.length : Int) * n ≤ 1000000 := by
      have : ((z.length * n.toNat : Nat) : Int) ≤ 1000000 := by omega
      rw [Int.natCast_mul, Int.toNat_of_nonneg (by omega)] at this
      exact this
    have h4 : (z.length : Int) ≤ (2 ^ 63 - 1) / n := Int.le_ediv_of_mul_le hp (by omega)
    omega
  · show decide (z.length * n.toNat > sizeLine) = false
    exact decide_eq_false (Nat.not_lt_of_le (le_million h2))
theorem od_mulS : OpD X (binaryOp .Mult) fMulS := by
  refine ⟨_, op_mulS, fun ρ F H μ v w d e z k rv rw' ez Q q => ?_⟩
  unfold fMulS at ez
  split at ez
  · split at ez
    · rename_i hl
      cases ez
      cases rv
      cases rw'
      exact ⟨_, _, rfl, rfl, mulOk_S hl.1 hl.2, q ρ F H _ Nx.refl k (.str _)⟩
    · cases ez
  · cases ez
theorem fm_congr {α β : Type} {f g : α → Option β} : ∀ {l : List α}, (∀ x ∈ l, f x = g x) → l.filterMap f = l.filterMap g
  | [], _ => rfl
  | x :: l, h => by
    rw [List.filterMap_cons, List.filterMap_cons, h x List.mem_cons_self, fm_congr fun y hy => h y (List.mem_cons_of_mem _ hy)]
theorem rev_range (l : List Nat) : (List.range l.length).filterMap (fun k => l[l.length - 1 - k]?) = l.reverse := by
  have h : (List.range l.length).filterMap (fun k => l[l.length - 1 - k]?) = (List.range l.length).filterMap (fun k => some (l.reverse.getD k 0)) := by
    refine fm_congr fun k hk => ?_
    have hk := List.mem_range.mp hk
    rw [List.getD_eq_getElem?_getD, List.getElem?_reverse hk, List.getElem?_eq_getElem (by omega)]
    rfl
  rw [h, show (fun k => some (l.reverse.getD k 0)) = some ∘ fun k => l.reverse.getD k 0 from rfl, List.filterMap_eq_map]
  apply List.ext_getElem
  · simp
  · intro i h1 h2
    have h3 : i < l.length := by simpa using h2
    rw [List.getElem_map, List.getElem_range, List.getD_eq_getElem?_getD, List.getElem?_eq_getElem h2]
    rfl
def revS (z : Str) : Str := ⟨z.cps.toList.reverse.toArray⟩
def tRevS (te : TE) : TE := fun σ H Q => te σ H fun x H1 => ∃ z : Str, x = .str z ∧ z.length ≤ sizeLine ∧ Q (.str (revS z)) H1
theorem pe_revS {e : Expr} {te : TE} {k : Nat} {p1 p2 p3 pos : Pos} (he : PE X e te) : PE X (.Subscript e (.Slice none none (some (.UnaryOp .USub (.Constant (.int 1) k p1) p2)) p3) pos) (tRevS te) := by
  have minus : PO X (some (.UnaryOp .USub (.Constant (.int 1) k p1) p2)) (tPart (tUn (rU fun i => .int (-i)) (tC (.int 1)))) := po_some (pe_un un_neg pe_int)
  refine ⟨fun pins s σ H Q I h => Subscript_ (thn (he.run pins s σ H _ I h) fun v s1 hv => ?_)⟩
  obtain ⟨x, H1, I1, r1, z, rfl, hz, q⟩ := hv
  obtain ⟨tk, rfl⟩ := (show ∃ t, v = Value.str z t from r1)
  refine wpAny_Slice (thn (po_none.run pins s1 σ H1 (fun o G => o = none ∧ G = H1) I1 ⟨rfl, rfl⟩) fun lv s2 hl => ?_)
  obtain ⟨ol, G2, I2, pl, rfl, rfl⟩ := hl
  refine thn (po_none.run pins s2 σ G2 (fun o G => o = none ∧ G = G2) I2 ⟨rfl, rfl⟩) fun uv s3 hu => ?_
  obtain ⟨ou, G3, I3, pu, rfl, rfl⟩ := hu
  refine thn (minus.run pins s3 σ G3 (fun o G => o = some (-1) ∧ G = G3) I3 ⟨1, rfl, -1, rfl, rfl, rfl⟩) fun sv s4 hs => ?_
  obtain ⟨os, G4, I4, ps, rfl, rfl⟩ := hs
  cases pl
  cases pu
  cases ps
  rename_i t2
  have I5 : L2.Inv X pins σ G4 { s4 with heap := s4.heap.push { cls := .type "slice", data := .fields #[Value.none, Value.none, Value.int (-1) t2] } } := I4.kept (t' := s4.toks) fun b ob q => Heap.get?_push_of_some _ q
  refine tail_any (ops := [.str z tk, .ref s4.heap.objs.size]) (typeIs_str _ _ _) (PySem.F.slot_str_getitem.lookup) ?_ (by with_unfolding_all rfl)
  refine wpAny_getItem_str_slice (l := none) (u := none) (st := some (-1, t2)) ⟨_, Heap.get?_push_size _ rfl, rfl, rfl⟩ rfl ?_
  have e2 : Builtin.Str.strSliceIndices none none (-1) z.length = (List.range z.length).map fun k => z.length - 1 - k := PySem.W.krv_sliceRange z.length
  have e1 : sliceMade z tk none none (some (-1, t2)) = .str (revS z) := by
    unfold sliceMade
    rw [if_neg (by simp)]
    show Made.str ⟨((Builtin.Str.strSliceIndices none none (-1) z.length).filterMap (z.cps[·]?)).toArray⟩ = .str (revS z)
    rw [e2, List.filterMap_map]
    have e3 : (List.range z.length).filterMap ((fun x => z.cps[x]?) ∘ fun k => z.length - 1 - k) = z.cps.toList.reverse := by
      have := rev_range z.cps.toList
      rw [Array.length_toList] at this
      rw [← this]
      exact fm_congr fun k _ => by simp [Str.length]
    rw [e3]
    rfl
  rw [e1]
  exact ⟨by show (revS z).length ≤ sizeLine; unfold revS Str.length; simpa [Str.length] using hz, .str _, G4, I5.tok _, ⟨_, rfl⟩, q⟩
def dRevS (e : DE) : DE := fun Γ μ => (e Γ μ).bind fun x μ1 => match x with
  | .str z => if z.length ≤ 1000000 then .ok (.str (revS z)) μ1 else .stk
  | _ => .stk
theorem q_revS {E : XK} {e : Expr} {de : DE} {k : Nat} {p1 p2 p3 pos : Pos} (he : QE X E e de) : QE X E (.Subscript e (.Slice none none (some (.UnaryOp .USub (.Constant (.int 1) k p1) p2)) p3) pos) (dRevS de) := by
  obtain ⟨te, a1, a2⟩ := he.ex
  refine ⟨_, pe_revS a1, ?_⟩
  intro ρ F H Γ μ σ k s Q h
  refine a2 ρ F H Γ μ σ k s _ ((WpR.bind h).mono (fun x μ1 q => ?_) fun _ _ q => q)
  intro ρ1 F1 H1 v n1 k1 r1
  cases r1 with
  | str z =>
    have q : WpR (if z.length ≤ 1000000 then .ok (D.str (revS z)) μ1 else .stk) _ _ := q
    split at q
    · rename_i hl
      exact ⟨z, rfl, le_million hl, q ρ1 F1 H1 _ n1 k1 (.str _)⟩
    · exact False.elim q
  | _ => exact False.elim q
end
end Ar

set_option Elab.async false
set_option linter.all false
set_option maxRecDepth 100000
set_option maxHeartbeats 2000000
/-! Ar15: dict(pairs), d[k] of a dict that never changes -/
namespace Ar
open PySem PySem.Spec PyProof.Rows L2

def keyD : D → Option Key
  | .int i => some (.inl i)
  | .str x => some (.inr x)
  | _ => none
theorem keyD_ok {K : PySem.W.Frag} {ρ : List Addr} {F : Hp} {v : V} {d : D} {k : Key} (r : Dn K ρ F v d) (h : keyD d = some k) : v = kV k := by
  cases r <;> cases h <;> rfl
def getD' (kvs : List (Key × D)) (k : Key) : Option D := (kvs.find? fun kv => decide (kv.1 = k)).map (·.2)
theorem DnK.get {K : PySem.W.Frag} {ρ : List Addr} {F : Hp} {k : Key} {d : D} : ∀ {vs : List (Key × V)} {ds : List (Key × D)}, DnK K ρ F vs ds → getD' ds k = some d → ∃ v, valV vs k = some v ∧ Dn K ρ F v d
  | _, _, .nil, h => by cases h
  | _, _, .cons (f := f) r t, h => by
    unfold getD' at h
    unfold valV
    rw [List.find?_cons] at h ⊢
    by_cases e : f = k
    · rw [decide_eq_true e] at h ⊢
      cases h
      exact ⟨_, rfl, r⟩
    · rw [decide_eq_false e] at h ⊢
      exact DnK.get t h
def dDGet (o i : DE) : DE := fun Γ μ => (o Γ μ).bind fun x μ1 => (i Γ μ1).bind fun y μ2 => match x with
  | .dK kvs => match keyD y with
    | some k => R.of μ2 (getD' kvs k)
    | none => .stk
  | _ => .stk
section
variable {X : Cx} {E : XK} {o i : Expr} {do_ di : DE} {pos : Pos}
theorem q_dget (hu : X.A.units + 64 < cLine) (ho : QE X E o do_) (hi : QE X E i di) (hs : NoSl i := by exact fun _ _ => rfl) : QE X E (.Subscript o i pos) (dDGet do_ di) := by
  obtain ⟨to, o1, o2⟩ := ho.ex
  obtain ⟨ti, i1, i2⟩ := hi.ex
  refine ⟨_, pe_dget (by omega) o1 i1 hs, ?_⟩
  intro ρ F H Γ μ σ k s Q h
  refine o2 ρ F H Γ μ σ k s _ ((WpR.bind h).mono (fun x μ1 q => ?_) fun _ _ q => q)
  intro ρ1 F1 H1 v n1 k1 r1
  refine i2 ρ1 F1 H1 Γ μ1 σ k1 (s.nx n1) _ ((WpR.bind q).mono (fun y μ2 q => ?_) fun _ _ q => XP.nx n1 q)
  intro ρ2 F2 H2 w n2 k2 r2
  have r1 := r1.nx n2
  split at q
  · rename_i kvs
    split at q
    · rename_i ky ek
      obtain ⟨d, ed, q⟩ := WpR.of q
      cases r1 with
      | dK h1 h2 =>
        obtain ⟨v0, ev, rv⟩ := h2.get ed
        refine ⟨_, v0, rfl, ?_, q ρ2 F2 H2 v0 (n1.trans n2) k2 rv⟩
        rw [keyD_ok r2 ek, ← ev]
        exact DGet.k (k2.ex _ _ h1)
    · exact False.elim q
  · exact False.elim q
def pairD : D → Option (Key × D)
  | .tup [a, b] => (keyD a).map fun k => (k, b)
  | _ => none
def pairsD : List D → Option (List (Key × D))
  | [] => some []
  | d :: ds => match pairD d, pairsD ds with
    | some p, some ps => some (p :: ps)
    | _, _ => none
theorem mergeK_nd : ∀ (kvs acc : List (Key × V)), ((acc ++ kvs).map (·.1)).Nodup → mergeK acc kvs = acc ++ kvs
  | [], acc, _ => by simp [mergeK]
  | (k, v) :: r, acc, h => by
    have hk : ¬ (acc.any fun kv => decide (kv.1 = k)) = true := by
      intro z
      obtain ⟨p, hp, e⟩ := List.any_eq_true.mp z
      have e := of_decide_eq_true e
      rw [List.map_append, List.nodup_append] at h
      exact h.2.2 p.1 (List.mem_map_of_mem hp) k (by simp) e
    have e1 : mergeK acc ((k, v) :: r) = mergeK (putK acc k v) r := rfl
    rw [e1]
    unfold putK
    rw [if_neg hk, mergeK_nd r (acc ++ [(k, v)]) (by simpa using h)]
    simp
def fDict : Mu → List D → Option D := fun μ ds => match ds with
  | [x] => match seqL μ x with
    | some xs => match pairsD xs with
      | some kvs => if (kvs.map (·.1)).Nodup then some (.dK kvs) else none
      | none => none
    | none => none
  | _ => none
theorem pairs_ok {K : PySem.W.Frag} {ρ : List Addr} {F H : Hp} (ex : Sub F H) : ∀ {ds : List D} {vs : List V} {kvs : List (Key × D)}, pairsD ds = some kvs → DnAll K ρ F vs ds → ∃ (ps : List Addr) (ws : List (Key × V)), vs = ps.map V.ref ∧ Paired (fun p kv => SqT K H p [kV kv.1, kv.2]) ps ws ∧ DnK K ρ F ws kvs ∧ ws.map (·.1) = kvs.map (·.1)
  | [], _, _, h, r => by cases h; cases r; exact ⟨[], [], rfl, .nil, .nil, rfl⟩
  | d :: ds, _, kvs, h, r => by
    cases r with
    | cons r1 r2 =>
      unfold pairsD at h
      split at h
      · rename_i p ps e1 e2
        cases h
        obtain ⟨as, ws, rfl, h3, h4, h5⟩ := pairs_ok ex e2 r2
        unfold pairD at e1
        split at e1
        · rename_i a b
          cases ek : keyD a with
          | none => rw [ek] at e1; cases e1
          | some k =>
            rw [ek] at e1
            cases e1
            cases r1 with
            | tup t1 t2 =>
              cases t2 with
              | cons t2 t3 =>
                cases t3 with
                | cons t3 t4 =>
                  cases t4
                  rename_i pa va vb
                  have := keyD_ok t2 ek
                  subst this
                  exact ⟨_ :: as, (k, _) :: ws, rfl, .cons (ex.sqT t1) h3, .cons t3 h4, by simp [h5]⟩
        · cases e1
      · cases h
theorem cd_dict (hc : X.calm = true) : CallD X (.type "dict") fDict := by
  refine ⟨_, call_dictP hc, fun ρ F H μ vs ds z k rv ez Q q => ?_⟩
  unfold fDict at ez
  split at ez
  · rename_i x
    cases hs : seqL μ x with
    | none => simp only [hs] at ez; cases ez
    | some xs =>
      simp only [hs] at ez
      cases hp : pairsD xs with
      | none => simp only [hp] at ez; cases ez
      | some kvs =>
        simp only [hp] at ez
        split at ez
        · rename_i hn
          cases ez
          cases rv with
          | cons r1 r2 =>
            cases r2
            obtain ⟨a, ws, rfl, h1, h2⟩ := seqL_ok k r1 hs
            obtain ⟨ps, us, rfl, h3, h4, h5⟩ := pairs_ok k.ex hp h2
            refine ⟨a, ps, us, rfl, .inl h1, h3, fun p hq => ?_⟩
            have e : mergeK [] us = us := by
              have := mergeK_nd us [] (by rw [List.nil_append, h5]; exact hn)
              rwa [List.nil_append] at this
            rw [e]
            have n := Nx.newF_ (o := .dK us) k hq
            exact q _ _ _ _ n (k.newF hq) (.dK upd_same (h4.mono n.pre n.ex))
        · cases ez
  · cases ez
end
end Ar

set_option Elab.async false
set_option linter.all false
set_option maxRecDepth 100000
set_option maxHeartbeats 2000000
/-! Ar16: Ok rules of Ar13 to Ar15 -/
namespace Ar
open PySem PySem.Spec PyProof.Rows L2
def OkT (d : D) (P : Str → Prop) : Prop := match d with
  | .str z => P z
  | _ => False
section
variable {Γ : Gam} {μ : Mu} {Q : D → Mu → Prop}
theorem okt {z : Str} {P : Str → Prop} : OkT (.str z) P = P z := id rfl
theorem ok_kIx [ExW] {kvs : List (Str × D)} {b : DE} : Ok (dKIx kvs b Γ μ) Q = Ok (b Γ μ) fun y μ1 => OkT y fun z => OkO (kvs.lookup z) fun d => Q d μ1 := by
  unfold dKIx; rw [ok_bind]; congr 1; funext y μ1
  cases y with
  | str z => exact ok_of
  | _ => rfl
theorem ok_kGet [ExW] {kvs : List (Str × D)} {b f : DE} : Ok (dKGet kvs b f Γ μ) Q = Ok (b Γ μ) fun y μ1 => Ok (f Γ μ1) fun z μ2 => OkT y fun k => Q ((kvs.lookup k).getD z) μ2 := by
  unfold dKGet; rw [ok_bind]; congr 1; funext y μ1; rw [ok_bind]; congr 1; funext z μ2
  cases y <;> rfl
theorem ok_revS [ExW] {e : DE} : Ok (dRevS e Γ μ) Q = Ok (e Γ μ) fun x μ1 => OkT x fun z => z.length ≤ 1000000 ∧ Q (.str (revS z)) μ1 := by
  unfold dRevS; rw [ok_bind]; congr 1; funext x μ1
  cases x with
  | str z => exact ok_ite
  | _ => rfl
def OkD (d : D) (P : List (Key × D) → Prop) : Prop := match d with
  | .dK kvs => P kvs
  | _ => False
theorem okd {kvs : List (Key × D)} {P : List (Key × D) → Prop} : OkD (.dK kvs) P = P kvs := id rfl
theorem ok_dGet [ExW] {o i : DE} : Ok (dDGet o i Γ μ) Q = Ok (o Γ μ) fun x μ1 => Ok (i Γ μ1) fun y μ2 => OkD x fun kvs => OkO (keyD y) fun k => OkO (getD' kvs k) fun d => Q d μ2 := by
  unfold dDGet; rw [ok_bind]; congr 1; funext x μ1; rw [ok_bind]; congr 1; funext y μ2
  cases x with
  | dK kvs =>
    show Ok (match keyD y with | some k => R.of μ2 (getD' kvs k) | none => .stk) Q = OkO (keyD y) fun k => OkO (getD' kvs k) fun d => Q d μ2
    cases keyD y with
    | none => rfl
    | some k => exact ok_of
  | _ => rfl
theorem o_mulS {z : Str} {n : Int} {P : D → Prop} : OkO (fMulS μ (.str z) (.int n)) P = ((n.natAbs < 1000000 ∧ z.length * n.toNat ≤ 1000000) ∧ P (.str (Txt.mul z n))) := by
  show OkO (if n.natAbs < 1000000 ∧ z.length * n.toNat ≤ 1000000 then some (D.str (Txt.mul z n)) else none) P = _
  rw [oko_ite]
end
end Ar

set_option Elab.async false
set_option linter.all false
set_option maxRecDepth 100000
set_option maxHeartbeats 2000000
/-! Ar17: repr of data of any depth -/
namespace Ar
open PySem PySem.Spec PyProof.Rows L2

def rRepr (K : PySem.W.Frag) : List V → Hp → VK → Prop := fun xs H Q => ∃ v d, xs = [v] ∧ Dp K H v d ∧ d.showable = true ∧ d.hasDict = false ∧ d.depth ≤ 60 ∧ d.shown.length ≤ sizeLine ∧ Q (.str d.shown) H
theorem call_reprP {X : Cx} (hg : X.A.guards = some []) (hu : X.A.units + 64 < cLine) : CallR X (.builtin "repr") (rRepr X.K) := by
  intro pins s σ H xs us Q I r h
  obtain ⟨v, d, rfl, hd, hs, hn, hz, hl, q⟩ := h
  obtain ⟨u, rfl, rv⟩ := vals1 r
  cases hd with
  | non => cases rv; exact PySem.P.repr_of_none ⟨.str _, H, I.tok _, ⟨_, rfl⟩, q⟩
  | bl b => cases rv; exact PySem.P.repr_of_bool ⟨.str _, H, I.tok _, ⟨_, rfl⟩, q⟩
  | int i =>
    obtain ⟨t, rfl⟩ := rv
    exact PySem.P.repr_of_int (by simpa [PyData.showable] using hs) ⟨.str _, H, I.tok _, ⟨_, rfl⟩, q⟩
  | str x =>
    obtain ⟨t, rfl⟩ := rv
    exact PySem.P.repr_of_str ⟨.str _, H, I.tok _, ⟨_, rfl⟩, q⟩ hl
  | @lst a _ ds h1 h2 =>
    obtain ⟨as, r1⟩ := Dp.reads I _ _ u (.lst h1 h2) rv
    cases rv
    exact repr_of_reads' r1 hs (fun z => by rw [hn] at z; cases z) hg (by omega) (fun _ _ e => e) (fun h' u tk k => ⟨.str _, H, I.kept k, ⟨_, rfl⟩, q⟩) hl
  | @tup a _ ds h1 h2 =>
    obtain ⟨as, r1⟩ := Dp.reads I _ _ u (.tup h1 h2) rv
    cases rv
    exact repr_of_reads' r1 hs (fun z => by rw [hn] at z; cases z) hg (by omega) (fun _ _ e => e) (fun h' u tk k => ⟨.str _, H, I.kept k, ⟨_, rfl⟩, q⟩) hl
/-- the signs of a text of data are not too many, its ints not too great -/
def showD (d : D) : Bool := plainD 20 d && (toP d).showable && decide ((toP d).shown.length ≤ sizeLine)
def shw (d : D) : Str := (toP d).shown
def fRepr : Mu → List D → Option D := fun μ ds => match ds with
  | [x] => if showD (unloc μ x) = true then some (.str (shw (unloc μ x))) else none
  | _ => none
theorem plain_noDict : ∀ (n : Nat) (d : D), plainD n d = true → (toP d).hasDict = false
  | n, .non, _ => by simp [toP, PyData.hasDict]
  | n, .bl b, _ => by simp [toP, PyData.hasDict]
  | n, .int i, _ => by simp [toP, PyData.hasDict]
  | n, .str i, _ => by simp [toP, PyData.hasDict]
  | 0, .tup ds, h => by simp [plainD] at h
  | 0, .lst ds, h => by simp [plainD] at h
  | n + 1, .tup ds, h => by
    have h1 : ds.all (plainD n) = true := h
    rw [toP, PyData.hasDict]
    clear h
    induction ds with
    | nil => simp [toPs, PyData.hasDictAll]
    | cons d ds ih =>
      rw [List.all_cons, Bool.and_eq_true] at h1
      rw [toPs, PyData.hasDictAll, plain_noDict n d h1.1, ih h1.2]
      rfl
  | n + 1, .lst ds, h => by
    have h1 : ds.all (plainD n) = true := h
    rw [toP, PyData.hasDict]
    clear h
    induction ds with
    | nil => simp [toPs, PyData.hasDictAll]
    | cons d ds ih =>
      rw [List.all_cons, Bool.and_eq_true] at h1
      rw [toPs, PyData.hasDictAll, plain_noDict n d h1.1, ih h1.2]
      rfl
  | n, .scr _, h => by cases n <;> simp [plainD] at h
  | n, .ins _ _, h => by cases n <;> simp [plainD] at h
  | n, .slt _ _, h => by cases n <;> simp [plainD] at h
  | n, .dK _, h => by cases n <;> simp [plainD] at h
  | n, .loc _, h => by cases n <;> simp [plainD] at h
  | n, .glo _, h => by cases n <;> simp [plainD] at h
  | n, .ty _, h => by cases n <;> simp [plainD] at h
  | n, .exn _ _ _ _, h => by cases n <;> simp [plainD] at h
  | n, .adr _, h => by cases n <;> simp [plainD] at h
  | n, .clo _ _ _ _ _, h => by cases n <;> simp [plainD] at h
theorem cd_repr {X : Cx} (hg : X.A.guards = some []) (hu : X.A.units + 64 < cLine) : CallD X (.builtin "repr") fRepr := by
  refine ⟨_, call_reprP hg hu, fun ρ F H μ vs ds z k rv ez Q q => ?_⟩
  unfold fRepr at ez
  split at ez
  · rename_i x
    split at ez
    · rename_i hs
      cases ez
      unfold showD at hs
      rw [Bool.and_eq_true, Bool.and_eq_true, decide_eq_true_eq] at hs
      obtain ⟨⟨h1, h2⟩, h3⟩ := hs
      cases rv with
      | cons r1 r2 =>
        cases r2
        exact ⟨_, _, rfl, dp_un k h1 r1, h2, plain_noDict _ _ h1, Nat.le_trans (plain_toP _ _ h1).2 (by decide), h3, q ρ F H _ Nx.refl k (.str _)⟩
    · cases ez
  · cases ez
/-- sizes: every leaf at most B signs -/
theorem show_le (B : Nat) (hB : 8 ≤ B) (d : D) (h : (toP d).leavesShort B = true) (hw : (B + 2) * (toP d).weight + B ≤ sizeLine) : (toP d).shown.length ≤ sizeLine := Nat.le_trans (PyData.shown_le B hB _ h) hw
theorem o_repr_lst {μ : Mu} {xs : List D} {P : D → Prop} : OkO (fRepr μ [.lst xs]) P = (showD (.lst xs) = true ∧ P (.str (shw (.lst xs)))) := by
  show OkO (if showD (.lst xs) = true then some (D.str (shw (.lst xs))) else none) P = _
  rw [oko_ite]
theorem o_repr_tup {μ : Mu} {xs : List D} {P : D → Prop} : OkO (fRepr μ [.tup xs]) P = (showD (.tup xs) = true ∧ P (.str (shw (.tup xs)))) := by
  show OkO (if showD (.tup xs) = true then some (D.str (shw (.tup xs))) else none) P = _
  rw [oko_ite]
theorem o_repr_b {μ : Mu} {b : Bool} {P : D → Prop} : OkO (fRepr μ [.bl b]) P = P (.str (shw (.bl b))) := by
  show OkO (if showD (.bl b) = true then some (D.str (shw (.bl b))) else none) P = _
  have h : showD (.bl b) = true := by cases b <;> decide +kernel
  rw [if_pos h]
  rfl
theorem o_repr_n {μ : Mu} {P : D → Prop} : OkO (fRepr μ [.non]) P = P (.str (shw .non)) := by
  show OkO (if showD .non = true then some (D.str (shw .non)) else none) P = _
  have h : showD .non = true := by decide +kernel
  rw [if_pos h]
  rfl
theorem show_b1 (a : Bool) : showD (.lst [.bl a]) = true := by cases a <;> decide +kernel
theorem show_b2 (a b : Bool) : showD (.lst [.bl a, .bl b]) = true := by cases a <;> cases b <;> decide +kernel
theorem show_b3 (a b c : Bool) : showD (.lst [.bl a, .bl b, .bl c]) = true := by cases a <;> cases b <;> cases c <;> decide +kernel
theorem shw_true : shw (.bl true) = ("True" : Str) := rfl
end Ar

set_option Elab.async false
set_option linter.all false
set_option maxRecDepth 100000
set_option maxHeartbeats 2000000
/-! Ar18: instances that do not change: plain ones (made by __init__ that keeps its parameters), one with slots; attributes; isinstance -/
namespace Ar
open PySem PySem.Spec PyProof.Rows L2

section
variable {K : PySem.W.Frag} {ρ ρ' : List Addr} {F F' H H' : Hp} {μ μ' : Mu}
/-- an object of both heaps is laid or changed, that nothing tells of -/
theorem HpOk.both (k : HpOk K ρ μ F H) {p : Addr} {o : HO} (hp : p ∉ ρ) (hf : F p = none) : HpOk K ρ μ (upd F p o) (upd H p o) := by
  have sub : Sub F (upd F p o) := fun a u e => by
    rw [upd_ne fun z => by subst z; rw [hf] at e; cases e]
    exact e
  refine ⟨fun a u e => ?_, k.len, k.nd, fun n a u e1 e2 => ?_⟩
  · by_cases h : a = p
    · subst h
      rw [upd_same] at e ⊢
      exact e
    · rw [upd_ne h] at e ⊢
      exact k.ex a u e
  · have ne : a ≠ p := fun z => by subst z; exact hp (List.mem_of_getElem? e1)
    exact (k.mu n a u e1 e2).mono (fun _ _ h => h) sub (upd_ne ne) fun z => by rw [upd_ne ne]; exact z
theorem Nx.outF (x : Nx ρ F H ρ' F' H') {p : Addr} {u : HO} (h : H p = some u) (hp : p ∉ ρ) (hf : F p = none) : p ∉ ρ' ∧ F' p = none ∧ H' p = some u := by
  refine ⟨fun z => ?_, ?_, x.keep p u h hp⟩
  · rcases x.newR p z with q | q
    · exact hp q
    · rw [h] at q; cases q
  · cases e : F' p with
    | none => rfl
    | some o =>
      rcases x.newF p o e with q | q | q
      · rw [hf] at q; cases q
      · rw [h] at q; cases q
      · exact absurd q hp
/-- new objects p, q beside; then growth; then p, q are written in both heaps -/
theorem Nx.around {p q : Addr} {op oq vp vq : HO} {H0 : Hp} (h0 : H0 = upd (upd H q oq) p op) (hp : H p = none) (hq : H q = none) (fp : F p = none) (fq : F q = none) (x : Nx ρ F H0 ρ' F' H') : Nx ρ F H ρ' (upd (upd F' q vq) p vp) (upd (upd H' q vq) p vp) := by
  have up : ∀ {G : Hp} {b : Addr} {u v : HO}, b ≠ p → b ≠ q → upd (upd G q v) p u b = G b := fun h1 h2 => by rw [upd_ne h1, upd_ne h2]
  have h00 : ∀ b, b ≠ p → b ≠ q → H0 b = H b := fun b h1 h2 => by rw [h0]; exact up h1 h2
  have hpq : ∀ b, H0 b = none → H b = none := fun b e => by
    by_cases h1 : b = p
    · subst h1; exact hp
    · by_cases h2 : b = q
      · subst h2; exact hq
      · rw [← h00 b h1 h2]; exact e
  refine ⟨x.pre, fun b u e => ?_, fun b u e hb => ?_, fun b h => ?_, fun b u e => ?_, fun b e => ?_⟩
  · have h1 : b ≠ p := fun z => by subst z; rw [fp] at e; cases e
    have h2 : b ≠ q := fun z => by subst z; rw [fq] at e; cases e
    rw [up h1 h2]
    exact x.ex b u e
  · have h1 : b ≠ p := fun z => by subst z; rw [hp] at e; cases e
    have h2 : b ≠ q := fun z => by subst z; rw [hq] at e; cases e
    rw [up h1 h2]
    exact x.keep b u (by rw [h00 b h1 h2]; exact e) hb
  · rcases x.newR b h with z | z
    · exact .inl z
    · exact .inr (hpq b z)
  · by_cases h1 : b = p
    · subst h1; exact .inr (.inl hp)
    · by_cases h2 : b = q
      · subst h2; exact .inr (.inl hq)
      · rw [up h1 h2] at e
        rcases x.newF b u e with z | z | z
        · exact .inl z
        · exact .inr (.inl (hpq b z))
        · exact .inr (.inr z)
  · by_cases h1 : b = p
    · subst h1; exact hp
    · by_cases h2 : b = q
      · subst h2; exact hq
      · rw [up h1 h2] at e
        exact hpq b (x.there b e)
end

/-! ### making -/
theorem Pm.of {P : Program} {w : World} {K : PySem.W.Frag} {mg : Str → Option Value} {base : Heap} {Z : CXT} {k : Nat} {f : Addr} {fd : FuncData} {ps : List Str} {sp : Sp} (F : FnOk P w K mg base Z k f fd ps sp) : Pm P w K mg base Z k f fd ps sp := ⟨F.len, fun A o s H ar us xs D E hr => F.run A o s H ar us xs D E hr.r⟩
theorem guards_make {A : Around} {C : Addr} {us : List Value} {kw : List (Str × Value)} (h : A.guards = some []) : (A.under (.builtin "type.__call__" ⟨.ref C :: us, kw⟩)).guards = some [] := by
  first
  | (simp [Around.under, Code.guards, Code.isGuard, pushGuards, h]; done)
  | (simp [Around.under, Code.guards, Code.isGuard, guardIds, pushGuards, h]; done)
theorem RoomG.make {k : Nat} {A : Around} (h : RoomG (k + 1) A) (C : Addr) (us : List Value) (kw : List (Str × Value)) : RoomG k (A.under (.builtin "type.__call__" ⟨.ref C :: us, kw⟩)) := ⟨h.r.make C us kw, guards_make h.g⟩
section
variable {X : Cx} {Z : CXT} {k : Nat} {f C : Addr} {fd : FuncData} {ps : List Str} {sp : Sp} {E : XK} {x : Str} {p pos : Pos} {e : Expr} {es : List Expr} {ta : TA}
/-- C(e, ..) -/
theorem pe_makeG (M : Mk X.K C f) (G : Pm X.prog X.w X.K X.mg X.base Z k f fd ps sp) (hr : RoomG (k + 1) X.A) (gl : Gl X x) (m : X.mg x = some (.ref C)) (b : Binds X.K fd ps []) (hx : Passes Z X E)
    (ar : PA X (e :: es) ta) (db : (x == ("__debug__" : Str)) = false := by decide) (st : starEach (e :: es) X.env = (false, eval e X.env) :: starEach es X.env := by rfl) (pl : (backTo pos (starEach es X.env)).any (·.1) = false := by rfl) :
    PE X (.Call (.Name x p) (e :: es) [] pos) (tMake C sp [] E ta) := by
  refine ⟨fun pins s0 σ H0 D I0 h0 => wpAny_Call_Name_kw (ld_glob I0 gl m ?_ db)⟩
  refine PySem.W.callWith_K (h₀ := X.base) I0.ok.mod.kin M.kp (thn (ar.run pos pins s0 σ H0 _ I0 h0) fun us s ⟨vs, H, I, r, h⟩ => ⟨I.kIn, ?_⟩) st pl
  have q := h (s.heap.objs.size + 1) s.heap.objs.size (I.hok.fresh (Nat.le_succ _)) (I.hok.fresh (Nat.le_refl _)) (Nat.ne_of_lt (Nat.lt_succ_self _))
  rw [List.append_nil] at q
  have J := Inv.made (C := C) I
  have rr : Vals (V.ref (s.heap.objs.size + 1) :: vs) (Value.ref (s.heap.objs.size + 1) :: us) := .cons rfl r
  have bt := b _ (Value.ref (s.heap.objs.size + 1) :: us) J.kIn (by rw [List.append_nil, ← rr.length]; exact G.ln _ _ _ _ q)
  rw [List.append_nil] at bt
  refine wpAny_call (make_map (f := f) I.kIn M.makes M.init (beq_iff_eq.mp M.fn) (codeAny_mono (G.go _ X.stack _ _ ⟨Value.ref (s.heap.objs.size + 1) :: us, []⟩ _ _ _ E (hr.make C us []) (J.env0.make C us []) bt rr q) fun z s' h2 => ?_))
  rcases z with er | fl
  · exact hx pins σ _ _ er s' J h2
  · cases fl with
    | brk => exact h2.elim
    | cont => exact h2.elim
    | next => exact h2.elim
    | ret u =>
      obtain ⟨v, H', J', rv, ev, q3⟩ := J.after h2
      subst ev
      exact ⟨rv, ⟨V.ref (s.heap.objs.size + 1), H', J', rfl, q3⟩⟩
end
/-- plain instances: __init__ keeps its parameters under these names -/
def spKeep (K : PySem.W.Frag) (C : Str) (fs : List Str) : Sp := fun vs H Q _ => ∃ x dx args, vs = V.ref x :: args ∧ args.length = fs.length ∧ H x = some (.ins (He.ga K C) dx []) ∧ Q .non (upd H x (.ins (He.ga K C) dx (fs.zip args)))
def dMake (C : Str) (fs : List Str) (a : DA) : DE := fun Γ μ => (a Γ μ).bind fun ds μ1 => if ds.length = fs.length then .ok (.ins C (fs.zip ds)) μ1 else .stk
theorem dnf_zip {K : PySem.W.Frag} {ρ : List Addr} {F : Hp} : ∀ {fs : List Str} {vs : List V} {ds : List D}, DnAll K ρ F vs ds → DnF K ρ F (fs.zip vs) (fs.zip ds)
  | [], _, _, _ => .nil
  | _ :: _, _, _, .nil => .nil
  | _ :: _, _, _, .cons h t => .cons h (dnf_zip t)
structure MkG (P : Program) (w : World) (K : PySem.W.Frag) (mg : Str → Option Value) (base : Heap) (C : Str) (k : Nat) (fs : List Str) : Prop where
  ex : ∃ f fd ps, Mk K (He.ga K C) f ∧ mg C = some (.ref (He.ga K C)) ∧ Binds K fd ps [] ∧ Pm P w K mg base (L2.CX P w) k f fd ps (spKeep K C fs)
theorem sim_make {K : PySem.W.Frag} {E : XK} {C : Str} {fs : List Str} {ta : TA} {da : DA} (ha : SimA K E ta da) : SimE K E (tMake (He.ga K C) (spKeep K C fs) [] E ta) (dMake C fs da) := by
  intro ρ F H Γ μ σ k s Q h
  refine ha ρ F H Γ μ σ k s _ ((WpR.bind h).mono (fun ds μ1 q => ?_) fun _ _ q => q)
  intro ρ1 F1 H1 vs n1 k1 r1
  split at q
  · rename_i hl
    intro x dx hx hdx hne
    rw [List.append_nil]
    have kb := k1.beside (o := .own x) (k1.fresh hdx) (k1.freshF hdx)
    have hx' : upd H1 dx (.own x) x = none := by rw [upd_ne (Ne.symm hne)]; exact hx
    refine ⟨x, dx, vs, rfl, by rw [r1.length]; exact hl, upd_same, rfl, ?_⟩
    have e : upd (upd (upd H1 dx (.own x)) x (.ins (He.ga K C) dx [])) x (.ins (He.ga K C) dx (fs.zip vs)) = upd (upd H1 dx (.own x)) x (.ins (He.ga K C) dx (fs.zip vs)) := upd_upd
    rw [e]
    have kn := kb.newF (o := .ins (He.ga K C) dx (fs.zip vs)) hx'
    have n0 : Nx ρ1 F1 H1 ρ1 F1 (upd H1 dx (.own x)) := by
      refine ⟨fun _ _ h => h, fun _ _ h => h, fun a u e2 _ => ?_, fun _ h => .inl h, fun _ _ h => .inl h, fun a e2 => ?_⟩
      · rw [upd_ne fun z => by subst z; rw [hdx] at e2; cases e2]; exact e2
      · by_cases h : a = dx
        · subst h; exact hdx
        · rw [upd_ne h] at e2; exact e2
    have nn := n0.trans (Nx.newF_ kb (o := .ins (He.ga K C) dx (fs.zip vs)) hx')
    refine q _ _ _ _ (n1.trans nn) kn (.ins upd_same (dnf_zip (r1.nx nn)))
  · exact q.elim
theorem q_make {X : Cx} {E : XK} {C : Str} {k : Nat} {fs : List Str} {p pos : Pos} {e : Expr} {es : List Expr} {da : DA} (G : MkG X.prog X.w X.K X.mg X.base C k fs) (hr : RoomG (k + 1) X.A) (hp : Passes (L2.CX X.prog X.w) X E) (ha : QA X E (e :: es) da) (hg : Gl X C := by rfl)
    (hdb : (C == ("__debug__" : Str)) = false := by decide) (he : starEach (e :: es) X.env = (false, eval e X.env) :: starEach es X.env := by rfl) (hpl : (backTo pos (starEach es X.env)).any (·.1) = false := by rfl) :
    QE X E (.Call (.Name C p) (e :: es) [] pos) (dMake C fs da) := by
  obtain ⟨f, fd, ps, h1, h2, h3, h4⟩ := G.ex
  obtain ⟨ta, a1, a2⟩ := ha.ex
  exact ⟨_, pe_makeG h1 h4 hr hg h2 h3 hp a1 hdb he hpl, sim_make a2⟩
/-! ### attributes -/
def fFld (C f : Str) : D → Option D
  | .ins C' fs => if C' = C then fs.lookup f else none
  | _ => none
def dFld (C f : Str) (e : DE) : DE := fun Γ μ => (e Γ μ).bind fun d μ1 => R.of μ1 (fFld C f d)
theorem dnf_get {K : PySem.W.Frag} {ρ : List Addr} {F : Hp} {f : Str} {d : D} : ∀ {vs : List (Str × V)} {ds : List (Str × D)}, DnF K ρ F vs ds → ds.lookup f = some d → ∃ v, vs.lookup f = some v ∧ Dn K ρ F v d
  | _, _, .nil, h => by cases h
  | _, _, .cons (f := g) (v := v) h t, e => by
    rw [List.lookup_cons] at e ⊢
    cases q : f == g with
    | true =>
      rw [q] at e
      cases e
      exact ⟨v, rfl, h⟩
    | false =>
      rw [q] at e
      exact dnf_get t e
structure FldK (K : PySem.W.Frag) (C f : Str) : Prop where
  c : Cls K (He.ga K C)
  n : NoAttr K (He.ga K C) f
theorem q_fld {X : Cx} {E : XK} {C f : Str} {e : Expr} {pos : Pos} {de : DE} (k : FldK X.K C f) (he : QE X E e de) (hb : attributeBase e f X.env (eval e X.env) = eval e X.env := by rfl) : QE X E (.Attribute e f pos) (dFld C f de) := by
  obtain ⟨te, a1, a2⟩ := he.ex
  refine ⟨_, pe_fld a1 hb, ?_⟩
  intro ρ F H Γ μ σ kk s Q h
  refine a2 ρ F H Γ μ σ kk s _ ((WpR.bind h).mono (fun d μ1 q => ?_) fun _ _ q => q)
  intro ρ1 F1 H1 v n1 k1 r1
  obtain ⟨z, ez, q9⟩ := WpR.of q
  unfold fFld at ez
  split at ez
  · rename_i C' fs
    split at ez
    · rename_i hC
      subst hC
      cases r1 with
      | @ins a dx _ vs _ h1 h2 =>
        obtain ⟨v', e1, r2⟩ := dnf_get h2 ez
        exact ⟨a, _, dx, vs, v', rfl, k1.ex _ _ h1, k.c, k.n, e1, q9 ρ1 F1 H1 v' n1 k1 r2⟩
    · cases ez
  · cases ez
/-! ### one slot -/
structure SltK (K : PySem.W.Frag) (C f : Str) (i : Nat) : Prop where
  ex : ∃ p, SlX.SCls K (He.ga K C) ∧ SlX.Slot1 K (He.ga K C) f p i
def fSlt (C : Str) (i : Nat) : D → Option D
  | .slt C' ds => if C' = C then ds[i]? else none
  | _ => none
def dSlt (C : Str) (i : Nat) (e : DE) : DE := fun Γ μ => (e Γ μ).bind fun d μ1 => R.of μ1 (fSlt C i d)
theorem q_slt {X : Cx} {E : XK} {C f : Str} {i : Nat} {e : Expr} {pos : Pos} {de : DE} (k : SltK X.K C f i) (he : QE X E e de) (hb : attributeBase e f X.env (eval e X.env) = eval e X.env := by rfl) : QE X E (.Attribute e f pos) (dSlt C i de) := by
  obtain ⟨te, a1, a2⟩ := he.ex
  obtain ⟨p, c, t⟩ := k.ex
  refine ⟨_, SlX.pe_sl a1 hb, ?_⟩
  intro ρ F H Γ μ σ kk s Q h
  refine a2 ρ F H Γ μ σ kk s _ ((WpR.bind h).mono (fun d μ1 q => ?_) fun _ _ q => q)
  intro ρ1 F1 H1 v n1 k1 r1
  obtain ⟨z, ez, q9⟩ := WpR.of q
  unfold fSlt at ez
  split at ez
  · rename_i C' ds
    split at ez
    · rename_i hC
      subst hC
      cases r1 with
      | @slt a dx _ vs _ h1 h2 h3 =>
        obtain ⟨v', e1, r2⟩ := h3.get ez
        refine ⟨a, _, dx, p, vs.map some, i, v', rfl, .inr ⟨k1.ex _ _ h1, k1.ex _ _ h2⟩, c, t, ?_, q9 ρ1 F1 H1 v' n1 k1 r2⟩
        rw [List.getElem?_map, e1]
        rfl
    · cases ez
  · cases ez
/-! ### isinstance(x, C), C a class with slots -/
structure IsiK (K : PySem.W.Frag) (C : Str) : Prop where
  s : SlX.SCls K (He.ga K C)
  i : SlX.SIsi K (He.ga K C)
  one : PySem.W.kitOne K (.ref (He.ga K C)) (.ref (He.ga K C)) = some true
def fIsaC (C : Str) : Mu → List D → Option D := fun _ ds => match ds with
  | [.slt C' _, .glo C2] => if C' = C ∧ C2 = C then some (.bl true) else none
  | _ => none
theorem cd_isaC {X : Cx} {C : Str} (k : IsiK X.K C) : CallD X (.builtin "isinstance") (fIsaC C) := by
  refine ⟨_, SlX.call_isiSl (.ref (He.ga X.K C)), fun ρ F H μ vs ds z kk rv ez Q q => ?_⟩
  unfold fIsaC at ez
  split at ez
  · rename_i C' ds C2
    split at ez
    · rename_i hC
      obtain ⟨rfl, rfl⟩ := hC
      cases ez
      cases rv with
      | cons r1 r2 =>
        cases r2 with
        | cons r2 r3 =>
          cases r3
          cases r2
          cases r1 with
          | @slt a dx _ vs _ h1 h2 h3 =>
            exact ⟨a, _, dx, vs.map some, _, true, rfl, rfl, fun w hw => hw, .inr ⟨kk.ex _ _ h1, kk.ex _ _ h2⟩, k.s, k.i, k.one, q ρ F H _ Nx.refl kk (.bl true)⟩
    · cases ez
  · cases ez
/-! ### an __init__ that keeps its parameters -/
def tKeep (K : PySem.W.Frag) : List Str → Nat → TS
  | [], _ => tNext
  | f :: fs, i => tSeq (sFld K (tVar 0) (tVar i) f) (tKeep K fs (i + 1))
theorem putF_new {f : Str} {v : V} : ∀ {l : List (Str × V)}, f ∉ l.map (·.1) → putF f v l = l ++ [(f, v)]
  | [], _ => rfl
  | (g, u) :: l, h => by
    have h1 : g ≠ f := fun z => h (by simp [z])
    have h2 : f ∉ l.map (·.1) := fun z => h (by simp only [List.map_cons, List.mem_cons]; exact .inr z)
    show (if g = f then (g, v) :: l else (g, u) :: putF f v l) = _
    rw [if_neg h1, putF_new h2]
    rfl
theorem upd_own {H : Hp} {a : Addr} {o : HO} (h : H a = some o) : upd H a o = H := by
  funext b
  by_cases hb : b = a
  · subst hb; rw [upd_same, h]
  · rw [upd_ne hb]
theorem keep_run {K : PySem.W.Frag} {C : Str} {x dx : Addr} {Q : VK} (c : Cls K (He.ga K C)) : ∀ (fs : List Str) (i : Nat) (args : List V) (l : List (Str × V)) (σ : L2.St) (H : Hp) (D : _), D.nx = (fun _ H' => Q .non H') → args.length = fs.length → (∀ f ∈ fs, NoAttr K (He.ga K C) f) → (l.map (·.1) ++ fs).Nodup → l.length + fs.length < 1000 →
    σ[0]? = some (some (.ref x)) → (∀ (j : Nat) v, args[j]? = some v → σ[i + j]? = some (some v)) → H x = some (.ins (He.ga K C) dx l) → Q .non (upd H x (.ins (He.ga K C) dx (l ++ fs.zip args))) → tKeep K fs i D σ H := by
  intro fs
  induction fs with
  | nil =>
    intro i args l σ H D hD hl hn nd hz h0 hj hx q
    rw [List.zip_nil_left, List.append_nil, upd_own hx] at q
    show D.nx σ H
    rw [hD]
    exact q
  | cons f fs ih =>
    intro i args l σ H D hD hl hn nd hz h0 hj hx q
    cases args with
    | nil => cases hl
    | cons v args =>
      have nf : f ∉ l.map (·.1) := fun z => by
        have := (List.nodup_append.mp nd).2.2 f z f (by simp)
        exact this rfl
      refine ⟨v, by have := hj 0 v rfl; exact this, .ref x, h0, x, He.ga K C, dx, l, rfl, hx, c, hn f (by simp), by omega, ?_⟩
      rw [putF_new nf]
      refine ih (i + 1) args (l ++ [(f, v)]) σ _ D hD (by simpa using hl) (fun g hg => hn g (by simp [hg])) ?_ (by simp at hz ⊢; omega) h0 (fun j w hw => ?_) upd_same ?_
      · simpa using nd
      · have := hj (j + 1) w (by simpa using hw)
        rw [show i + 1 + j = i + (j + 1) by omega]
        exact this
      · rw [upd_upd]
        simpa using q
theorem init_keep {P : Program} {w : World} {K : PySem.W.Frag} {mg : Str → Option Value} {base : Heap} {Z : CXT} {C y qual : Str} {params : Arguments} {body : List Stmt} {scope : Scope} {f : Addr} {fd : FuncData} {k : Nat} {fs : List Str} {self : Str}
    (F : FunD K y qual params body scope [] [] f fd) (S : FnScope (self :: fs) (self :: fs) scope) (c : Cls K (He.ga K C)) (hn : ∀ g ∈ fs, NoAttr K (He.ga K C) g) (nd : fs.Nodup) (hz : fs.length < 1000)
    (hb : ∀ (cdv : Value) (A : Around) (o : List Env) (s : Shared) (H : Hp) (E : XK), PSs (cxOf Z P w K mg base (self :: fs) qual scope f cdv A o s H E) body (tKeep K fs 1)) :
    Pm P w K mg base Z (k + 1) f fd (self :: fs) (spKeep K C fs) := by
  refine fn_ofG F S (fun xs H D E h => ?_) (fun cdv A o s H xs D E hr h => ⟨_, hb cdv A o s H E, ?_⟩)
  · obtain ⟨x, dx, args, rfl, hl, _⟩ := h
    simp [hl]
  · obtain ⟨x, dx, args, rfl, hl, hx, q⟩ := h
    refine keep_run (dx := dx) c fs 1 args [] _ H _ rfl hl hn (by simpa using nd) (by simpa using hz) ?_ (fun j v hj => ?_) hx q
    · unfold L2.start; simp
    · unfold L2.start
      rw [Nat.add_comm, List.getElem?_append_left (by have := (List.getElem?_eq_some_iff.mp hj).1; simp; omega)]
      simp [hj]
theorem pss_keep {X : Cx} {self f : Str} {fs : List Str} {i : Nat} {p1 p2 p3 p4 : Pos} {rest : List Stmt} (h0 : X.N[0]? = some self) (v0 : Vis X.env.scope self) (hi : X.N[i]? = some f) (vi : Vis X.env.scope f) (h : PSs X rest (tKeep X.K fs (i + 1)))
    (hs : swapsWith (.Name f p1) (some (.Attribute (.Name self p2) f p3)) p4.line X.env = pure false := by rfl) (d1 : (self == ("__debug__" : Str)) = false := by decide) (d2 : (self == ("__classdict__" : Str)) = false := by decide) (d3 : (f == ("__debug__" : Str)) = false := by decide) (d4 : (f == ("__classdict__" : Str)) = false := by decide) :
    PSs X (.Assign [.Attribute (.Name self p2) f p3] (.Name f p1) p4 :: rest) (tKeep X.K (f :: fs) i) := pss_cons (ps_fld (pe_var h0 v0 d1 d2) (pe_var hi vi d3 d4) hs) h
/-! ### a class with one slot, whose __init__ may refuse -/
def spSlot (K : PySem.W.Frag) (C : Str) (m : Fn) : Sp := fun vs H Q _ => ∃ x dx v d ρ F μ, vs = [V.ref x, v] ∧ H x = some (.ins (He.ga K C) dx []) ∧ HpOk K ρ μ F H ∧ Dn K ρ F v d ∧ x ∉ ρ ∧ F x = none ∧
  WpR (m [d] μ) (fun r μ2 => r = .non ∧ ∀ ρ2 F2 H2, Nx ρ F H ρ2 F2 H2 → HpOk K ρ2 μ2 F2 H2 → Q .non (SlX.slH H2 x (He.ga K C) dx [some v])) fun _ _ => False
theorem init_slot {P : Program} {w : World} {K : PySem.W.Frag} {mg : Str → Option Value} {base : Heap} {Z : CXT} {C y qual : Str} {params : Arguments} {body : List Stmt} {scope : Scope} {f : Addr} {fd : FuncData} {k : Nat} {g self b a : Str} {m : Fn}
    (F : FunD K y qual params body scope [] [] f fd) (S : FnScope [self, b, a] [self, b] scope) (sk : SltK K C g 0)
    (hb : ∀ (cdv : Value) (A : Around) (o : List Env) (s : Shared) (H : Hp) (E : XK), RoomG k (A.deeper (envOfC qual scope s.heap.objs.size f cdv)) → ∃ te tc, SimE K E te (dCall m (daCons (dVar 1) daNil)) ∧ SimT K E tc (dTest (dBin (fIs true) (dVar 2) (dC .non))) ∧
      PSs (cxOf Z P w K mg base [self, b, a] qual scope f cdv A o s H E) body (tSeq (tAsg te (gName 2)) (tSeq (tIfS tc tNever tNext) (SlX.sSl K (tVar 0) (tVar 1) g)))) :
    Pm P w K mg base Z (k + 1) f fd [self, b] (spSlot K C m) := by
  obtain ⟨p, sc, sl⟩ := sk.ex
  refine fn_ofG F S (fun xs H D E h => ?_) (fun cdv A o s H xs D E hr h => ?_)
  · obtain ⟨x, dx, v, d, ρ, F, μ, rfl, _⟩ := h
    rfl
  · obtain ⟨x, dx, v, d, ρ, F0, μ, rfl, hx, k0, rv, nx, fx, h⟩ := h
    obtain ⟨te, tc, s1, s2, pss⟩ := hb cdv A o s H E hr
    refine ⟨_, pss, ?_⟩
    have s0 : Slots K ρ F0 [none, some d, none] (L2.start [self, b, a] [V.ref x, v]) := by
      refine ⟨rfl, fun i e he => ?_⟩
      match i, he with
      | 0, he => cases he
      | 1, he => cases he; exact ⟨v, rfl, rv⟩
      | 2, he => cases he
      | n + 3, he => cases he
    refine s1 ρ F0 H _ μ _ k0 s0 _ (WpR.mono (show WpR (m [d] μ) _ _ from h) (fun r μ2 q => ?_) fun _ _ q => q.elim)
    obtain ⟨rfl, q⟩ := q
    intro ρ1 F1 H1 v1 n1 k1 r1
    cases r1
    have s3 : Slots K ρ1 F1 [none, some d, some .non] ((L2.start [self, b, a] [V.ref x, v]).set 2 (some V.non)) := (s0.nx n1).set (d := .non) .non 2
    refine s2 ρ1 F1 H1 [none, some d, some .non] μ2 _ k1 s3 _ (show WpR (R.ok false μ2) _ _ from ?_)
    intro ρ2 F2 H2 n2 k2
    have nn := n1.trans n2
    obtain ⟨_, _, h2⟩ := nn.outF hx nx fx
    refine ⟨v, rfl, .ref x, rfl, x, He.ga K C, dx, p, [], 0, rfl, .inl ⟨h2, rfl⟩, sc, sl, ?_⟩
    exact q ρ2 F2 H2 nn k2
structure MkS (P : Program) (w : World) (K : PySem.W.Frag) (mg : Str → Option Value) (base : Heap) (C : Str) (k : Nat) (m : Fn) : Prop where
  ex : ∃ f fd ps, Mk K (He.ga K C) f ∧ mg C = some (.ref (He.ga K C)) ∧ Binds K fd ps [] ∧ Pm P w K mg base (L2.CX P w) k f fd ps (spSlot K C m)
def dMakeS (C : Str) (m : Fn) (a : DA) : DE := fun Γ μ => (a Γ μ).bind fun ds μ1 => match ds with
  | [d] => (m [d] μ1).nox.bind fun r μ2 => match r with
    | .non => .ok (.slt C [d]) μ2
    | _ => .stk
  | _ => .stk
theorem sim_makeS {K : PySem.W.Frag} {E : XK} {C : Str} {m : Fn} {ta : TA} {da : DA} (ha : SimA K E ta da) : SimE K E (tMake (He.ga K C) (spSlot K C m) [] E ta) (dMakeS C m da) := by
  intro ρ F H Γ μ σ k s Q h
  refine ha ρ F H Γ μ σ k s _ ((WpR.bind h).mono (fun ds μ1 q => ?_) fun _ _ q => q)
  intro ρ1 F1 H1 vs n1 k1 r1
  split at q
  · rename_i d
    intro x dx hx hdx hne
    cases r1 with
    | cons r1 r2 =>
      cases r2
      rename_i v
      have kb := k1.beside (o := .own x) (k1.fresh hdx) (k1.freshF hdx)
      have kb2 := kb.beside (p := x) (o := .ins (He.ga K C) dx []) (k1.fresh hx) (k1.freshF hx)
      refine ⟨x, dx, v, d, ρ1, F1, μ1, rfl, upd_same, kb2, r1, k1.fresh hx, k1.freshF hx, ?_⟩
      have q := WpR.bind q
      refine (WpR.nox (X' := fun _ _ => False) q).mono (fun r μ2 q2 => ?_) fun _ _ q => q
      · split at q2
        · refine ⟨rfl, fun ρ2 F2 H2 n2 k2 => ⟨rfl, ?_⟩⟩
          have odx : upd (upd H1 dx (.own x)) x (.ins (He.ga K C) dx []) dx = some (.own x) := by rw [upd_ne hne, upd_same]
          obtain ⟨a1, a2, a3⟩ := n2.outF odx (k1.fresh hdx) (k1.freshF hdx)
          obtain ⟨b1, b2, b3⟩ := n2.outF upd_same (k1.fresh hx) (k1.freshF hx)
          have k3 := k2.both (o := .xd []) a1 a2
          have k4 := k3.both (p := x) (o := SlX.SlO x (He.ga K C) dx [some v]) b1 (by rw [upd_ne (Ne.symm hne)]; exact b2)
          have nn := Nx.around (vp := SlX.SlO x (He.ga K C) dx [some v]) (vq := .xd []) rfl hx hdx (k1.freshF hx) (k1.freshF hdx) n2
          refine q2 _ _ _ _ (n1.trans nn) k4 (.slt (dx := dx) (vs := [v]) upd_same (by rw [upd_ne hne, upd_same]) (.cons (r1.nx nn) .nil))
        · exact q2.elim
  · exact q.elim
theorem q_makeS {X : Cx} {E : XK} {C : Str} {k : Nat} {m : Fn} {p pos : Pos} {e : Expr} {es : List Expr} {da : DA} (G : MkS X.prog X.w X.K X.mg X.base C k m) (hr : RoomG (k + 1) X.A) (hp : Passes (L2.CX X.prog X.w) X E) (ha : QA X E (e :: es) da) (hg : Gl X C := by rfl)
    (hdb : (C == ("__debug__" : Str)) = false := by decide) (he : starEach (e :: es) X.env = (false, eval e X.env) :: starEach es X.env := by rfl) (hpl : (backTo pos (starEach es X.env)).any (·.1) = false := by rfl) :
    QE X E (.Call (.Name C p) (e :: es) [] pos) (dMakeS C m da) := by
  obtain ⟨f, fd, ps, h1, h2, h3, h4⟩ := G.ex
  obtain ⟨ta, a1, a2⟩ := ha.ex
  exact ⟨_, pe_makeG h1 h4 hr hg h2 h3 hp a1 hdb he hpl, sim_makeS a2⟩
end Ar

set_option Elab.async false
set_option linter.all false
set_option maxRecDepth 100000
set_option maxHeartbeats 2000000
/-! Ar19: classes at the head; chains -/
namespace Ar
open PySem PySem.Spec PyProof.Rows L2

def clsBody (s : Stmt) : List Stmt := match s with
  | .ClassDef _ _ _ b _ _ _ _ _ _ _ => b
  | _ => []
def clsAt (s : Stmt) (i : Nat) : Stmt := (clsBody s).getD i (.Pass ⟨0, 0, 0, 0⟩)
def sltB (K : PySem.W.Frag) (C f : Str) : Bool :=
  PySem.W.plainGet K (He.ga K C) Str.empty && (PySem.W.isClsIn K (He.ga K C) && (PySem.W.plainOver K (He.ga K C) && (He.eqO (PySem.W.findIn K (.ref (He.ga K C)) "__setattr__") (some (some (.builtin "object.__setattr__"))) &&
  (He.eqO (PySem.W.findIn K (.ref (He.ga K C)) f) (some (some (.ref (He.ma K (He.ga K C) f)))) && (He.eqO (PySem.W.specialIn K (.ref (He.ma K (He.ga K C) f)) "__get__") (some (some (.builtin "member_descriptor.__get__"))) &&
  (decide (PySem.W.takesIn K (.ref (He.ma K (He.ga K C) f)) = some true) && (decide (PySem.W.typeIn K (.ref (He.ma K (He.ga K C) f)) = some (.type "member_descriptor")) && decide (PySem.W.slotIn K (He.ma K (He.ga K C) f) (He.ga K C) = some 0))))))))
def isiB (K : PySem.W.Frag) (C : Str) : Bool :=
  He.eqO (PySem.W.findIn K (.ref (He.ga K C)) "__class__") (some (some (.builtin "object.__class__"))) && (He.eqO (PySem.W.specialIn K (.builtin "object.__class__") "__get__") (some (some (.builtin "getset_descriptor.__get__"))) &&
  (decide (PySem.W.takesIn K (.builtin "object.__class__") = some true) && (decide (PySem.W.mroIn K (He.ga K C) (.type "object") = some true) && decide (PySem.W.kitOne K (.ref (He.ga K C)) (.ref (He.ga K C)) = some true))))
theorem sltB_ok {K : PySem.W.Frag} {C f : Str} (h : sltB K C f = true) : SltK K C f 0 := by
  obtain ⟨c1, h⟩ := He.ba h
  obtain ⟨c2, h⟩ := He.ba h
  obtain ⟨c3, h⟩ := He.ba h
  obtain ⟨c4, h⟩ := He.ba h
  obtain ⟨c5, h⟩ := He.ba h
  obtain ⟨c6, h⟩ := He.ba h
  obtain ⟨c7, h⟩ := He.ba h
  obtain ⟨c8, c9⟩ := He.ba h
  exact ⟨_, ⟨c1, c2, c3, He.eqO_ok c4⟩, ⟨He.eqO_ok c5, He.eqO_ok c6, of_decide_eq_true c7, of_decide_eq_true c8, of_decide_eq_true c9, by decide⟩⟩
theorem isiB_ok {K : PySem.W.Frag} {C f : Str} (h : sltB K C f = true) (h2 : isiB K C = true) : IsiK K C := by
  obtain ⟨p, s, _⟩ := (sltB_ok h).ex
  obtain ⟨c1, h2⟩ := He.ba h2
  obtain ⟨c2, h2⟩ := He.ba h2
  obtain ⟨c3, h2⟩ := He.ba h2
  obtain ⟨c4, c5⟩ := He.ba h2
  exact ⟨s, ⟨He.eqO_ok c1, He.eqO_ok c2, of_decide_eq_true c3, of_decide_eq_true c4⟩, of_decide_eq_true c5⟩
theorem glo_cls {K : PySem.W.Frag} {h : Heap} {mg : Str → Option Value} {x : Str} (X : K.In h) (G : h.Ns mainGlobals mg) (c1 : (He.Fa.glo x).ok K = true) : GloC K mg x (.glo x) := ⟨.ref (He.ga K x), .ref (He.ga K x), He.glo_ok X G c1, rfl, fun _ _ => .glo x⟩
theorem mkG {P : Program} {w : World} {K : PySem.W.Frag} {mg : Str → Option Value} {base : Heap} {C y qual : Str} {params : Arguments} {body : List Stmt} {scope : Scope} {f : Addr} {fd : FuncData} {ps : List Str} {k : Nat} {fs : List Str} (F : FunD K y qual params body scope [] [] f fd) (M : Mk K (He.ga K C) f) (g : mg C = some (.ref (He.ga K C)))
    (hb : ∀ (kV doc pm : Value) (an : Option Addr) (cdv ct : Value) (us : List Value), us.length = ps.length → bindArgs (PySem.W.fnOf y qual params body scope Value.none kV doc pm an cdv ct) { pos := us } = pure (ps.zip us))
    (ok : Pm P w K mg base (L2.CX P w) k f fd ps (spKeep K C fs)) : MkG P w K mg base C k fs := ⟨f, fd, ps, M, g, F.bindsN hb, ok⟩
theorem mkS {P : Program} {w : World} {K : PySem.W.Frag} {mg : Str → Option Value} {base : Heap} {C y qual : Str} {params : Arguments} {body : List Stmt} {scope : Scope} {f : Addr} {fd : FuncData} {ps : List Str} {k : Nat} {m : Fn} (F : FunD K y qual params body scope [] [] f fd) (M : Mk K (He.ga K C) f) (g : mg C = some (.ref (He.ga K C)))
    (hb : ∀ (kV doc pm : Value) (an : Option Addr) (cdv ct : Value) (us : List Value), us.length = ps.length → bindArgs (PySem.W.fnOf y qual params body scope Value.none kV doc pm an cdv ct) { pos := us } = pure (ps.zip us))
    (ok : Pm P w K mg base (L2.CX P w) k f fd ps (spSlot K C m)) : MkS P w K mg base C k m := ⟨f, fd, ps, M, g, F.bindsN hb, ok⟩
end Ar

set_option Elab.async false
set_option linter.all false
set_option maxRecDepth 100000
set_option maxHeartbeats 2000000
/-! Ar20: a if t else b as a test; Ok rules of instances -/
namespace Ar
open PySem PySem.Spec PyProof.Rows L2

def dIfT (t x y : DT) : DT := fun Γ μ => (t Γ μ).bind fun c μ1 => match c with
  | true => x Γ μ1
  | false => y Γ μ1
def tIfT (t ta tb : TT) : TT := fun σ H Q => t σ H fun c H1 => if c = true then ta σ H1 Q else tb σ H1 Q
section
variable {X : Cx} {E : XK} {c a b : Expr} {t da db : DT} {pos : Pos}
theorem qt_if (hc : QT X E c t) (ha : QT X E a da) (hb : QT X E b db) : QT X E (.IfExp c a b pos) (dIfT t da db) := by
  obtain ⟨tc, c1, c2⟩ := hc.ex
  obtain ⟨ta, a1, a2⟩ := ha.ex
  obtain ⟨tb, b1, b2⟩ := hb.ex
  refine ⟨tIfT tc ta tb, ⟨fun pins s σ H Q I h => ?_⟩, ?_⟩
  · rw [arm_isTrue_IfExp]
    refine wpAny_bind (thn (c1.run pins s σ H _ I h) fun d s1 ⟨H1, I1, q1⟩ => ?_)
    cases d with
    | true => exact a1.run pins s1 σ H1 Q I1 q1
    | false => exact b1.run pins s1 σ H1 Q I1 q1
  · intro ρ F H Γ μ σ k s Q h
    refine c2 ρ F H Γ μ σ k s _ (h.bind.mono (fun x μ1 q => ?_) fun _ _ q => q)
    intro ρ1 F1 H1 n1 k1
    cases x with
    | true =>
      show ta σ H1 Q
      exact a2 ρ1 F1 H1 Γ μ1 σ k1 (s.nx n1) Q (WpR.mono q (fun b μ2 q2 ρ2 F2 H2 n2 k2 => q2 ρ2 F2 H2 (n1.trans n2) k2) fun _ _ q => XP.nx n1 q)
    | false =>
      show tb σ H1 Q
      exact b2 ρ1 F1 H1 Γ μ1 σ k1 (s.nx n1) Q (WpR.mono q (fun b μ2 q2 ρ2 F2 H2 n2 k2 => q2 ρ2 F2 H2 (n1.trans n2) k2) fun _ _ q => XP.nx n1 q)
end
/-! ### Ok rules -/
section
variable {Γ : Gam} {μ : Mu} {Q : D → Mu → Prop}
theorem ok_ifT [ExW] {t x y : DT} {QB : Bool → Mu → Prop} : Ok (dIfT t x y Γ μ) QB = Ok (t Γ μ) fun c μ1 => if c = true then Ok (x Γ μ1) QB else Ok (y Γ μ1) QB := by
  unfold dIfT; rw [ok_bind]; congr 1; funext c μ1; cases c <;> rfl
theorem ok_fld [ExW] {C f : Str} {e : DE} : Ok (dFld C f e Γ μ) Q = Ok (e Γ μ) fun d μ1 => OkO (fFld C f d) fun z => Q z μ1 := by
  unfold dFld; rw [ok_bind]; congr 1; funext d μ1; rw [ok_of]
theorem ok_slt [ExW] {C : Str} {i : Nat} {e : DE} : Ok (dSlt C i e Γ μ) Q = Ok (e Γ μ) fun d μ1 => OkO (fSlt C i d) fun z => Q z μ1 := by
  unfold dSlt; rw [ok_bind]; congr 1; funext d μ1; rw [ok_of]
theorem o_slt0 {C : Str} {d : D} {P : D → Prop} : OkO (fSlt C 0 (.slt C [d])) P = P d := by
  show OkO (if C = C then some d else none) P = _
  rw [if_pos rfl]; rfl
theorem o_fld0 {C f : Str} {d : D} {r : List (Str × D)} {P : D → Prop} : OkO (fFld C f (.ins C ((f, d) :: r))) P = P d := by
  simp only [fFld, if_true, List.lookup_cons, beq_self_eq_true]; rfl
theorem o_fld1 {C f g : Str} {d e : D} {r : List (Str × D)} {P : D → Prop} (h : (f == g) = false) : OkO (fFld C f (.ins C ((g, e) :: (f, d) :: r))) P = P d := by
  simp only [fFld, if_true, List.lookup_cons, h, List.lookup_cons, beq_self_eq_true]; rfl
theorem o_fld2 {C f g k : Str} {d e e2 : D} {r : List (Str × D)} {P : D → Prop} (h : (f == g) = false) (h2 : (f == k) = false) : OkO (fFld C f (.ins C ((g, e) :: (k, e2) :: (f, d) :: r))) P = P d := by
  simp only [fFld, if_true, List.lookup_cons, h, List.lookup_cons, h2, List.lookup_cons, beq_self_eq_true]; rfl
theorem ok_make [ExW] {C : Str} {fs : List Str} {a : DA} : Ok (dMake C fs a Γ μ) Q = Ok (a Γ μ) fun ds μ1 => ds.length = fs.length ∧ Q (.ins C (fs.zip ds)) μ1 := by
  unfold dMake
  rw [ok_bind]
  congr 1
  funext ds μ1
  by_cases h : ds.length = fs.length
  · rw [if_pos h]; exact propext ⟨fun z => ⟨h, z⟩, fun z => z.2⟩
  · rw [if_neg h]; exact propext ⟨fun z => False.elim z, fun z => h z.1⟩
theorem ok_makeS [ExW] {C : Str} {m : Fn} {e : DE} : Ok (dMakeS C m (daCons e daNil) Γ μ) Q = Ok (e Γ μ) fun d μ1 => @Ok xp0 D (m [d] μ1) fun r μ2 => r = .non ∧ Q (.slt C [d]) μ2 := by
  unfold dMakeS
  rw [ok_bind, ok_cons]
  congr 1
  funext d μ1
  rw [ok_nil]
  show Ok (((m [d] μ1).nox).bind _) Q = _
  rw [ok_bind, ok_nox]
  congr 1
  funext r μ2
  cases r <;> first | exact propext ⟨fun z => ⟨rfl, z⟩, fun z => z.2⟩ | exact propext ⟨fun z => False.elim z, fun z => nomatch z.1⟩
theorem o_isaC {μ : Mu} {C : Str} {ds : List D} {P : D → Prop} : OkO (fIsaC C μ [.slt C ds, .glo C]) P = P (.bl true) := by
  simp only [fIsaC, and_self, if_true]; rfl
theorem o_isn_ins {μ : Mu} {C : Str} {ds} {P : D → Prop} : OkO (fIs true μ (.ins C ds) .non) P = P (.bl true) := id rfl
theorem o_is_ins {μ : Mu} {C : Str} {ds} {P : D → Prop} : OkO (fIs false μ (.ins C ds) .non) P = P (.bl false) := id rfl
end
end Ar

set_option Elab.async false
set_option linter.all false
set_option maxRecDepth 100000
set_option maxHeartbeats 2000000
/-! Ar21: zip of a tuple and a list -/
namespace Ar
open PySem PySem.Spec PyProof.Rows L2

def ItzM (K : PySem.W.Frag) (a b : Addr) : It :=
  ⟨fun i H => ∃ (xs ys : List V) (x y : V), SqT K H a xs ∧ SqL K H b ys ∧ xs[i]? = some x ∧ ys[i]? = some y,
    fun i H v H' => ∃ T x y, v = .ref T ∧ H T = none ∧ H' = upd H T (.tup [x, y]) ∧ (∀ xs, SqT K H a xs → xs[i]? = some x) ∧ ∀ ys, SqL K H b ys → ys[i]? = some y,
    fun i H => ∃ xs ys : List V, SqT K H a xs ∧ SqL K H b ys ∧ i ≤ xs.length ∧ i ≤ ys.length ∧ (i = xs.length ∨ i = ys.length)⟩
def StM (z TI TO i1 i2 a b : Addr) (i : Nat) (h : Heap) : Prop := IsZip h z TI TO .none ∧ IsTupOf2 h TI (.ref i1) (.ref i2) ∧ (∃ x y, IsTupOf2 h TO x y) ∧ h.IsTupleIter i1 a i ∧ h.IsListIter i2 b i
theorem turnM {P : Program} {w : World} {K : PySem.W.Frag} {elts : List Expr} {kk : Nat} {tpos : Pos} {a b z TI TO i1 i2 : Addr} (S : ZipSep2 z TI TO i1 i2 [i1, a] [i2, b]) (na : a ≠ i1) (nb : b ≠ i2) : Turn P w K (.Tuple elts kk tpos) (ItzM K a b) [z, TI, TO, i1, i2] z (StM z TI TO i1 i2 a b) := by
  have five : ∀ {c : Addr}, c ∈ [z, TI, TO, i1, i2] → c = z ∨ c = TI ∨ c = TO ∨ c = i1 ∨ c = i2 := fun h => by simpa using h
  refine ⟨by simp, ?_, ?_, ?_, ?_, fun A i s Q E t h => wpAny_pyIter_zip t.1 h⟩
  · rintro i h ⟨g1, g2, ⟨x, y, g3⟩, ⟨p, p1, _, p2⟩, ⟨q, q1, _, q2⟩⟩ c hc
    rcases five hc with rfl | rfl | rfl | rfl | rfl
    · exact ⟨_, g1, fun v u => nomatch u⟩
    · exact ⟨_, g2, fun v u => nomatch u⟩
    · exact ⟨_, g3, fun v u => nomatch u⟩
    · exact ⟨p, p1, fun v u => by rw [p2] at u; cases u⟩
    · exact ⟨q, q1, fun v u => by rw [q2] at u; cases u⟩
  · rintro i h h' ⟨g1, g2, ⟨x, y, g3⟩, g4, g5⟩ k
    have kk : ∀ c o, c ∈ [z, TI, TO, i1, i2] → h.get? c = some o → h'.get? c = some o := fun c o m e => k c m o e
    exact ⟨kk z _ (by simp) g1, kk TI _ (by simp) g2, ⟨x, y, kk TO _ (by simp) g3⟩, g4.at fun o e => kk i1 o (by simp) e, g5.at fun o e => kk i2 o (by simp) e⟩
  · intro X eP ew eK hc i pins s σ H E I ap t g
    subst eP ew eK
    obtain ⟨g1, g2, ⟨u0, v0, g3⟩, g4, g5⟩ := t
    obtain ⟨xs, ys, x, y, tx, ly, ex, ey⟩ := g
    obtain ⟨ts, rt, pt, _⟩ := I.tuple tx
    obtain ⟨ls, rl, pl, _⟩ := I.list ly
    obtain ⟨u, eu, ru⟩ := rt.get ex
    obtain ⟨v, ev, rv⟩ := rl.get ey
    have hd : X.A.in1.handled = none := I.ok.hd hc
    have lz : z < s.heap.objs.size := Heap.lt_size g1
    have i1n : i < ts.toArray.size := by simpa using (List.getElem?_eq_some_iff.mp eu).1
    have i2n : i < ls.toArray.size := by simpa using (List.getElem?_eq_some_iff.mp ev).1
    refine wpAny_pyNext_zipD2_item S (Draws.tuple hd i1 a na ts.toArray) (Draws.list hd i2 b nb ls.toArray) g1 g2 g3 ⟨g4, pt⟩ ⟨g5, pl.isList⟩ i1n i2n fun w1 w2 h' tk q1 q2 b1 b2 d1 d2 b5 b6 b7 => ?_
    have e1 : w1 = u := by
      have q1 : ts.toArray[i]? = some w1 := q1
      rw [List.getElem?_toArray, eu] at q1
      exact (Option.some.inj q1).symm
    have e2 : w2 = v := by
      have q2 : ls.toArray[i]? = some w2 := q2
      rw [List.getElem?_toArray, ev] at q2
      exact (Option.some.inj q2).symm
    subst e1 e2
    refine ⟨_, rfl, wpAny_letOwnedTupleGo_zip (s := { s with heap := h', toks := tk }) b1 fun h2 z2 sb => ?_⟩
    have tup : h2.get? s.heap.objs.size = some { cls := .type "tuple", data := .seq #[w1, w2] } := (sb.2 _ (Nat.ne_of_gt lz)).trans b5
    have nw : ObjOk X.prog X.w (upd H s.heap.objs.size (.tup [x, y])) h2 s.heap.objs.size (.tup [x, y]) := ⟨by show 2 ≤ sizeLine; decide, [w1, w2], .cons ru (.cons rv .nil), ⟨_, tup, rfl, _, rfl⟩⟩
    have old : ∀ c o, c ∉ [z, TI, TO, i1, i2] → s.heap.get? c = some o → h2.get? c = some o := fun c o n e =>
      (sb.2 c fun q => n (by simp [q])).trans (b7 c o (fun q => n (by simp [q])) (fun q => n (by simp [q])) (fun q => n (by simp [q])) (fun q => n (by simp [q])) e)
    have J := I.turnedNew (t' := tk) (ch := [z, TI, TO, i1, i2]) old ap (Nat.le_refl _) nw
    refine ⟨.ref s.heap.objs.size, _, J, rfl, ⟨_, x, y, rfl, I.hok.fresh (Nat.le_refl _), rfl, fun l m => ?_, fun l m => ?_⟩, ⟨z2, ?_, ⟨w1, w2, ?_⟩, ?_, ?_⟩, fun c m => ?_⟩
    · rw [I.tuple_inj m tx]; exact ex
    · rw [I.list_inj m ly]; exact ey
    · exact (sb.2 TI S.TIz).trans (b7 TI _ S.TIz S.TITO S.TIi1 S.TIi2 g2)
    · exact (sb.2 TO S.TOz).trans b2
    · exact d1.1.at fun o q => (sb.2 i1 (Ne.symm S.zi1)).trans q
    · exact d2.1.at fun o q => (sb.2 i2 (Ne.symm S.zi2)).trans q
    · have lt : c < s.heap.objs.size := by
        rcases five m with rfl | rfl | rfl | rfl | rfl
        · exact lz
        · exact Heap.lt_size g2
        · exact Heap.lt_size g3
        · obtain ⟨_, q, _⟩ := g4; exact Heap.lt_size q
        · obtain ⟨_, q, _⟩ := g5; exact Heap.lt_size q
      rw [upd_ne (Nat.ne_of_lt lt)]
      exact (ap c m).1
  · intro X eP ew eK hc i pins s σ H E I ap t g
    subst eP ew eK
    obtain ⟨g1, g2, ⟨u0, v0, g3⟩, g4, g5⟩ := t
    obtain ⟨xs, ys, tx, ly, l1, l2, en⟩ := g
    obtain ⟨ts, rt, pt, _⟩ := I.tuple tx
    obtain ⟨ls, rl, pl, _⟩ := I.list ly
    have z1 := rt.length
    have z2 := rl.length
    have hd : X.A.in1.handled = none := I.ok.hd hc
    refine wpAny_pyNext_zipD2_end S (Draws.tuple hd i1 a na ts.toArray) (Draws.list hd i2 b nb ls.toArray) g1 g2 g3 ⟨g4, pt⟩ ⟨g5, pl.isList⟩ (by simp; omega) (by simp; omega) (by simp; omega) fun h' tk b7 => ?_
    exact ⟨rfl, I.turnedL (t' := tk) (ch := [z, TI, TO, i1, i2]) (fun c o n e => b7 c o (fun q => n (by simp [q])) (fun q => n (by simp [q])) (fun q => n (by simp [q])) (fun q => n (by simp [q])) e) ap⟩
def iZipM (K : PySem.W.Frag) (ta : TA) : TI := fun σ H R => ta σ H fun vs H1 => ∃ a b xs ys, vs = [.ref a, .ref b] ∧ SqT K H1 a xs ∧ SqL K H1 b ys ∧ R (ItzM K a b) H1
theorem pi_zipM {X : Cx} {e e2 : Expr} {ta : TA} {p pos tpos : Pos} {elts : List Expr} {kk : Nat} (hg : Gl X "zip") (hm : X.mg "zip" = none) (ha : PA X [e, e2] ta)
    (st : starEach [e, e2] X.env = (false, eval e X.env) :: starEach [e2] X.env := by rfl) (pl : (backTo pos (starEach [e2] X.env)).any (·.1) = false := by rfl) :
    PI X (.Tuple elts kk tpos) (.Call (.Name "zip" p) [e, e2] [] pos) (iZipM X.K ta) := by
  refine ⟨fun pins s0 σ H0 R I0 h => Call_ (ld_blt I0 hg hm PyProof.Rows.boot_zip (PyProof.Rows.callWith_type1 (thn (ha.run pos pins s0 σ H0 _ I0 h) fun us s ⟨vs, H, I, r, q⟩ => ?_) st pl))⟩
  obtain ⟨a, b, xs, ys, rfl, tx, ly, q⟩ := q
  obtain ⟨u1, u2, rfl, r1, r2⟩ := r.two
  cases (show u1 = Value.ref a from r1)
  cases (show u2 = Value.ref b from r2)
  obtain ⟨ts, rt, pt, _⟩ := I.tuple tx
  obtain ⟨ls, rl, plx, _⟩ := I.list ly
  obtain ⟨oa, ha, _⟩ := id pt
  have la : a < s.heap.objs.size := Heap.lt_size ha
  have lb : b < s.heap.objs.size := plx.lt
  refine zip_begins2 (begins_tuple a ts.toArray) (begins_list b ls.toArray) pt plx.isList fun h' b1 b2 b3 b4 b5 b6 b7 => wpAny_pyIter_zip b1 ?_
  have J : Inv X pins σ H { s with heap := h' } := I.kept (t' := s.toks) b7
  refine ⟨s.heap.objs.size + 4, [s.heap.objs.size + 4, s.heap.objs.size + 2, s.heap.objs.size + 3, s.heap.objs.size, s.heap.objs.size + 1], _, _, H, rfl, J,
    turnM (zip_sep2 (fp1 := [a]) (fp2 := [b]) (fun c m => by rw [List.mem_singleton.mp m]; exact la) fun c m => by rw [List.mem_singleton.mp m]; exact lb) (Nat.ne_of_lt la) (Nat.ne_of_lt (Nat.lt_succ_of_lt lb)),
    ⟨b1, b2, ⟨_, _, b3⟩, ⟨_, b4, rfl, rfl⟩, ⟨_, b5, rfl, rfl⟩⟩, fun c m => ?_, q⟩
  have le : s.heap.objs.size ≤ c := by
    simp only [List.mem_cons, List.not_mem_nil, or_false] at m
    rcases m with rfl | rfl | rfl | rfl | rfl <;> first | exact Nat.le_add_right _ _ | exact Nat.le_refl _
  exact I.fpOk le (I.hok.fresh le)
/-! ### in data -/
def diZipM (a : DA) : DA := fun Γ μ => (a Γ μ).bind fun xs μ1 => match xs with
  | [.tup ds, y] => (seqIL y μ1).bind fun es μ3 => .ok (zipD ds es) μ3
  | _ => .stk
theorem itok_zipM {K : PySem.W.Frag} {ρ : List Addr} {F : Hp} {a b : Addr} {vs ws : List V} {ds es : List D} (h : SqT K F a vs) (r : DnAll K ρ F vs ds) (h' : SqL K F b ws) (r' : DnAll K ρ F ws es) : ItOk K ρ F (ItzM K a b) (zipD ds es) := by
  have n1 := r.length
  have n2 := r'.length
  refine ⟨fun i H s hi => ?_, fun i H s hi => ?_, fun i ρ2 F2 H2 μ2 x H3 s p k y hi => ?_⟩
  · rw [zipD_len] at hi
    exact ⟨vs, ws, vs[i]'(by omega), ws[i]'(by omega), s.sqT h, s.sqL h', List.getElem?_eq_getElem _, List.getElem?_eq_getElem _⟩
  · rw [zipD_len] at hi
    exact ⟨vs, ws, s.sqT h, s.sqL h', by omega, by omega, by omega⟩
  · obtain ⟨T, z, z', rfl, hT, rfl, y, y'⟩ := y
    obtain ⟨d, hd, rd⟩ := r.getV (y vs (k.ex.sqT (s.sqT h)))
    obtain ⟨d', hd', rd'⟩ := r'.getV (y' ws (k.ex.sqL (s.sqL h')))
    obtain ⟨m2, k2, r2⟩ := new_tup (vs := [z, z']) (ds := [d, d']) k (.cons (rd.mono p s) (.cons (rd'.mono p s) .nil)) hT
    exact ⟨_, _, zipD_get ds es i d d' hd hd', m2, k2, r2⟩
theorem qi_zipM {X : Cx} {E : XK} {e e2 : Expr} {da : DA} {elts : List Expr} {kk : Nat} {tpos p pos : Pos} (hm : X.mg "zip" = none) (ha : QA X E [e, e2] da) (hg : Gl X "zip" := by rfl)
    (st : starEach [e, e2] X.env = (false, eval e X.env) :: starEach [e2] X.env := by rfl) (pl : (backTo pos (starEach [e2] X.env)).any (·.1) = false := by rfl) :
    QI X E (.Tuple elts kk tpos) (.Call (.Name "zip" p) [e, e2] [] pos) (diZipM da) := by
  obtain ⟨ta, a1, a2⟩ := ha.ex
  refine ⟨_, pi_zipM hg hm a1 st pl, ?_⟩
  intro ρ F H Γ μ σ k s Rr h
  refine a2 ρ F H Γ μ σ k s _ ((WpR.bind h).mono (fun xs μ1 q => ?_) fun _ _ q => q)
  intro ρ1 F1 H1 vs n1 k1 r1
  split at q
  · rename_i ds y
    cases r1 with
    | cons r1 r2 =>
      cases r2 with
      | cons r2 r3 =>
        cases r3
        cases r1 with
        | @tup a xs _ h1 h2 =>
          cases hs : seqIL y μ1 with
          | stk => rw [hs] at q; exact q.elim
          | exc _ _ => unfold seqIL at hs; split at hs <;> first | (cases hs; done) | (split at hs <;> cases hs)
          | ok es μ2 =>
            rw [hs] at q
            obtain ⟨b, ws, F2, rfl, k2, n2, g1, g2⟩ := seqIL_ok k1 r2 hs
            exact ⟨a, b, xs, ws, rfl, k2.ex.sqT (n2.ex.sqT h1), k2.ex.sqL g1, q ρ1 F2 H1 _ (n1.trans n2) k2 (itok_zipM (n2.ex.sqT h1) (h2.nx n2) g1 g2)⟩
  · exact q.elim
/-- zip of two lists, of two tuples, of a tuple and a list -/
def mixed : List D → Bool
  | [.tup _, .tup _] => false
  | [.tup _, _] => true
  | _ => false
def diZipX (a : DA) : DA := fun Γ μ => match a Γ μ with
  | .ok xs _ => if mixed xs = true then diZipM a Γ μ else diZip a Γ μ
  | _ => diZip a Γ μ
theorem qi_zipX {X : Cx} {E : XK} {e e2 : Expr} {da : DA} {elts : List Expr} {kk : Nat} {tpos p pos : Pos} (hm : X.mg "zip" = none) (ha : QA X E [e, e2] da) (hg : Gl X "zip" := by rfl)
    (st : starEach [e, e2] X.env = (false, eval e X.env) :: starEach [e2] X.env := by rfl) (pl : (backTo pos (starEach [e2] X.env)).any (·.1) = false := by rfl) :
    QI X E (.Tuple elts kk tpos) (.Call (.Name "zip" p) [e, e2] [] pos) (diZipX da) := by
  obtain ⟨w1, a1, a2⟩ := (qi_zip (elts := elts) (kk := kk) (tpos := tpos) (p := p) (pos := pos) hm ha hg st pl).ex
  obtain ⟨w2, b1, b2⟩ := (qi_zipM (elts := elts) (kk := kk) (tpos := tpos) (p := p) (pos := pos) hm ha hg st pl).ex
  refine ⟨_, PI.or a1 b1, ?_⟩
  intro ρ F H Γ μ σ k s Rr h
  unfold diZipX at h
  split at h
  · split at h
    · exact .inr (b2 ρ F H Γ μ σ k s Rr h)
    · exact .inl (a2 ρ F H Γ μ σ k s Rr h)
  · exact .inl (a2 ρ F H Γ μ σ k s Rr h)
section
variable {Γ : Gam} {μ : Mu} {QL : List D → Mu → Prop}
theorem ok_zip_ll [ExW] {a : DA} {xs ys : List D} (h : a Γ μ = .ok [.lst xs, .lst ys] μ) : Ok (diZipX a Γ μ) QL = QL (zipD xs ys) μ := by
  unfold diZipX
  rw [h]
  simp only [mixed, Bool.false_eq_true, if_false]
  unfold diZip
  rw [h]
  rfl
theorem ok_zipX {a : DA} {P : List D → Mu → Prop} (h : Ok (a Γ μ) fun xs μ1 => (∃ ds es, (xs = [.lst ds, .lst es] ∨ xs = [.tup ds, .lst es] ∨ xs = [.tup ds, .tup es]) ∧ QL (zipD ds es) μ1)) : Ok (diZipX a Γ μ) QL := by
  cases hr : a Γ μ with
  | stk => rw [hr] at h; exact h.elim
  | exc _ _ => rw [hr] at h; exact h.elim
  | ok xs μ1 =>
    rw [hr] at h
    obtain ⟨ds, es, hx, q⟩ := h
    unfold diZipX
    rw [hr]
    rcases hx with rfl | rfl | rfl
    · simp only [mixed, Bool.false_eq_true, if_false]
      unfold diZip
      rw [hr]
      exact q
    · simp only [mixed, if_true]
      unfold diZipM
      rw [hr]
      exact q
    · simp only [mixed, Bool.false_eq_true, if_false]
      unfold diZip
      rw [hr]
      exact q
end
end Ar

set_option Elab.async false
set_option linter.all false
set_option maxRecDepth 100000
set_option maxHeartbeats 2000000
/-! Ar22: Ok rules of zip, of fields -/
namespace Ar
open PySem PySem.Spec PyProof.Rows L2

def zipR (x y : D) (μ : Mu) : R (List D) := match x, y with
  | .tup ds, .tup es => .ok (zipD ds es) μ
  | .tup ds, y => (seqIL y μ).bind fun es μ3 => .ok (zipD ds es) μ3
  | x, y => (seqIL x μ).bind fun ds μ2 => (seqIL y μ2).bind fun es μ3 => .ok (zipD ds es) μ3
section
variable {Γ : Gam} {μ : Mu} {QL : List D → Mu → Prop}
theorem ok_izip [ExW] {e1 e2 : DE} : Ok (diZipX (daCons e1 (daCons e2 daNil)) Γ μ) QL = Ok (e1 Γ μ) fun x μ1 => Ok (e2 Γ μ1) fun y μ2 => Ok (zipR x y μ2) QL := by
  unfold diZipX
  cases h1 : e1 Γ μ with
  | stk => simp only [daCons, h1, R.bind]; unfold diZip; simp only [daCons, h1, R.bind]; rfl
  | exc _ _ => simp only [daCons, h1, R.bind]; unfold diZip; simp only [daCons, h1, R.bind]; rfl
  | ok x μ1 =>
    cases h2 : e2 Γ μ1 with
    | stk => simp only [daCons, h1, h2, R.bind]; unfold diZip; simp only [daCons, h1, h2, R.bind]; show _ = Ok (e2 Γ μ1) _; rw [h2]; rfl
    | exc _ _ => simp only [daCons, h1, h2, R.bind]; unfold diZip; simp only [daCons, h1, h2, R.bind]; show _ = Ok (e2 Γ μ1) _; rw [h2]; rfl
    | ok y μ2 =>
      have e : (daCons e1 (daCons e2 daNil)) Γ μ = .ok [x, y] μ2 := by simp only [daCons, daNil, h1, h2, R.bind]
      rw [e]
      show Ok (if mixed [x, y] = true then diZipM (daCons e1 (daCons e2 daNil)) Γ μ else diZip (daCons e1 (daCons e2 daNil)) Γ μ) QL = (Ok (e2 Γ μ1) fun y μ2 => Ok (zipR x y μ2) QL)
      rw [h2]
      show _ = Ok (zipR x y μ2) QL
      unfold diZipM diZip
      rw [e]
      cases x <;> cases y <;> rfl
theorem zipR_ll [ExW] {xs ys : List D} : Ok (zipR (.lst xs) (.lst ys) μ) QL = QL (zipD xs ys) μ := rfl
theorem zipR_tl [ExW] {xs ys : List D} : Ok (zipR (.tup xs) (.lst ys) μ) QL = QL (zipD xs ys) μ := rfl
theorem zipR_tt [ExW] {xs ys : List D} : Ok (zipR (.tup xs) (.tup ys) μ) QL = QL (zipD xs ys) μ := rfl
end
section
variable {a b c : D} {P : D → Prop}
theorem o_parts : OkO (fFld "Row" "parts" (.ins "Row" [("parts", a), ("shares", b)])) P = P a := rfl
theorem o_shares : OkO (fFld "Row" "shares" (.ins "Row" [("parts", a), ("shares", b)])) P = P b := rfl
theorem o_east : OkO (fFld "Shape" "east" (.ins "Shape" [("east", a), ("north", b), ("rests", c)])) P = P a := rfl
theorem o_north : OkO (fFld "Shape" "north" (.ins "Shape" [("east", a), ("north", b), ("rests", c)])) P = P b := rfl
theorem o_rests : OkO (fFld "Shape" "rests" (.ins "Shape" [("east", a), ("north", b), ("rests", c)])) P = P c := rfl
end
theorem zip3 {a b c : D} : List.zip ([("east" : Str), ("north" : Str), ("rests" : Str)]) [a, b, c] = [(("east" : Str), a), ("north", b), ("rests", c)] := rfl
theorem zip2 {a b : D} : List.zip ([("parts" : Str), ("shares" : Str)]) [a, b] = [(("parts" : Str), a), ("shares", b)] := rfl
theorem ok_extend [ExW] {Γ : Gam} {μ : Mu} {Q : D → Mu → Prop} {o e : DE} : Ok (dExtend o e Γ μ) Q = Ok (o Γ μ) fun x μ1 => OkO (placeL μ1 x) fun _ => Ok (e Γ μ1) fun d μ2 => OkO (placeL μ2 x) fun p => OkO (seqL μ2 d) fun es => p.2.length + es.length ≤ 1000000 ∧ Q .non (μ2.set p.1 (.lst (p.2 ++ es))) := by
  unfold dExtend; rw [ok_bind]; congr 1; funext x μ1
  cases placeL μ1 x with
  | none => rfl
  | some p =>
    simp only [ok_bind, oko_some]
    congr 1; funext d μ2
    cases placeL μ2 x with
    | none => rfl
    | some p =>
      cases seqL μ2 d with
      | none => rfl
      | some es =>
        simp only [oko_some]
        by_cases h : p.2.length + es.length ≤ 1000000
        · rw [if_pos h]; exact propext ⟨fun z => ⟨h, z⟩, fun z => z.2⟩
        · rw [if_neg h]; exact propext ⟨fun z => False.elim z, fun z => h z.1⟩
theorem seqL_lst {μ : Mu} {ds : List D} {P : List D → Prop} : OkO (seqL μ (.lst ds)) P = P ds := rfl
end Ar

set_option Elab.async false
set_option linter.all false
set_option maxRecDepth 100000
set_option maxHeartbeats 2000000
/-! Ar24: starred items; xs[::-1] of lists; chains of two comparisons -/
namespace Ar
open PySem PySem.Spec PyProof.Rows L2

def daStar (e : DE) (r : DA) : DA := fun Γ μ => (e Γ μ).bind fun x μ1 => match seqA μ1 x with
  | some xs => (r Γ μ1).bind fun ys μ2 => .ok (xs ++ ys) μ2
  | none => .stk
section
variable {X : Cx} {E : XK} {e : Expr} {es : List Expr} {de : DE} {da : DA} {p : Pos}
theorem qa_star (ha : QE X E e de) (hr : QA X E es da) (hs : starEach (.Starred e p :: es) X.env = (true, eval e X.env) :: starEach es X.env := by rfl) : QA X E (.Starred e p :: es) (daStar de da) := by
  obtain ⟨te, a1, a2⟩ := ha.ex
  obtain ⟨ta, b1, b2⟩ := hr.ex
  refine ⟨_, StX.pa_star a1 b1 hs, ?_⟩
  intro ρ F H Γ μ σ k s Q h
  refine a2 ρ F H Γ μ σ k s _ ((WpR.bind h).mono (fun x μ1 q => ?_) fun _ _ q => q)
  intro ρ1 F1 H1 v n1 k1 r1
  cases hx : seqA μ1 x with
  | none => rw [hx] at q; exact q.elim
  | some xs =>
    rw [hx] at q
    obtain ⟨a, vs, rfl, hq, rv⟩ := seqA_ok k1 r1 hx
    refine ⟨a, vs, rfl, hq.symm, ?_⟩
    refine b2 ρ1 F1 H1 Γ μ1 σ k1 (s.nx n1) _ ((WpR.bind q).mono (fun ys μ2 q => ?_) fun _ _ q => XP.nx n1 q)
    intro ρ2 F2 H2 ws n2 k2 r2
    exact q ρ2 F2 H2 _ (n1.trans n2) k2 ((rv.nx n2).append r2)
end
theorem PE.or {X : Cx} {e : Expr} {t1 t2 : TE} (h1 : PE X e t1) (h2 : PE X e t2) : PE X e (fun σ H Q => t1 σ H Q ∨ t2 σ H Q) := ⟨fun pins s σ H Q I h => h.elim (h1.run pins s σ H Q I) (h2.run pins s σ H Q I)⟩
/-- xs[::-1]: of a text, of a list that does not change -/
def dRevL (e : DE) : DE := fun Γ μ => (e Γ μ).bind fun x μ1 => match x with
  | .lst ds => .ok (.lst ds.reverse) μ1
  | _ => .stk
theorem dn_rev {K : PySem.W.Frag} {ρ : List Addr} {F : Hp} : ∀ {vs : List V} {ds : List D}, DnAll K ρ F vs ds → DnAll K ρ F vs.reverse ds.reverse
  | _, _, .nil => .nil
  | _, _, .cons h t => by
    rw [List.reverse_cons, List.reverse_cons]
    exact (dn_rev t).append (.cons h .nil)
theorem q_revL {X : Cx} {E : XK} {e : Expr} {de : DE} {k : Nat} {p1 p2 p3 pos : Pos} (he : QE X E e de) : QE X E (.Subscript e (.Slice none none (some (.UnaryOp .USub (.Constant (.int 1) k p1) p2)) p3) pos) (dRevL de) := by
  obtain ⟨te, a1, a2⟩ := he.ex
  refine ⟨_, pe_revL a1, ?_⟩
  intro ρ F H Γ μ σ k s Q h
  refine a2 ρ F H Γ μ σ k s _ ((WpR.bind h).mono (fun x μ1 q => ?_) fun _ _ q => q)
  intro ρ1 F1 H1 v n1 k1 r1
  cases r1 with
  | @lst a vs ds h1 h2 =>
    refine ⟨a, vs, rfl, SqL.of (k1.ex _ _ h1), fun p hp => ?_⟩
    exact q ρ1 _ _ _ (n1.trans (Nx.newF_ k1 hp)) (k1.newF hp) (.lst upd_same (dn_rev (h2.nx (Nx.newF_ (o := .lst vs.reverse) k1 hp))))
  | _ => exact q.elim
section
variable {Γ : Gam} {μ : Mu} {Q : D → Mu → Prop} {QL : List D → Mu → Prop}
theorem ok_star [ExW] {e : DE} {r : DA} : Ok (daStar e r Γ μ) QL = Ok (e Γ μ) fun x μ1 => OkO (seqA μ1 x) fun xs => Ok (r Γ μ1) fun ys μ2 => QL (xs ++ ys) μ2 := by
  unfold daStar
  rw [ok_bind]
  congr 1
  funext x μ1
  cases seqA μ1 x with
  | none => rfl
  | some xs => simp only [ok_bind, oko_some, ok_ok]
theorem seqA_tup {ds : List D} {P : List D → Prop} : OkO (seqA μ (.tup ds)) P = P ds := rfl
theorem seqA_lst {ds : List D} {P : List D → Prop} : OkO (seqA μ (.lst ds)) P = P ds := rfl
theorem ok_revL [ExW] {e : DE} : Ok (dRevL e Γ μ) Q = Ok (e Γ μ) fun x μ1 => Ok (match x with
    | .lst ds => R.ok (D.lst ds.reverse) μ1
    | _ => .stk) Q := by
  unfold dRevL; rw [ok_bind]
end
end Ar

set_option Elab.async false
set_option linter.all false
set_option maxRecDepth 100000
set_option maxHeartbeats 2000000
/-! Ar25: str of a tuple or a list -/
namespace Ar
open PySem PySem.Spec PyProof.Rows L2
def isTL : PyData → Bool
  | .tuple _ => true
  | .list _ => true
  | _ => false
def rStrP (K : PySem.W.Frag) : List V → Hp → VK → Prop := fun xs H Q => ∃ v d, xs = [v] ∧ Dp K H v d ∧ isTL d = true ∧ d.showable = true ∧ d.hasDict = false ∧ d.depth ≤ 60 ∧ d.shown.length ≤ sizeLine ∧ Q (.str d.shown) H
theorem call_strP {X : Cx} (hg : X.A.guards = some []) (hu : X.A.units + 64 < cLine) : CallR X (.type "str") (rStrP X.K) := by
  intro pins s σ H xs us Q I r h
  obtain ⟨v, d, rfl, hd, ht, hs, hn, hz, hl, q⟩ := h
  obtain ⟨u, rfl, rv⟩ := vals1 r
  cases hd with
  | non => cases ht
  | bl b => cases ht
  | int i => cases ht
  | str x => cases ht
  | @lst a _ ds h1 h2 =>
    obtain ⟨as, r1⟩ := Dp.reads I _ _ u (.lst h1 h2) rv
    cases rv
    exact str_of_reads r1 hs (fun z => by rw [hn] at z; cases z) hg (by omega) (fun _ _ e => e) (fun h' u tk k => ⟨.str _, H, I.kept k, ⟨_, rfl⟩, q⟩) hl
  | @tup a _ ds h1 h2 =>
    obtain ⟨as, r1⟩ := Dp.reads I _ _ u (.tup h1 h2) rv
    cases rv
    exact str_of_reads r1 hs (fun z => by rw [hn] at z; cases z) hg (by omega) (fun _ _ e => e) (fun h' u tk k => ⟨.str _, H, I.kept k, ⟨_, rfl⟩, q⟩) hl
def fStrC : Mu → List D → Option D := fun μ ds => match ds with
  | [x] => if isTL (toP (unloc μ x)) = true ∧ showD (unloc μ x) = true then some (.str (shw (unloc μ x))) else none
  | _ => none
theorem cd_strC {X : Cx} (hg : X.A.guards = some []) (hu : X.A.units + 64 < cLine) : CallD X (.type "str") fStrC := by
  refine ⟨_, call_strP hg hu, fun ρ F H μ vs ds z k rv ez Q q => ?_⟩
  unfold fStrC at ez
  split at ez
  · rename_i x
    split at ez
    · rename_i hs
      obtain ⟨h0, hs⟩ := hs
      cases ez
      unfold showD at hs
      rw [Bool.and_eq_true, Bool.and_eq_true, decide_eq_true_eq] at hs
      obtain ⟨⟨h1, h2⟩, h3⟩ := hs
      cases rv with
      | cons r1 r2 =>
        cases r2
        exact ⟨_, _, rfl, dp_un k h1 r1, h0, h2, plain_noDict _ _ h1, Nat.le_trans (plain_toP _ _ h1).2 (by decide), h3, q ρ F H _ Nx.refl k (.str _)⟩
    · cases ez
  · cases ez
def fStr2 : Mu → List D → Option D := orC fStr fStrC
theorem cd_str2 {X : Cx} (hg : X.A.guards = some []) (hu : X.A.units + 64 < cLine) : CallD X (.type "str") fStr2 := cd_str.or (cd_strC hg hu)
theorem o_str_tup {μ : Mu} {xs : List D} {P : D → Prop} (h : showD (.tup xs) = true) : OkO (fStr2 μ [.tup xs]) P = P (.str (shw (.tup xs))) := by
  have e : fStr2 μ [.tup xs] = some (.str (shw (.tup xs))) := by
    have e1 : fStr μ [.tup xs] = none := rfl
    have e2 : fStrC μ [.tup xs] = some (.str (shw (.tup xs))) := if_pos ⟨by show isTL (toP (.tup xs)) = true; rw [toP]; rfl, h⟩
    unfold fStr2 orC
    rw [e1]
    exact e2
  rw [e]; rfl
/-- tuples of three ints that are not too long are shown -/
theorem int_leaf {i : Int} (h : i.natAbs < 10 ^ 120) : (PyData.int i).leavesShort 130 = true := by
  simp only [PyData.leavesShort, decide_eq_true_eq, PyData.shown]
  have := int_text_length_le10 (k := 120) (by decide) h
  refine decide_eq_true ?_
  rw [PySem.ofString_length]
  omega
theorem log2_le {i : Int} (h : i.natAbs < 10 ^ 120) : i.natAbs.log2 ≤ 480 := by
  by_cases h0 : i.natAbs = 0
  · rw [h0]; decide
  · have h1 : i.natAbs < 2 ^ 481 := Nat.lt_trans h (by decide)
    have := (Nat.log2_lt h0).mpr h1
    omega
theorem int_weight {i : Int} (h : i.natAbs < 10 ^ 120) : (PyData.int i).weight ≤ 481 := by
  simp only [PyData.weight]
  split
  · omega
  · have := log2_le h; omega
theorem show_mv {x y s : Int} (hx : x.natAbs < 10 ^ 120) (hy : y.natAbs < 10 ^ 120) (hs : s.natAbs < 10 ^ 120) : showD (.tup [.int x, .int y, .int s]) = true := by
  have e : toP (.tup [.int x, .int y, .int s]) = .tuple [.int x, .int y, .int s] := by simp [toP, toPs]
  unfold showD
  rw [Bool.and_eq_true, Bool.and_eq_true, decide_eq_true_eq]
  refine ⟨⟨rfl, ?_⟩, ?_⟩
  · rw [e]
    simp only [PyData.showable, PyData.showableAll, Bool.and_eq_true, decide_eq_true_eq]
    have := log2_le hx; have := log2_le hy; have := log2_le hs
    exact ⟨by omega, by omega, by omega, trivial⟩
  · refine show_le 130 (by decide) _ ?_ ?_
    · rw [e]
      simp only [PyData.leavesShort, PyData.leavesShortAll, Bool.and_eq_true] at *
      exact ⟨int_leaf hx, int_leaf hy, int_leaf hs, trivial⟩
    · rw [e]
      have := int_weight hx; have := int_weight hy; have := int_weight hs
      simp only [PyData.weight, PyData.weightAll] at *
      rw [sizeLine_eq]
      omega
end Ar

set_option Elab.async false
set_option linter.all false
set_option maxRecDepth 100000
set_option maxHeartbeats 2000000
/-! Ar26: a list unpacked into names -/
namespace Ar
open PySem PySem.Spec PyProof.Rows L2
section
variable {X : Cx} {E : XK} {e : Expr} {pos : Pos}
def dgUnl (n : Nat) (gs : DGs) : DG := fun d Γ μ => match d with
  | .lst ds => if ds.length = n then gs ds Γ μ else .stk
  | _ => .stk
theorem qg_unl {es : List Expr} {k : Nat} {dgs : DGs} {n : Nat} (hc : X.calm = true) (h : QGs X E es dgs) (hn : (assignEach es X.env).length = n := by rfl) (hst : (assignEach es X.env).findIdx? (·.1) = none := by rfl) : QG X E (.Tuple es k pos) (dgUnl n dgs) := by
  obtain ⟨g, a1, a2⟩ := h.ex
  refine ⟨_, pg_unl hc a1 hn hst, ?_⟩
  intro ρ F H Γ μ σ v d k s r Q h
  cases r with
  | lst h1 h2 =>
    have h : WpR (if _ = n then dgs _ Γ μ else .stk) _ _ := h
    split at h
    · rename_i hl
      exact ⟨_, _, rfl, .inl (.inl (k.ex _ _ h1)), by rw [h2.length]; exact hl, a2 ρ F H Γ μ σ _ _ k s h2 Q h⟩
    · exact False.elim h
  | _ => exact False.elim h
end
theorem ok_gUnl [ExW] {n : Nat} {gs : DGs} {ds : List D} {Γ : Gam} {μ : Mu} {N : Gam → Mu → Prop} : Ok (dgUnl n gs (.lst ds) Γ μ) N = LenIs ds n (Ok (gs ds Γ μ) N) := by unfold dgUnl LenIs; simp only [ok_ite]
end Ar

set_option Elab.async false
set_option linter.all false
set_option maxRecDepth 100000
set_option maxHeartbeats 2000000
/-! Ar27: a try whose body raises nothing -/
namespace Ar
open PySem PySem.Spec PyProof.Rows L2
section
variable {X : Cx} {E : XK} {pos : Pos}
def noxS (r : RS) : RS := match r with
  | .exc _ _ => .stk
  | r => r
def dTry (ds : DS) : DS := fun Γ μ => noxS (ds Γ μ)
theorem q_try {body : List Stmt} {h₀ : ExceptHandler} {hs : List ExceptHandler} {ds : DS} (hb : QSs X.nox E0 body ds) : QSt X E (.Try body (h₀ :: hs) [] [] pos) (dTry ds) := by
  obtain ⟨t, a1, a2⟩ := hb.ex
  refine ⟨t, ps_try_thru0 a1, ?_⟩
  intro ρ F H Γ μ σ k s D h
  refine a2 ρ F H Γ μ σ k s D ?_
  unfold dTry at h
  generalize ds Γ μ = r at h ⊢
  cases r with
  | exc e μ1 => exact False.elim h
  | stk => exact False.elim h
  | nx Γ1 μ1 => exact h
  | rt Γ1 μ1 => exact h
  | bk Γ1 μ1 => exact h
  | ct Γ1 μ1 => exact h
end
theorem oks_try [ExW] {ds : DS} {Γ : Gam} {μ : Mu} {N B C : Gam → Mu → Prop} {T : D → Mu → Prop} : OkS (dTry ds Γ μ) N B C T = @OkS xp0 (ds Γ μ) N B C T := by
  unfold dTry
  generalize ds Γ μ = r
  cases r <;> rfl
/-- xs[::-1] as a list that changes later -/
def dRevLM (e : DE) : DE := fun Γ μ => (e Γ μ).bind fun x μ1 => match x with
  | .lst ds => .ok (.loc μ1.length) (μ1 ++ [.lst ds.reverse])
  | _ => .stk
theorem q_revLM {X : Cx} {E : XK} {e : Expr} {de : DE} {k : Nat} {p1 p2 p3 pos : Pos} (he : QE X E e de) : QE X E (.Subscript e (.Slice none none (some (.UnaryOp .USub (.Constant (.int 1) k p1) p2)) p3) pos) (dRevLM de) := by
  obtain ⟨te, a1, a2⟩ := he.ex
  refine ⟨_, pe_revL a1, ?_⟩
  intro ρ F H Γ μ σ k s Q h
  refine a2 ρ F H Γ μ σ k s _ ((WpR.bind h).mono (fun x μ1 q => ?_) fun _ _ q => q)
  intro ρ1 F1 H1 v n1 k1 r1
  cases r1 with
  | @lst a vs ds h1 h2 =>
    refine ⟨a, vs, rfl, SqL.of (k1.ex _ _ h1), fun p hp => ?_⟩
    obtain ⟨n2, k2, r2⟩ := new_lstM k1 (dn_rev h2) hp
    exact q _ _ _ _ (n1.trans n2) k2 r2
  | _ => exact q.elim
theorem ok_revLM [ExW] {Γ : Gam} {μ : Mu} {Q : D → Mu → Prop} {e : DE} : Ok (dRevLM e Γ μ) Q = Ok (e Γ μ) fun x μ1 => Ok (match x with
    | .lst ds => R.ok (D.loc μ1.length) (μ1 ++ [.lst ds.reverse])
    | _ => .stk) Q := by
  unfold dRevLM; rw [ok_bind]
/-! ### the greatest and the least of a tuple of ints -/
def fInt1 (g : Int → List Int → Int) : Mu → List D → Option D := fun _ ds => match ds with
  | [.tup (.int a :: xs)] => (intsOf xs).map fun ns => .int (g a ns)
  | _ => none
theorem fInt1_some {ρ : List Addr} {F H : Hp} {μ : Mu} {K : PySem.W.Frag} {g : Int → List Int → Int} {vs : List V} {ds : List D} {z : D} (k : HpOk K ρ μ F H) (rv : DnAll K ρ F vs ds) (h : fInt1 g μ ds = some z) : ∃ (a : Addr) (n : Int) (ns : List Int), vs = [.ref a] ∧ SqT K H a (V.int n :: ns.map V.int) ∧ z = .int (g n ns) := by
  unfold fInt1 at h
  split at h
  · rename_i a xs
    cases hx : intsOf xs with
    | none => rw [hx] at h; cases h
    | some ns =>
      rw [hx] at h
      cases h
      cases rv with
      | cons r1 r2 =>
        cases r2
        cases r1 with
        | tup h1 h2 =>
          cases h2 with
          | cons i1 i2 =>
            cases i1
            rw [intsOf_ok hx i2] at h1
            exact ⟨_, a, ns, rfl, Sub.sqT k.ex h1, rfl⟩
  · cases h
theorem alikeI (ns : List Int) : PySem.W.AlikeAll (ns.map PyData.int) := by
  refine ⟨fun x hx y hy => ?_, fun x hx => ?_⟩
  · obtain ⟨a, _, rfl⟩ := List.mem_map.mp hx
    obtain ⟨b, _, rfl⟩ := List.mem_map.mp hy
    rfl
  · obtain ⟨a, _, rfl⟩ := List.mem_map.mp hx
    exact fun h => by cases h
def fMaxT : Mu → List D → Option D := fInt1 fun n ns => ns.foldl max n
def fMinT : Mu → List D → Option D := fInt1 fun n ns => ns.foldl min n
theorem cd_maxT {X : Cx} (hc : X.calm = true) (hu : X.A.units + 64 < cLine) : CallD X (.builtin "max") fMaxT := by
  refine ⟨fun vs H Q => ∃ (a : Addr) (n : Int) (ns : List Int), vs = [V.ref a] ∧ SqT X.K H a (V.int n :: ns.map V.int) ∧ Q (.int (ns.foldl max n)) H, ?_, fun ρ F H μ vs ds z k rv ez Q q => ?_⟩
  · intro pins s σ H vs us Q I r h
    obtain ⟨a, n, ns, rfl, hs, q⟩ := h
    obtain ⟨its, rv, ht, _⟩ := I.tuple hs
    rw [Vals.ref1 r]
    have hi : IntsAre its (n :: ns) := Vals.ints (ns := n :: ns) rv
    have hr := hi.reads s.heap
    refine PySem.W.max_tuple_data (x := .int n) (xs := ns.map .int) (I.ok.hd hc) ht hr (alikeI (n :: ns)) ?_ fun i v h' tk bs hi r hk => ?_
    · have := PyProof.Rows.depthAll_ints (n :: ns)
      rw [List.map_cons] at this
      rw [this]
      omega
    · rw [PySem.W.maxD_ints] at r
      cases r
      exact ⟨.int _, H, I.kept hk, ⟨_, rfl⟩, q⟩
  · obtain ⟨a, n, ns, rfl, hs, rfl⟩ := fInt1_some k rv ez
    exact ⟨a, n, ns, rfl, hs, q ρ F H _ Nx.refl k (.int _)⟩
theorem cd_minT {X : Cx} (hc : X.calm = true) (hu : X.A.units + 64 < cLine) : CallD X (.builtin "min") fMinT := by
  refine ⟨fun vs H Q => ∃ (a : Addr) (n : Int) (ns : List Int), vs = [V.ref a] ∧ SqT X.K H a (V.int n :: ns.map V.int) ∧ Q (.int (ns.foldl min n)) H, ?_, fun ρ F H μ vs ds z k rv ez Q q => ?_⟩
  · intro pins s σ H vs us Q I r h
    obtain ⟨a, n, ns, rfl, hs, q⟩ := h
    obtain ⟨its, rv, ht, _⟩ := I.tuple hs
    rw [Vals.ref1 r]
    have hi : IntsAre its (n :: ns) := Vals.ints (ns := n :: ns) rv
    have hr := hi.reads s.heap
    refine PySem.W.min_tuple_data (x := .int n) (xs := ns.map .int) (I.ok.hd hc) ht hr (alikeI (n :: ns)) ?_ fun i v h' tk bs hi r hk => ?_
    · have := PyProof.Rows.depthAll_ints (n :: ns)
      rw [List.map_cons] at this
      rw [this]
      omega
    · rw [PySem.W.minD_ints] at r
      cases r
      exact ⟨.int _, H, I.kept hk, ⟨_, rfl⟩, q⟩
  · obtain ⟨a, n, ns, rfl, hs, rfl⟩ := fInt1_some k rv ez
    exact ⟨a, n, ns, rfl, hs, q ρ F H _ Nx.refl k (.int _)⟩
def fMax1 : Mu → List D → Option D := orC fMaxT fMax
def fMin1 : Mu → List D → Option D := orC fMinT fMin
theorem cd_max1 {X : Cx} (hc : X.calm = true) (hu : X.A.units + 64 < cLine) : CallD X (.builtin "max") fMax1 := (cd_maxT hc hu).or (cd_max hc)
theorem cd_min1 {X : Cx} (hc : X.calm = true) (hu : X.A.units + 64 < cLine) : CallD X (.builtin "min") fMin1 := (cd_minT hc hu).or (cd_min hc)
theorem o_max1_3 {μ : Mu} {a b c : Int} {P : D → Prop} : OkO (fMax1 μ [.tup [.int a, .int b, .int c]]) P = P (.int (max (max a b) c)) := rfl
theorem o_min1_3 {μ : Mu} {a b c : Int} {P : D → Prop} : OkO (fMin1 μ [.tup [.int a, .int b, .int c]]) P = P (.int (min (min a b) c)) := rfl
end Ar

set_option Elab.async false
set_option linter.all false
set_option maxRecDepth 100000
set_option maxHeartbeats 2000000
/-! Ar28: chains of two comparisons -/
namespace Ar
open PySem PySem.Spec PyProof.Rows L2
def linkD (c : DE) (g : Mu → D → D → Option D) (y : D) (Γ : Gam) (z : D) (μ : Mu) : R D := match z with
  | .bl true => (c Γ μ).bind fun w μ4 => R.of μ4 (g μ4 y w)
  | .bl false => .ok (.bl false) μ
  | _ => .stk
def dCmp2 (f g : Mu → D → D → Option D) (a b c : DE) : DE := fun Γ μ => (a Γ μ).bind fun x μ1 => (b Γ μ1).bind fun y μ2 => (R.of μ2 (f μ2 x y)).bind (linkD c g y Γ)
section
variable {X : Cx} {E : XK} {K : PySem.W.Frag} {a b c : Expr} {da db dc : DE} {pos : Pos} {f g : Mu → D → D → Option D}
theorem sim_cmp2 {r r' : R2} {ta tb tc : TE} (hr : OpS K r f) (hr' : OpS K r' g) (ha : SimE K E ta da) (hb : SimE K E tb db) (hc : SimE K E tc dc) : SimE K E (tChain r r' ta tb tc) (dCmp2 f g da db dc) := by
  intro ρ F H Γ μ σ k s Q h
  refine ha ρ F H Γ μ σ k s _ (h.bind.mono (fun x μ1 h1 => ?_) fun _ _ q => q)
  intro ρ1 F1 H1 v n1 k1 r1
  refine hb ρ1 F1 H1 Γ μ1 σ k1 (s.nx n1) _ (h1.bind.mono (fun y μ2 h2 => ?_) fun _ _ q => XP.nx n1 q)
  intro ρ2 F2 H2 w n2 k2 r2
  obtain ⟨z, ez, q⟩ := (WpR.bind h2).of
  refine hr ρ2 F2 H2 μ2 v w x y z k2 (r1.nx n2) r2 ez _ ?_
  intro ρ3 F3 H3 u n3 k3 r3
  cases z with
  | bl b =>
    cases r3
    cases b with
    | true =>
      refine ⟨true, rfl, ?_⟩
      rw [if_pos rfl]
      have q : WpR ((dc Γ μ2).bind fun w μ4 => R.of μ4 (g μ4 y w)) _ _ := q
      refine hc ρ3 F3 H3 Γ μ2 σ k3 (((s.nx n1).nx n2).nx n3) _ ((WpR.bind q).mono (fun w' μ4 q4 => ?_) fun _ _ q => XP.nx (n1.trans (n2.trans n3)) q)
      intro ρ4 F4 H4 w4 n4 k4 r4
      obtain ⟨z', ez', q'⟩ := q4.of
      exact hr' ρ4 F4 H4 μ4 w w4 y w' z' k4 (r2.nx (n3.trans n4)) r4 ez' Q (QV.nx (n1.trans (n2.trans (n3.trans n4))) q')
    | false =>
      refine ⟨false, rfl, ?_⟩
      rw [if_neg (by decide)]
      have q : QV K ρ F H Q (.bl false) μ2 := q
      exact q ρ3 F3 H3 _ (n1.trans (n2.trans n3)) k3 (.bl false)
  | _ => exact False.elim q
theorem q_chain {op op' : CmpOp} (ho : OpD X (compareOp op) f) (ho' : OpD X (compareOp op') g) (ha : QE X E a da) (hb : QE X E b db) (hc : QE X E c dc) (hm : lastMarks [op, op'] [b, c] = false := by with_unfolding_all rfl) : QE X E (.Compare a [op, op'] [b, c] pos) (dCmp2 f g da db dc) := by
  obtain ⟨r, h1, h2⟩ := ho.ex
  obtain ⟨r', h1', h2'⟩ := ho'.ex
  obtain ⟨ta, a1, a2⟩ := ha.ex
  obtain ⟨tb, b1, b2⟩ := hb.ex
  obtain ⟨tc, c1, c2⟩ := hc.ex
  exact ⟨_, pe_chain h1 h1' a1 b1 c1 hm, sim_cmp2 h2 h2' a2 b2 c2⟩
theorem qt_chain {op op' : CmpOp} (ho : OpD X (compareOp op) f) (ho' : OpD X (compareOp op') g) (ha : QE X E a da) (hb : QE X E b db) (hc : QE X E c dc) (hm : lastMarks [op, op'] [b, c] = false := by with_unfolding_all rfl) : QT X E (.Compare a [op, op'] [b, c] pos) (dTest (dCmp2 f g da db dc)) := by
  obtain ⟨r, h1, h2⟩ := ho.ex
  obtain ⟨r', h1', h2'⟩ := ho'.ex
  obtain ⟨ta, a1, a2⟩ := ha.ex
  obtain ⟨tb, b1, b2⟩ := hb.ex
  obtain ⟨tc, c1, c2⟩ := hc.ex
  exact ⟨_, pt_chain h1 h1' a1 b1 c1 hm, sim_test (sim_cmp2 h2 h2' a2 b2 c2)⟩
end
theorem ok_cmp2 [ExW] {f g : Mu → D → D → Option D} {a b c : DE} {Γ : Gam} {μ : Mu} {Q : D → Mu → Prop} : Ok (dCmp2 f g a b c Γ μ) Q = Ok (a Γ μ) fun x μ1 => Ok (b Γ μ1) fun y μ2 => OkO (f μ2 x y) fun z => OkB z fun b => if b = true then Ok (c Γ μ2) fun w μ4 => OkO (g μ4 y w) fun z => Q z μ4 else Q (.bl false) μ2 := by
  unfold dCmp2
  simp only [ok_bind, ok_of]
  congr 1; funext x μ1; congr 1; funext y μ2; congr 1; funext z
  cases z with
  | bl b =>
    cases b with
    | true =>
      show Ok ((c Γ μ2).bind fun w μ4 => R.of μ4 (g μ4 y w)) Q = _
      simp only [ok_bind, ok_of]
      rfl
    | false => rfl
  | _ => rfl
end Ar

set_option Elab.async false
set_option linter.all false
set_option maxRecDepth 100000
set_option maxHeartbeats 2000000
/-! Ar29: a comprehension over a list that changes at other times -/
namespace Ar
open PySem PySem.Spec PyProof.Rows L2
open Classical in
noncomputable def stands {α : Type} (n : Nat) (ds : List D) (μ : Mu) (r : R α) : R α := if μ[n]? = some (.lst ds) then r else .stk
noncomputable def lcK (n : Nat) (ds0 : List D) (g : DG) (t : DT) (e : DE) (Γ : Gam) : List D → Mu → R (List D)
  | [], μ => stands n ds0 μ (.ok [] μ)
  | d :: ds, μ => stands n ds0 μ ((g d Γ μ).nox.bind fun Γ1 μ1 => (t Γ1 μ1).nox.bind fun b μ2 => match b with
    | false => lcK n ds0 g t e Γ ds μ2
    | true => (e Γ1 μ2).nox.bind fun y μ3 => (lcK n ds0 g t e Γ ds μ3).bind fun ys μ4 => .ok (y :: ys) μ4)
noncomputable def dLcK (fin : List D → Mu → R D) (vs : List Nat) (v : DE) (g : DG) (t : DT) (e : DE) : DE := fun Γ μ => (v Γ μ).bind fun d μ1 => match d with
  | .loc n => match μ1[n]? with
    | some (.lst ds) => if ds.length ≤ 1000000 then (lcK n ds g t e (wipeG Γ vs) ds μ1).bind fin else .stk
    | _ => .stk
  | _ => .stk
section
variable {X : Cx} {E : XK} {K : PySem.W.Frag}
/-- what is made so far at dl, the rest still to come -/
def LcWk (K : PySem.W.Frag) (nn : Nat) (ds0 : List D) (fin : List D → Mu → R D) (dg : DG) (dt : DT) (de : DE) (Γw : Gam) (ds : List D) (Q : VK) (ρ1 : List Addr) (F1 H1 : Hp) (dl : Addr) (i : Nat) (H' : Hp) : Prop :=
  ∃ ρ' F' μ' acc dacc, HpOk K ρ' μ' F' H' ∧ Nx ρ1 F1 H1 ρ' F' H' ∧ H' dl = some (.lst acc) ∧ dl ∉ ρ' ∧ F' dl = none ∧ DnAll K ρ' F' acc dacc ∧ acc.length ≤ i ∧
    WpR (lcK nn ds0 dg dt de Γw (ds.drop i) μ') (fun ys μ2 => WpR (fin (dacc ++ ys) μ2) (QV K ρ1 F1 H1 Q) (fun _ _ => True)) (fun _ _ => True)
/-- the loop of a comprehension over a place that stays as it is meanwhile -/
theorem lck_sim {te0 : TE} {dv : DE} {g : TG} {dg : DG} {dt : DT} {de : DE} {vs : List Nat} (fin : List D → Mu → R D) (hi : SimE K E te0 dv) (hg : SimG K E0 g dg) (hb : Blind g vs) (hfin : Fin K fin) :
    SimE K E (tLc (iList K te0) g (tT K E0 dt) (tE K E0 de) vs) (dLcK fin vs dv dg dt de) := by
  intro ρ F H Γ μ σ k s Q h
  unfold dLcK at h
  refine hi ρ F H Γ μ σ k s _ ((WpR.bind h).mono (fun d0 μ1 q => ?_) fun _ _ q => q)
  intro ρ1 F1 H1 v1 n1 k1 r1
  split at q
  · rename_i nn
    split at q
    · rename_i ds em
      split at q
      · rename_i hlen
        cases r1 with
        | @loc a _ ea =>
          obtain ⟨hf1, vs1, ev1, rv1⟩ := k1.mu nn a _ ea em
          refine ⟨a, rfl, ⟨vs1, SqL.of ev1⟩, ?_⟩
          intro dl hD
          have D1 : dl ∉ ρ1 := k1.fresh hD
          have D2 : F1 dl = none := k1.freshF hD
          have q0 : WpR (lcK nn ds dg dt de (wipeG Γ vs) ds μ1) (fun ys μ2 => WpR (fin ys μ2) (QV K ρ1 F1 H1 Q) (fun _ _ => True)) (fun _ _ => True) :=
            (WpR.bind q).mono (fun ys μ2 q => q.mono (fun d μ3 q => QV.nx n1 q) fun _ _ _ => trivial) fun _ _ _ => trivial
          refine ⟨fun i m H' => m = ds.length - i ∧ i ≤ ds.length ∧ LcWk K nn ds fin dg dt de (wipeG Γ vs) ds Q ρ1 F1 H1 dl i H', ⟨ds.length, rfl, Nat.zero_le _, ρ1, F1, μ1, [], [], k1.beside D1 D2, Nx.aside Nx.refl hD, upd_same, D1, D2, .nil, Nat.le_refl _, by rw [List.drop_zero]; exact q0⟩, ?_⟩
          rintro i m H' ⟨rfl, hi, ρ', F', μ', acc, dacc, k', n', hd', dr, df, ra, hla, q'⟩
          have em' : μ'[nn]? = some (.lst ds) := by
            cases hdr : ds.drop i with
            | nil => rw [hdr] at q'; unfold lcK stands at q'; split at q'; assumption; exact False.elim q'
            | cons x xs => rw [hdr] at q'; unfold lcK stands at q'; split at q'; assumption; exact False.elim q'
          obtain ⟨hfa, vsa, eva, rva⟩ := k'.mu nn a _ (n'.pre nn a ea) em'
          have lva := rva.length
          by_cases hlt : i < ds.length
          · have e1 : ds.drop i = ds[i] :: ds.drop (i + 1) := List.drop_eq_getElem_cons hlt
            refine .inr ⟨⟨vsa, vsa[i]'(by omega), SqL.of eva, List.getElem?_eq_getElem _⟩, LcWk K nn ds fin dg dt de (wipeG Γ vs) ds Q ρ1 F1 H1 dl (i + 1), fun H2 hN => ⟨ds.length - (i + 1), by omega, rfl, hlt, hN⟩, fun x H2 y => ?_⟩
            obtain ⟨eH, y⟩ := y
            subst eH
            have qx := y vsa (SqL.of eva)
            obtain ⟨d, hd, r2⟩ := rva.getV qx
            have ed : ds[i] = d := Option.some.inj ((List.getElem?_eq_getElem hlt).symm.trans hd)
            rw [e1, ed] at q'
            unfold lcK stands at q'
            rw [if_pos em'] at q'
            have n2 : Nx ρ' F' H2 ρ' F' H2 := Nx.refl
            have k2 := k'
            obtain ⟨b1, b2, b3⟩ := n2.stays hd' dr df
            have nn2 := n'.trans n2
            have hs' : Slots K ρ' F' (wipeG Γ vs) (wipe σ vs) := (slots_wipe (s.nx n1) vs).nx n'
            have z := hb x (wipe σ vs) H2 (fun σ2 H2 => tT K E0 dt σ2 H2 fun b H3 => if b = true then tE K E0 de σ2 H3 fun y H4 => ∃ acc, H4 dl = some (.lst acc) ∧ acc.length < sizeLine ∧ LcWk K nn ds fin dg dt de (wipeG Γ vs) ds Q ρ1 F1 H1 dl (i + 1) (upd H4 dl (.lst (acc ++ [y]))) else LcWk K nn ds fin dg dt de (wipeG Γ vs) ds Q ρ1 F1 H1 dl (i + 1) H3) (hg ρ' F' H2 (wipeG Γ vs) μ' (wipe σ vs) x d k2 (hs'.nx n2) r2 _ ((WpR.bind q').nox.mono (fun Γ3 μ3 q3 => by
              intro ρ3 F3 H3 σ3 n3 k3 s3
              have nn3 := nn2.trans n3
              obtain ⟨c1, c2, c3⟩ := n3.stays b1 b2 b3
              refine ⟨ρ3, F3, Γ3, μ3, k3, s3, (WpR.bind q3).nox.mono (fun b μ4 q4 => ?_) fun _ _ q => q⟩
              intro ρ4 F4 H4 n4 k4
              have nn4 := nn3.trans n4
              obtain ⟨d1, d2, d3⟩ := n4.stays c1 c2 c3
              have ra4 := ((ra.nx n2).nx n3).nx n4
              cases b with
              | false => exact ⟨ρ4, F4, μ4, acc, dacc, k4, nn4, d1, d2, d3, ra4, by omega, q4⟩
              | true =>
                refine ⟨ρ4, F4, Γ3, μ4, k4, s3.nx n4, (WpR.bind q4).nox.mono (fun yd μ5 q5 => ?_) fun _ _ q => q⟩
                intro ρ5 F5 H5 yv n5 k5 r5
                obtain ⟨g1, g2, g3⟩ := n5.stays d1 d2 d3
                refine ⟨acc, g1, Nat.lt_of_lt_of_le (show acc.length < 1000000 by omega) million, ρ5, F5, μ5, acc ++ [yv], dacc ++ [yd], k5.beside g2 g3, (nn4.trans n5).aside hD, upd_same, g2, g3, (ra4.nx n5).append (.cons r5 .nil), by rw [List.length_append, List.length_singleton]; omega, ?_⟩
                exact (WpR.bind q5).mono (fun ys μ6 q6 => by rw [List.append_assoc]; exact q6) fun _ _ q => q) fun _ _ q => False.elim (by
                exact q)))
            · rw [wipe_wipe] at z
              exact z
          · have e : i = ds.length := by omega
            subst e
            rw [List.drop_length] at q'
            unfold lcK stands at q'
            rw [if_pos em'] at q'
            refine .inl ⟨⟨vsa, SqL.of eva, by omega⟩, ?_⟩
            refine hfin ρ1 ρ' F1 H1 F' H' μ' dl acc dacc Q k' n' hD hd' dr df ra ?_
            have q' : WpR (fin (dacc ++ []) μ') _ _ := q'
            rw [List.append_nil] at q'
            exact q'
      · exact False.elim q
    · exact False.elim q
  · exact False.elim q

theorem q_lcK {fin : List D → Mu → R D} {elt tg iter : Expr} {ifs : List Expr} {scope : Scope} {pos : Pos} {dv : DE} {dg : DG} {dt : DT} {de : DE} (own : List (Str × Nat)) (hfin : Fin X.K fin) (hc : X.calm = true) (hN : X.N.Nodup) (hi : QE X E iter dv) (ok : BlkOk X.N X.env.scope scope own)
    (hg : QGb X scope tg (own.map (·.2)) dg) (ht : ∀ (s : Shared) (H : Hp) (C : Addr) (cl : List (Str × Addr)) (fp : List Addr), QTs (X.blk s H scope (compEnvC scope cl C X.env) fp) E0 ifs dt)
    (he : ∀ (s : Shared) (H : Hp) (C : Addr) (cl : List (Str × Addr)) (fp : List Addr), QE (X.blk s H scope (compEnvC scope cl C X.env) fp) E0 elt de) (hs : ∀ x, foldedSetIterable iter X.env x = pure x := by intro _; rfl) :
    QE X E (.ListComp elt [⟨tg, iter, ifs, 0⟩] scope pos) (dLcK fin (own.map (·.2)) dv dg dt de) := by
  obtain ⟨te, i1, i2⟩ := hi.ex
  obtain ⟨g, g1, g2, g3⟩ := hg.ex
  exact ⟨_, pe_lc hc hN (pi_list i1) ok g1 (fun s H C cl fp => (ht s H C cl fp).run) (fun s H C cl fp => (he s H C cl fp).pe) hs, lck_sim fin i2 g2 g3 hfin⟩
end
section
variable {Γ : Gam} {μ : Mu}
theorem ok_lcKn {n : Nat} {ds0 : List D} {g : DG} {t : DT} {e : DE} {QL : List D → Mu → Prop} (h : μ[n]? = some (.lst ds0)) : Ok (lcK n ds0 g t e Γ [] μ) QL = QL [] μ := by
  rw [lcK, stands, if_pos h]; rfl
theorem ok_lcKc {n : Nat} {ds0 : List D} {g : DG} {t : DT} {e : DE} {d : D} {ds : List D} {QL : List D → Mu → Prop} (h : μ[n]? = some (.lst ds0)) : Ok (lcK n ds0 g t e Γ (d :: ds) μ) QL = Ok (g d Γ μ) fun Γ1 μ1 => Ok (t Γ1 μ1) fun b μ2 => if b = true then Ok (e Γ1 μ2) fun y μ3 => Ok (lcK n ds0 g t e Γ ds μ3) fun ys μ4 => QL (y :: ys) μ4 else Ok (lcK n ds0 g t e Γ ds μ2) QL := by
  rw [lcK, stands, if_pos h]; simp only [ok_bind, ok_nox]
  congr 1; funext Γ1 μ1; congr 1; funext b μ2
  cases b <;> simp only [ok_bind, ok_nox, ok_ok, if_true, if_false, Bool.false_eq_true]
theorem ok_lcKi {fin : List D → Mu → R D} {vs : List Nat} {i n : Nat} {ds : List D} {g : DG} {t : DT} {e : DE} {Q : D → Mu → Prop} (hv : Γ[i]? = some (some (.loc n))) (h : μ[n]? = some (.lst ds)) (hl : ds.length ≤ 1000000) (q : Ok (lcK n ds g t e (wipeG Γ vs) ds μ) fun ys μ2 => Ok (fin ys μ2) Q) : Ok (dLcK fin vs (dVar i) g t e Γ μ) Q := by
  have e1 : dVar i Γ μ = .ok (.loc n) μ := by unfold dVar; rw [hv]
  have : dLcK fin vs (dVar i) g t e Γ μ = (lcK n ds g t e (wipeG Γ vs) ds μ).bind fin := by
    unfold dLcK
    rw [e1]
    show (match μ[n]? with | some (.lst ds) => _ | _ => _) = _
    rw [h]
    show (if ds.length ≤ 1000000 then _ else _) = _
    rw [if_pos hl]
  rw [this, ok_bind]
  exact q
end
end Ar

set_option Elab.async false
set_option linter.all false
set_option maxRecDepth 100000
set_option maxHeartbeats 2000000
/-! Ar30: own methods of a class with one slot: len -/
namespace Ar
open PySem PySem.Spec PyProof.Rows L2
theorem RoomG.in1 {k : Nat} {A : Around} (h : RoomG (k + 1) A) : RoomG k A.in1 := ⟨h.r.in1, h.g⟩
section
variable {X : Cx} {Z : CXT} {pins : List (Addr × Obj)} {σ : L2.St} {H : Hp} {s : Shared} {n : Nat} {f : Addr} {fd : FuncData} {ps : List Str} {sp : Sp} {E : XK}
/-- a callee below the running body -/
theorem ranAt {A : Around} {D : VK} {us : List Value} {xs : List V} (G : Pm X.prog X.w X.K X.mg X.base Z n f fd ps sp) (hr : RoomG n A) (e0 : Env0 X.prog X.w X.K X.mg X.base A X.stack s H) (hx : Passes Z X E) (I : Inv X pins σ H s)
    (b : BindsTo s fd ⟨us, []⟩ (ps.zip us)) (r : Vals xs us) (h : sp xs H D E) : codeAny (model X.prog X.w) A (.call (.ref f) ⟨us, []⟩) (fun r s' => match r with | .ok (.ret v) => EP X pins σ D v s' | .ok _ => False | .error e => X.xe e s') s := by
  refine codeAny_mono (G.go A X.stack s H ⟨us, []⟩ us xs D E hr e0 b r h) fun z s' q => ?_
  match z, q with
  | .error err, q => exact hx pins σ H s err s' I q
  | .ok (.ret u), q => exact I.after q
end
section
variable {prog : Program} {w : World} {A : Around} {E : Value → Shared → Prop} {s : Shared} {K : PySem.W.Frag} {x C D f : Addr} {ox od : Obj} {odd : Option Obj}
theorem len_ownR {Q : Value → Shared → Prop} (X : K.In s.heap) (I : PySem.W.InstAt s.heap x ox C odd) (hs : PySem.W.findIn K (.ref C) "__len__" = some (some (.ref f))) (hf : PySem.W.isFn K (.ref f) = true)
    (h : wpAny (model prog w) A.in1 (call (.ref f) [.ref x]) (fun r s₁ => ∃ (n : Int) (u : Nat), r = Value.int n u ∧ 0 ≤ n ∧ n < 2 ^ 62 ∧ Q (.int n s₁.toks) { s₁ with toks := s₁.toks + 1 }) E s) : wpAny (model prog w) A (call (.builtin "len") [.ref x]) Q E s := by
  refine Calls.call_function_entry kind_len plain_len entry_len (args_len1 _) ?_
  unfold Builtin.«len»
  refine wpAny_bind (m := oneArg "len" _) (wpAny_pure ?_)
  refine wpAny_bind (m := callSpecial? (.ref x) (PySem.Str.ofString "__len__")) (PySem.W.special_fn X I hs (beq_iff_eq.mp hf) (wpAny_mono h (fun r s' hr => ?_) fun _ _ y => y))
  obtain ⟨n, u, rfl, h0, h1, hq⟩ := hr
  refine wpAny_bind (wpAny_holding (wpAny_pure ?_))
  refine wpAny_bind (wpAny_letGo ?_)
  show wpAny _ _ (if n < 0 then _ else _) _ _ _
  rw [if_neg (by omega)]
  show wpAny _ _ (if n ≥ 2 ^ 63 then _ else _) _ _ _
  rw [if_neg (by omega)]
  exact wpAny_bind (wpAny_mkInt (wpAny_pure ⟨_, rfl, hq⟩))
end
/-- the own method nm of the class C does what m says -/
structure MethG (P : Program) (w : World) (K : PySem.W.Frag) (mg : Str → Option Value) (base : Heap) (C nm : Str) (k : Nat) (m : Fn) : Prop where
  ex : ∃ f fd ps, PySem.W.findIn K (.ref (He.ga K C)) nm = some (some (.ref f)) ∧ PySem.W.isFn K (.ref f) = true ∧ PySem.W.keepIn K (.ref f) = true ∧ Binds K fd ps [] ∧ Pm P w K mg base (L2.CX P w) k f fd ps (spM K m)
theorem MethG.mono {P : Program} {w : World} {K : PySem.W.Frag} {mg : Str → Option Value} {base : Heap} {C nm : Str} {j k : Nat} {m : Fn} (G : MethG P w K mg base C nm j m) (h : j ≤ k) : MethG P w K mg base C nm k m := by
  obtain ⟨f, fd, ps, h1, h2, h3, h4, h5⟩ := G.ex
  exact ⟨f, fd, ps, h1, h2, h3, h4, h5.mono h⟩
/-- len(x) of a value with an own __len__, of the built-in ones otherwise -/
def rLenOwn (K : PySem.W.Frag) (C : Str) (m : Fn) (E : XK) : List V → Hp → VK → Prop := fun xs H Q => ∃ a dx vs, xs = [V.ref a] ∧ SlX.Slt H a (He.ga K C) dx vs ∧ spM K m [.ref a] H (fun z H' => ∃ i : Int, z = .int i ∧ 0 ≤ i ∧ i < 2 ^ 62 ∧ Q (.int i) H') E
theorem call_lenOwn {X : Cx} {C : Str} {m : Fn} {k : Nat} {E : XK} (G : MethG X.prog X.w X.K X.mg X.base C "__len__" k m) (hr : RoomG (k + 1) X.A) (hx : Passes (L2.CX X.prog X.w) X E) : CallR X (.builtin "len") (rLenOwn X.K C m E) := by
  intro pins s σ H xs us Q I r h
  obtain ⟨a, dx, vs, rfl, hsl, q⟩ := h
  obtain ⟨u, rfl, ru⟩ := r.one
  cases (show u = Value.ref a from ru)
  obtain ⟨sl, od, _, J, _⟩ := SlX.slt_inst I hsl
  obtain ⟨f, fd, ps, h1, h2, h3, h4, h5⟩ := G.ex
  refine len_ownR I.kIn J h1 h2 (wpAny_mono (wpAny_call (ranAt (us := [.ref a]) (xs := [.ref a]) h5 hr.in1 I.env0.in1 hx I ?_ (.cons rfl .nil) q)) (fun w s' z => ?_) fun _ _ x => x)
  · have := h4 s [.ref a] I.kIn (by have := h5.ln _ _ _ _ q; simpa using this)
    exact this
  · obtain ⟨z', H', I', rz, i, ei, i0, i1, qz⟩ := z
    subst ei
    obtain ⟨t, e⟩ := (show ∃ t, w = Value.int i t from rz)
    cases e
    exact ⟨i, t, rfl, i0, i1, .int i, H', I'.tok _, ⟨_, rfl⟩, qz⟩
end Ar

set_option Elab.async false
set_option linter.all false
set_option maxRecDepth 100000
set_option maxHeartbeats 2000000
/-! Ar31: len of a value with an own __len__; tuple(range(n)), list(range(n)) -/
namespace Ar
open PySem PySem.Spec PyProof.Rows L2
/-- len(x), x a value of the class C, whose own __len__ does m -/
def dLenO (C : Str) (m : Fn) (e : DE) : DE := fun Γ μ => (e Γ μ).bind fun d μ1 => match d with
  | .slt C' ds => if C' = C then (m [.slt C' ds] μ1).bind fun r μ2 => (match r with
      | .int i => if 0 ≤ i ∧ i < 2 ^ 62 then .ok (.int i) μ2 else .stk
      | _ => .stk) else .stk
  | _ => .stk
theorem q_lenO {X : Cx} {E : XK} {C : Str} {m : Fn} {k : Nat} {e : Expr} {de : DE} {p pos : Pos} (G : MethG X.prog X.w X.K X.mg X.base C "__len__" k m) (hr : RoomG (k + 1) X.A) (hx : Passes (L2.CX X.prog X.w) X E) (hm : X.mg "len" = none) (he : QE X E e de) (hg : Gl X "len" := by rfl)
    (h1 : starEach [e] X.env = (false, eval e X.env) :: starEach [] X.env := by rfl) (hpl : (backTo pos (starEach [] X.env)).any (·.1) = false := by rfl) : QE X E (.Call (.Name "len" p) [e] [] pos) (dLenO C m de) := by
  obtain ⟨te, a1, a2⟩ := he.ex
  refine ⟨_, pe_callB (call_lenOwn G hr hx) hg hm PySem.boot_len (pa_cons a1 pa_nil h1) (by decide) (by decide) h1 hpl, ?_⟩
  intro ρ F H Γ μ σ kk s Q h
  unfold dLenO at h
  refine a2 ρ F H Γ μ σ kk s _ ((WpR.bind h).mono (fun d μ1 q => ?_) fun _ _ q => q)
  intro ρ1 F1 H1 v n1 k1 r1
  split at q
  · rename_i C' ds
    split at q
    · rename_i hC
      subst hC
      cases r1 with
      | @slt a dx _ vs _ g1 g2 g3 =>
        refine ⟨a, dx, vs.map some, rfl, .inr ⟨k1.ex _ _ g1, k1.ex _ _ g2⟩, ρ1, F1, μ1, [.slt C' ds], k1, .cons (.slt g1 g2 g3) .nil, (WpR.bind q).mono (fun r μ2 q2 => ?_) fun _ _ q => XP.nx n1 q⟩
        intro ρ2 F2 H2 v2 n2 k2 r2
        split at q2
        · split at q2
          · rename_i hi
            cases r2
            exact ⟨_, rfl, hi.1, hi.2, q2 ρ2 F2 H2 _ (n1.trans n2) k2 (.int _)⟩
          · exact q2.elim
        · exact q2.elim
    · exact q.elim
  · exact q.elim
theorem rg_all {K : PySem.W.Frag} {ρ : List Addr} {F : Hp} (n : Int) : DnAll K ρ F (rgV 0 n) (rngD 0 n.toNat) := by
  unfold rgV rngD
  rw [Int.sub_zero]
  generalize List.range n.toNat = l
  induction l with
  | nil => exact .nil
  | cons a l ih => exact .cons (.int _) ih
def dTupRg (e : DE) : DE := fun Γ μ => (e Γ μ).bind fun d μ1 => match d with
  | .int n => if n ≤ 1000000 ∧ 0 ≤ n then .ok (.tup (rngD 0 n.toNat)) μ1 else .stk
  | _ => .stk
def dLstRg (e : DE) : DE := fun Γ μ => (e Γ μ).bind fun d μ1 => match d with
  | .int n => if n ≤ 1000000 ∧ 0 ≤ n then .ok (.lst (rngD 0 n.toNat)) μ1 else .stk
  | _ => .stk
theorem q_tupRg {X : Cx} {E : XK} {e : Expr} {de : DE} {p pos p2 pos2 : Pos} (hc : X.calm = true) (ht : X.mg "tuple" = none) (hm : X.mg "range" = none) (he : QE X E e de) (hg : Gl X "tuple" := by rfl) (hg2 : Gl X "range" := by rfl)
    (h1 : starEach [e] X.env = (false, eval e X.env) :: starEach [] X.env := by rfl)
    (h2 : starEach [.Call (.Name "range" p2) [e] [] pos2] X.env = (false, eval (.Call (.Name "range" p2) [e] [] pos2) X.env) :: starEach [] X.env := by rfl) : QE X E (.Call (.Name "tuple" p) [.Call (.Name "range" p2) [e] [] pos2] [] pos) (dTupRg de) := by
  obtain ⟨te, a1, a2⟩ := he.ex
  refine ⟨_, pe_tupRg hc hg ht (prg_1 hg2 hm a1 h1) h2, ?_⟩
  intro ρ F H Γ μ σ kk s Q h
  unfold dTupRg at h
  refine a2 ρ F H Γ μ σ kk s _ ((WpR.bind h).mono (fun d μ1 q => ?_) fun _ _ q => q)
  intro ρ1 F1 H1 v n1 k1 r1
  split at q
  · rename_i n
    split at q
    · rename_i hn
      cases r1
      refine ⟨n, rfl, RgOk.of_le (by omega) (by omega) (by omega) (by omega), fun p hp => ?_⟩
      obtain ⟨n2, k2, r2⟩ := new_tup k1 (rg_all n) hp
      exact q _ _ _ _ (n1.trans n2) k2 r2
    · exact q.elim
  · exact q.elim
theorem q_lstRg {X : Cx} {E : XK} {e : Expr} {de : DE} {p pos p2 pos2 : Pos} (hc : X.calm = true) (ht : X.mg "list" = none) (hm : X.mg "range" = none) (he : QE X E e de) (hg : Gl X "list" := by rfl) (hg2 : Gl X "range" := by rfl)
    (h1 : starEach [e] X.env = (false, eval e X.env) :: starEach [] X.env := by rfl)
    (h2 : starEach [.Call (.Name "range" p2) [e] [] pos2] X.env = (false, eval (.Call (.Name "range" p2) [e] [] pos2) X.env) :: starEach [] X.env := by rfl) : QE X E (.Call (.Name "list" p) [.Call (.Name "range" p2) [e] [] pos2] [] pos) (dLstRg de) := by
  obtain ⟨te, a1, a2⟩ := he.ex
  refine ⟨_, pe_listRg hc hg ht (prg_1 hg2 hm a1 h1) h2, ?_⟩
  intro ρ F H Γ μ σ kk s Q h
  unfold dLstRg at h
  refine a2 ρ F H Γ μ σ kk s _ ((WpR.bind h).mono (fun d μ1 q => ?_) fun _ _ q => q)
  intro ρ1 F1 H1 v n1 k1 r1
  split at q
  · rename_i n
    split at q
    · rename_i hn
      cases r1
      refine ⟨n, rfl, RgOk.of_le (by omega) (by omega) (by omega) (by omega), fun p hp => ?_⟩
      obtain ⟨n2, k2, r2⟩ := new_lst k1 (rg_all n) hp
      exact q _ _ _ _ (n1.trans n2) k2 r2
    · exact q.elim
  · exact q.elim
section
variable {Γ : Gam} {μ : Mu} {Q : D → Mu → Prop}
theorem ok_lenO [ExW] {C : Str} {m : Fn} {e : DE} : Ok (dLenO C m e Γ μ) Q = Ok (e Γ μ) fun d μ1 => ∃ ds, d = .slt C ds ∧ Ok (m [.slt C ds] μ1) fun r μ2 => ∃ i : Int, r = .int i ∧ 0 ≤ i ∧ i < 2 ^ 62 ∧ Q (.int i) μ2 := by
  unfold dLenO
  rw [ok_bind]
  congr 1; funext d μ1
  refine propext ⟨fun h => ?_, fun h => ?_⟩
  · split at h
    · rename_i C' ds
      split at h
      · rename_i hC
        subst hC
        refine ⟨ds, rfl, ?_⟩
        rw [ok_bind] at h
        refine h.mono fun r μ2 h => ?_
        split at h
        · split at h
          · rename_i hi
            exact ⟨_, rfl, hi.1, hi.2, h⟩
          · exact h.elim
        · exact h.elim
      · exact h.elim
    · exact h.elim
  · obtain ⟨ds, rfl, h⟩ := h
    show Ok (if C = C then _ else _) Q
    rw [if_pos rfl, ok_bind]
    refine h.mono fun r μ2 h => ?_
    obtain ⟨i, rfl, h0, h1, h⟩ := h
    show Ok (if 0 ≤ i ∧ i < 2 ^ 62 then _ else _) Q
    rw [if_pos ⟨h0, h1⟩]
    exact h
theorem ok_tupRg [ExW] {e : DE} : Ok (dTupRg e Γ μ) Q = Ok (e Γ μ) fun d μ1 => ∃ n : Int, d = .int n ∧ n ≤ 1000000 ∧ 0 ≤ n ∧ Q (.tup (rngD 0 n.toNat)) μ1 := by
  unfold dTupRg
  rw [ok_bind]
  congr 1; funext d μ1
  refine propext ⟨fun h => ?_, fun h => ?_⟩
  · split at h
    · split at h
      · rename_i hn; exact ⟨_, rfl, hn.1, hn.2, h⟩
      · exact h.elim
    · exact h.elim
  · obtain ⟨n, rfl, h0, h1, h⟩ := h
    show Ok (if n ≤ 1000000 ∧ 0 ≤ n then _ else _) Q
    rw [if_pos ⟨h0, h1⟩]
    exact h
theorem ok_lstRg [ExW] {e : DE} : Ok (dLstRg e Γ μ) Q = Ok (e Γ μ) fun d μ1 => ∃ n : Int, d = .int n ∧ n ≤ 1000000 ∧ 0 ≤ n ∧ Q (.lst (rngD 0 n.toNat)) μ1 := by
  unfold dLstRg
  rw [ok_bind]
  congr 1; funext d μ1
  refine propext ⟨fun h => ?_, fun h => ?_⟩
  · split at h
    · split at h
      · rename_i hn; exact ⟨_, rfl, hn.1, hn.2, h⟩
      · exact h.elim
    · exact h.elim
  · obtain ⟨n, rfl, h0, h1, h⟩ := h
    show Ok (if n ≤ 1000000 ∧ 0 ≤ n then _ else _) Q
    rw [if_pos ⟨h0, h1⟩]
    exact h
end
/-- a method at the head -/
theorem methg {P : Program} {w : World} {K : PySem.W.Frag} {mg : Str → Option Value} {base : Heap} {C nm qual : Str} {params : Arguments} {body : List Stmt} {scope : Scope} {f : Addr} {fd : FuncData} {ps : List Str} {k : Nat} {m : Fn} (F : FunD K nm qual params body scope [] [] f fd)
    (h1 : PySem.W.findIn K (.ref (He.ga K C)) nm = some (some (.ref f))) (h2 : PySem.W.isFn K (.ref f) = true) (h3 : PySem.W.keepIn K (.ref f) = true)
    (hb : ∀ (kV doc pm : Value) (an : Option Addr) (cdv ct : Value) (us : List Value), us.length = ps.length → bindArgs (PySem.W.fnOf nm qual params body scope Value.none kV doc pm an cdv ct) { pos := us } = pure (ps.zip us))
    (ok : Pm P w K mg base (L2.CX P w) k f fd ps (spM K m)) : MethG P w K mg base C nm k m := ⟨f, fd, ps, h1, h2, h3, F.bindsN hb, ok⟩
end Ar

set_option Elab.async false
set_option linter.all false
set_option maxRecDepth 100000
set_option maxHeartbeats 4000000
/-! Ar32: a tuple times an int -/
namespace Ar
open PySem PySem.Spec PyProof.Rows L2
theorem tuple_mul1W (l : Addr) (items : Array Value) (n : Nat) (dd : Option Addr) (sl : Array (Option Value)) (u : Tok) (c1 : (items.isEmpty || (1 : Int) == 1) = true) :
    Meets (Builtin.«tuple.__mul__» ⟨[.ref l, .int 1 u], []⟩) (fun _ R s => s.heap.get? l = some { cls := .type "tuple", dict := dd, data := .seq items n, slots := sl } ∧
      R (.ok (.ret (Value.ref l))) s) :=
  .of_wp fun prog w A R s h => by
    obtain ⟨hp, g, d, tk, os⟩ := s
    obtain ⟨hl, h⟩ := h
    have f1 := AutoSeq1.idx_int
    wp_walk using wpAny_loadPart' hl
    repeat (first
      | (refine wpAny_ite_false (decide_eq_false (by decide)) ?_; wp_walk using wpAny_loadPart' hl)
      | (refine wpAny_ite_true (decide_eq_true c1) ?_; wp_walk using wpAny_loadPart' hl)
      | (refine wpAny_ite_true c1 ?_; wp_walk using wpAny_loadPart' hl))
    exact ⟨_, rfl, h⟩
def rRep1 (K : PySem.W.Frag) : R2 := fun x y H Q => ∃ l xs, x = .ref l ∧ y = .int 1 ∧ SqT K H l xs ∧ Q (.ref l) H
theorem op_rep1 {X : Cx} : OpR X (binaryOp .Mult) (rRep1 X.K) := by
  intro pins s σ H x y v u Q I rx ry h
  obtain ⟨l, xs, rfl, rfl, hT, q⟩ := h
  cases rx
  obtain ⟨t, rfl⟩ := ry
  obtain ⟨its, r, ⟨⟨cls, dd, data, sl⟩, ho, hc, n, hd⟩, hs⟩ := I.tuple hT
  simp only at hc hd
  subst hc hd
  have c1 : (its.toArray.isEmpty || (1 : Int) == 1) = true := by rw [show ((1 : Int) == 1) = true from rfl, Bool.or_true]
  refine wpAny_binaryOp_repeat_ref (T := "tuple") (U := "int") (by decide) ⟨_, ho, rfl⟩ (fun s' => typeIs_int s' 1 t) noFill_tuple_mul F.fills_int_mul F.slot_int_rmul repeat_tuple F.slot_int_index.lookup
    (call_meets F.slot_int_rmul (typeIs_int s 1 t) F.entry_int_rmul (F.args_int_rmul_2 _ _) (int_rmul_tuple 1 t l its.toArray n dd sl)
      ⟨ho, rfl, ⟨_, ho, rfl⟩, call_meets F.slot_tuple_mul ⟨_, ho, rfl⟩ F.entry_tuple_mul (F.args_tuple_mul_2 _ _) (tuple_mul1W l its.toArray n dd sl t c1) ⟨ho, ?_⟩⟩)
  exact ⟨.ref l, H, I, rfl, q⟩
def fRepT : Mu → D → D → Option D := fun _ x y => match x, y with
  | .tup ds, .int k => if k = 1 then some (.tup ds) else if ds ≠ [] ∧ (2 ≤ k ∧ k ≤ 1000) ∧ ds.length ≤ 1000 then some (.tup (List.replicate k.toNat ds).flatten) else none
  | _, _ => none
theorem od_repT {X : Cx} : OpD X (binaryOp .Mult) fRepT := by
  have h1 : OpD X (binaryOp .Mult) (fun _ x y => match x, y with
      | .tup ds, .int k => if k = 1 then some (.tup ds) else none
      | _, _ => none) := by
    refine ⟨_, op_rep1, fun ρ F H μ v w d e z kk rv rw' ez Q q => ?_⟩
    dsimp only at ez
    split at ez
    · split at ez
      · rename_i hk
        cases ez
        cases rw'
        cases rv with
        | tup g1 g2 => exact ⟨_, _, rfl, by rw [hk], kk.ex.sqT g1, q ρ F H _ Nx.refl kk (.tup g1 g2)⟩
      · cases ez
    · cases ez
  have h2 : OpD X (binaryOp .Mult) (fun _ x y => match x, y with
      | .tup ds, .int k => if ds ≠ [] ∧ (2 ≤ k ∧ k ≤ 1000) ∧ ds.length ≤ 1000 then some (.tup (List.replicate k.toNat ds).flatten) else none
      | _, _ => none) := by
    refine ⟨_, op_repT, fun ρ F H μ v w d e z kk rv rw' ez Q q => ?_⟩
    dsimp only at ez
    split at ez
    · split at ez
      · rename_i hk
        cases ez
        cases rw'
        cases rv with
        | tup g1 g2 =>
          refine ⟨_, _, _, rfl, rfl, kk.ex.sqT g1, ?_, hk.2.1.1, hk.2.1.2, by rw [g2.length]; exact hk.2.2, fun p hp => ?_⟩
          · intro z
            subst z
            cases g2
            exact hk.1 rfl
          · obtain ⟨n2, k2, r2⟩ := new_tup kk (g2.rep _) hp
            exact q _ _ _ _ n2 k2 r2
      · cases ez
    · cases ez
  have e : fRepT = orF (fun _ x y => match x, y with
      | .tup ds, .int k => if k = 1 then some (.tup ds) else none
      | _, _ => none) (fun _ x y => match x, y with
      | .tup ds, .int k => if ds ≠ [] ∧ (2 ≤ k ∧ k ≤ 1000) ∧ ds.length ≤ 1000 then some (.tup (List.replicate k.toNat ds).flatten) else none
      | _, _ => none) := by
    funext μ x y
    unfold fRepT orF
    cases x <;> cases y <;> try rfl
    rename_i ds k
    dsimp only
    split <;> rfl
  rw [e]
  exact h1.or h2
end Ar

set_option Elab.async false
set_option linter.all false
set_option maxRecDepth 100000
set_option maxHeartbeats 2000000
/-! Ar33: a def as a value, held by a local name and called -/
namespace Ar
open PySem PySem.Spec PyProof.Rows L2

def dCallV (i : Nat) (x1 : Str) (m1 : Fn) (x2 : Str) (m2 : Fn) (da : DA) : DE := fun Γ μ => match Γ[i]? with
  | some (some (.glo x)) => if x = x1 then dCall m1 da Γ μ else if x = x2 then dCall m2 da Γ μ else .stk
  | _ => .stk
section
variable {X : Cx} {E : XK}
def tCallV (i : Nat) (f1 f2 : Addr) (t1 t2 : TE) : TE := fun σ H D => (σ[i]? = some (some (.ref f1)) ∧ t1 σ H D) ∨ (σ[i]? = some (some (.ref f2)) ∧ t2 σ H D)
theorem pe_callV {i : Nat} {y : Str} {e : Expr} {es : List Expr} {p pos : Pos} {ta : TA} {f1 f2 : Addr} {fd1 fd2 : FuncData} {ps1 ps2 : List Str} {j1 j2 : Nat} {sp1 sp2 : Sp} (hN : X.N[i]? = some y) (hv : Vis X.env.scope y)
    (G1 : Pm X.prog X.w X.K X.mg X.base (L2.CX X.prog X.w) j1 f1 fd1 ps1 sp1) (r1 : RoomG j1 X.A) (k1 : PySem.W.keepIn X.K (.ref f1) = true) (b1 : Binds X.K fd1 ps1 [])
    (G2 : Pm X.prog X.w X.K X.mg X.base (L2.CX X.prog X.w) j2 f2 fd2 ps2 sp2) (r2 : RoomG j2 X.A) (k2 : PySem.W.keepIn X.K (.ref f2) = true) (b2 : Binds X.K fd2 ps2 [])
    (hx : Passes (L2.CX X.prog X.w) X E) (ar : PA X (e :: es) ta) (hd : (y == ("__debug__" : Str)) = false := by decide) (hcd : (y == ("__classdict__" : Str)) = false := by decide)
    (st : starEach (e :: es) X.env = (false, eval e X.env) :: starEach es X.env := by rfl) (pl : (backTo pos (starEach es X.env)).any (·.1) = false := by rfl) :
    PE X (.Call (.Name y p) (e :: es) [] pos) (tCallV i f1 f2 (tCall sp1 [] E ta) (tCall sp2 [] E ta)) := by
  refine ⟨fun pins s σ H D I h => wpAny_Call_Name_kw ?_⟩
  have go : ∀ {f : Addr} {fd : FuncData} {ps : List Str} {j : Nat} {sp : Sp}, Pm X.prog X.w X.K X.mg X.base (L2.CX X.prog X.w) j f fd ps sp → RoomG j X.A → PySem.W.keepIn X.K (.ref f) = true → Binds X.K fd ps [] → σ[i]? = some (some (.ref f)) → tCall sp [] E ta σ H D →
      wpAny (model X.prog X.w) X.A (eval (.Name y p) X.env) (fun f s₁ => wpAny (model X.prog X.w) X.A (callWith pos f [] (backTo pos (starEach (e :: es) X.env)) (backToKw pos (keywordEach [] X.env))) (EP X pins σ D) X.xe s₁) X.xe s := by
    intro f fd ps j sp G hr kp b es_ h
    refine thn ((pe_var (X := X) hN hv hd hcd).run pins s σ H (fun v H1 => v = .ref f ∧ tCall sp [] E ta σ H1 D) I ⟨_, es_, rfl, h⟩) fun u s1 ⟨x, H1, I1, rx, ex, h1⟩ => ?_
    subst ex
    obtain rfl : u = Value.ref f := rx
    refine PySem.W.callWith_K (h₀ := X.base) I1.ok.mod.kin kp (thn (ar.run pos pins s1 σ H1 _ I1 h1) fun us s2 ⟨xs, H2, I2, r, q⟩ => ⟨I2.kIn, ?_⟩) st pl
    have r2 := r.append .nil
    exact ran (ar := ⟨us, []⟩) G hr hx I2 (b s2 us I2.kIn (by rw [← r2.length]; exact G.ln _ _ _ _ q)) r2 q
  rcases h with ⟨e1, h⟩ | ⟨e1, h⟩
  · exact go G1 r1 k1 b1 e1 h
  · exact go G2 r2 k2 b2 e1 h
theorem sim_callV {i : Nat} {x1 x2 : Str} {m1 m2 : Fn} {ta : TA} {da : DA} (ha : SimA X.K E ta da) : SimE X.K E (tCallV i (He.ga X.K x1) (He.ga X.K x2) (tCall (spM X.K m1) [] E ta) (tCall (spM X.K m2) [] E ta)) (dCallV i x1 m1 x2 m2 da) := by
  intro ρ F H Γ μ σ k s Q h
  unfold dCallV at h
  split at h
  · rename_i x e
    obtain ⟨v, e1, r⟩ := s.at_ i _ e
    cases r
    split at h
    · rename_i hx
      subst hx
      exact .inl ⟨e1, sim_call ha ρ F H Γ μ σ k s Q h⟩
    · split at h
      · rename_i _ hx
        subst hx
        exact .inr ⟨e1, sim_call ha ρ F H Γ μ σ k s Q h⟩
      · exact False.elim h
  · exact False.elim h
theorem q_callV (i : Nat) {y x1 x2 : Str} {e : Expr} {es : List Expr} {p pos : Pos} {j1 j2 : Nat} {m1 m2 : Fn} {da : DA} (g1 : X.mg x1 = some (.ref (He.ga X.K x1))) (G1 : FnG X.prog X.w X.K X.mg X.base x1 j1 m1) (r1 : RoomG j1 X.A) (g2 : X.mg x2 = some (.ref (He.ga X.K x2))) (G2 : FnG X.prog X.w X.K X.mg X.base x2 j2 m2) (r2 : RoomG j2 X.A)
    (hp : Passes (L2.CX X.prog X.w) X E) (ha : QA X E (e :: es) da) (hN : X.N[i]? = some y := by rfl) (hv : Vis X.env.scope y := by first | exact Or.inl rfl | exact Or.inr (Or.inl rfl) | exact Or.inr (Or.inr rfl)) (hd : (y == ("__debug__" : Str)) = false := by decide) (hcd : (y == ("__classdict__" : Str)) = false := by decide)
    (st : starEach (e :: es) X.env = (false, eval e X.env) :: starEach es X.env := by rfl) (pl : (backTo pos (starEach es X.env)).any (·.1) = false := by rfl) : QE X E (.Call (.Name y p) (e :: es) [] pos) (dCallV i x1 m1 x2 m2 da) := by
  obtain ⟨f1, fd1, ps1, a1, a2, a3, a4⟩ := G1.ex
  obtain ⟨f2, fd2, ps2, b1, b2, b3, b4⟩ := G2.ex
  have e1 : f1 = He.ga X.K x1 := by rw [g1] at a1; cases a1; rfl
  have e2 : f2 = He.ga X.K x2 := by rw [g2] at b1; cases b1; rfl
  subst e1 e2
  obtain ⟨ta, t1, t2⟩ := ha.ex
  exact ⟨_, pe_callV hN hv a4 r1 a2 a3 b4 r2 b2 b3 hp t1 hd hcd st pl, sim_callV t2⟩
theorem q_gloV {x : Str} {pos : Pos} (h : X.mg x = some (.ref (He.ga X.K x))) (hg : Gl X x := by rfl) (hd : (x == ("__debug__" : Str)) = false := by decide) : QE X E (.Name x pos) (dC (.glo x)) := ⟨_, pe_glob (v := .ref (He.ga X.K x)) hg h rfl hd, sim_c fun _ _ => .glo x⟩
end
theorem ok_callV1 [ExW] {Γ : Gam} {μ : Mu} {Q : D → Mu → Prop} {i : Nat} {x1 x2 : Str} {m1 m2 : Fn} {da : DA} (h : Γ[i]? = some (some (.glo x1))) : Ok (dCallV i x1 m1 x2 m2 da Γ μ) Q = Ok (dCall m1 da Γ μ) Q := by
  unfold dCallV
  rw [h]
  simp
theorem ok_callV2 [ExW] {Γ : Gam} {μ : Mu} {Q : D → Mu → Prop} {i : Nat} {x1 x2 : Str} {m1 m2 : Fn} {da : DA} (h : Γ[i]? = some (some (.glo x2))) (hx : x2 ≠ x1) : Ok (dCallV i x1 m1 x2 m2 da Γ μ) Q = Ok (dCall m2 da Γ μ) Q := by
  unfold dCallV
  rw [h]
  simp [hx]
end Ar

set_option Elab.async false
set_option linter.all false
set_option maxRecDepth 100000
set_option maxHeartbeats 2000000
/-! Ar34: own properties, str(x) and repr(x) of a class with slots -/
namespace Ar
open PySem PySem.Spec PyProof.Rows L2
/-- the own property nm of the class C does what m says -/
structure PropG (P : Program) (w : World) (K : PySem.W.Frag) (mg : Str → Option Value) (base : Heap) (C nm : Str) (k : Nat) (m : Fn) : Prop where
  sc : SlX.SCls K (He.ga K C)
  ex : ∃ p g fd ps, PySem.W.findIn K (.ref (He.ga K C)) nm = some (some (.ref p)) ∧ PySem.W.specialIn K (.ref p) "__get__" = some (some (.builtin "property.__get__")) ∧ PySem.W.takesIn K (.ref p) = some true ∧
    (∃ rest, PySem.W.recIn K p "property" = some (.ref g :: rest)) ∧ Binds K fd ps [] ∧ Pm P w K mg base (L2.CX P w) k g fd ps (spM K m)
section
variable {X : Cx} {pins : List (Addr × Obj)} {σ : L2.St} {H : Hp} {s : Shared} {C nm : Str} {m : Fn} {k : Nat} {E : XK} {a dx : Addr} {vs : List (Option V)}
theorem getpropG {b : Bool} {Q : VK} (G : PropG X.prog X.w X.K X.mg X.base C nm k m) (hr : RoomG (k + 1) X.A) (I : Inv X pins σ H s) (h : SlX.Slt H a (He.ga X.K C) dx vs) (q : spM X.K m [.ref a] H Q fun _ _ _ => False) :
    wpAny (model X.prog X.w) X.A (getAttr (.ref a) nm b) (EP X pins σ Q) X.xe s := by
  obtain ⟨sl, od, _, J, _⟩ := SlX.slt_inst I h
  obtain ⟨p, g, fd, ps, h1, h2, h3, ⟨rest, h4⟩, h5, h6⟩ := G.ex
  have I1 : Inv X pins σ H { s with toks := s.toks + 1 } := I.tok (s.toks + 1)
  have c := G.sc
  refine PySem.W.get_bind I.kIn J (PySem.W.plainGet_of (c.get nm)).1 (PySem.W.findObj_data c.ic h1 h2 h3) (PySem.W.plainGet_of (c.get nm)).2 (wpAny_call (PySem.W.prop_get (s := { s with toks := s.toks + 1 }) I.kIn h4 ?_))
  refine codeAny_mono (h6.go X.A.in1 X.stack _ H ⟨[.ref a], []⟩ [.ref a] [.ref a] Q (fun _ _ _ => False) hr.in1 I1.env0.in1 ?_ (.cons rfl .nil) q) fun r s' hq => ?_
  · exact h5 _ [.ref a] I.kIn (by have := h6.ln _ _ _ _ q; simpa using this)
  · match r, hq with
    | .error e, hq =>
      obtain ⟨_, _, _, _, _, _, _, _, _, _, _, _, z⟩ := hq
      exact z.elim
    | .ok (.ret u), hq =>
      obtain ⟨v, H', I2, rv, q⟩ := I1.after hq
      exact wpAny_of_eq (PySem.W.handedOut_of (handed_of rv)) ⟨v, H', I2, rv, q⟩
end
/-- e.nm, a property of the class C -/
def dPropO (C : Str) (m : Fn) (e : DE) : DE := fun Γ μ => (e Γ μ).bind fun d μ1 => match d with
  | .slt C' ds => if C' = C then (m [.slt C' ds] μ1).nox else .stk
  | _ => .stk
theorem q_propO {X : Cx} {E : XK} {C nm : Str} {m : Fn} {k : Nat} {e : Expr} {de : DE} {pos : Pos} (G : PropG X.prog X.w X.K X.mg X.base C nm k m) (hr : RoomG (k + 1) X.A) (he : QE X E e de)
    (hb : attributeBase e nm X.env (eval e X.env) = eval e X.env := by rfl) : QE X E (.Attribute e nm pos) (dPropO C m de) := by
  obtain ⟨te, a1, a2⟩ := he.ex
  refine ⟨fun σ H Q => te σ H fun x H1 => ∃ a dx vs, x = .ref a ∧ SlX.Slt H1 a (He.ga X.K C) dx vs ∧ spM X.K m [.ref a] H1 Q (fun _ _ _ => False), ⟨fun pins s σ H Q I h => ?_⟩, ?_⟩
  · refine attr_of hb (thn (a1.run pins s σ H _ I h) fun w s1 ⟨x, H1, I1, rx, a, dx, vs, ex, hs, q⟩ => ?_)
    subst ex
    obtain rfl : w = Value.ref a := rx
    exact getpropG G hr I1 hs q
  · intro ρ F H Γ μ σ kk s Q h
    unfold dPropO at h
    refine a2 ρ F H Γ μ σ kk s _ ((WpR.bind h).mono (fun d μ1 q => ?_) fun _ _ q => q)
    intro ρ1 F1 H1 v n1 k1 r1
    split at q
    · rename_i C' ds
      split at q
      · rename_i hC
        subst hC
        cases r1 with
        | @slt a dx _ vs _ g1 g2 g3 =>
          exact ⟨a, dx, vs.map some, rfl, .inr ⟨k1.ex _ _ g1, k1.ex _ _ g2⟩, ρ1, F1, μ1, [.slt C' ds], k1, .cons (.slt g1 g2 g3) .nil, (WpR.nox q).mono (fun d μ2 q => QV.nx n1 q) fun _ _ q => q⟩
      · exact q.elim
    · exact q.elim
/-! ### str(x) -/
theorem RoomG.un1 {k : Nat} {A : Around} (h : RoomG k A) : A.units < cLine := by have := h.r.un; omega
def rStrOwn (K : PySem.W.Frag) (C : Str) (m : Fn) (E : XK) : List V → Hp → VK → Prop := fun xs H Q => ∃ a dx vs, xs = [V.ref a] ∧ SlX.Slt H a (He.ga K C) dx vs ∧ spM K m [.ref a] H (fun z H' => ∃ i : Str, z = .str i ∧ Q (.str i) H') E
theorem call_strOwn {X : Cx} {C : Str} {m : Fn} {k : Nat} {E : XK} (G : MethG X.prog X.w X.K X.mg X.base C "__str__" k m) (hr : RoomG (k + 2) X.A) (hx : Passes (L2.CX X.prog X.w) X E) : CallR X (.type "str") (rStrOwn X.K C m E) := by
  intro pins s σ H xs us Q I r h
  obtain ⟨a, dx, vs, rfl, hsl, q⟩ := h
  obtain ⟨u, rfl, ru⟩ := r.one
  cases (show u = Value.ref a from ru)
  obtain ⟨sl, od, _, J, _⟩ := SlX.slt_inst I hsl
  obtain ⟨f, fd, ps, h1, h2, h3, h4, h5⟩ := G.ex
  refine PySem.W.kso_call hr.in1.in1.un1 I.kIn J h1 h2 (wpAny_mono (wpAny_call (ranAt (us := [.ref a]) (xs := [.ref a]) h5 hr.in1.in1 I.env0.in1.in1 hx I ?_ (.cons rfl .nil) q)) (fun w s' z => ?_) fun _ _ x => x)
  · exact h4 s [.ref a] I.kIn (by have := h5.ln _ _ _ _ q; simpa using this)
  · obtain ⟨z', H', I', rz, i, ei, qz⟩ := z
    subst ei
    obtain ⟨t, e⟩ := (show ∃ t, w = Value.str i t from rz)
    cases e
    exact ⟨.str i, H', I', ⟨t, rfl⟩, qz⟩

/-- a text that an own method tells -/
def txtR (r : R D) : R D := r.bind fun z μ => match z with
  | .str i => .ok (.str i) μ
  | _ => .stk
/-- str(x), repr(x) by an own method of the class C -/
def dTxtO (C : Str) (m : Fn) (e : DE) : DE := fun Γ μ => (e Γ μ).bind fun d μ1 => match d with
  | .slt C' ds => if C' = C then txtR (m [.slt C' ds] μ1) else .stk
  | _ => .stk
theorem sim_txtO {X : Cx} {E : XK} {C : Str} {m : Fn} {te : TE} {de : DE} {t : TE} (h : SimE X.K E te de) (ht : ∀ σ H Q, te σ H (fun x H1 => rStrOwn X.K C m E [x] H1 Q) → t σ H Q) : SimE X.K E t (dTxtO C m de) := by
  intro ρ F H Γ μ σ kk s Q hq
  unfold dTxtO at hq
  refine ht σ H Q (h ρ F H Γ μ σ kk s _ ((WpR.bind hq).mono (fun d μ1 q => ?_) fun _ _ q => q))
  intro ρ1 F1 H1 v n1 k1 r1
  split at q
  · rename_i C' ds
    split at q
    · rename_i hC
      subst hC
      cases r1 with
      | @slt a dx _ vs _ g1 g2 g3 =>
        refine ⟨a, dx, vs.map some, rfl, .inr ⟨k1.ex _ _ g1, k1.ex _ _ g2⟩, ρ1, F1, μ1, [.slt C' ds], k1, .cons (.slt g1 g2 g3) .nil, ?_⟩
        unfold txtR at q
        refine (WpR.bind q).mono (fun r μ2 q2 => ?_) fun _ _ q => XP.nx n1 q
        intro ρ2 F2 H2 v2 n2 k2 r2
        split at q2
        · cases r2
          exact ⟨_, rfl, q2 ρ2 F2 H2 _ (n1.trans n2) k2 (.str _)⟩
        · exact q2.elim
    · exact q.elim
  · exact q.elim
section
variable {X : Cx} {E : XK} {C : Str} {m : Fn} {k : Nat} {e : Expr} {de : DE} {p pos : Pos}
theorem q_strO (G : MethG X.prog X.w X.K X.mg X.base C "__str__" k m) (hr : RoomG (k + 2) X.A) (hx : Passes (L2.CX X.prog X.w) X E) (hm : X.mg "str" = none) (he : QE X E e de) (hg : Gl X "str" := by rfl)
    (h1 : starEach [e] X.env = (false, eval e X.env) :: starEach [] X.env := by rfl) (hpl : (backTo pos (starEach [] X.env)).any (·.1) = false := by rfl) : QE X E (.Call (.Name "str" p) [e] [] pos) (dTxtO C m de) := by
  obtain ⟨te, a1, a2⟩ := he.ex
  exact ⟨_, pe_callTy (call_strOwn G hr hx) hg hm PyProof.Rows.Boot.«str» (pa_cons a1 pa_nil h1) (by decide) (by decide) h1 hpl, sim_txtO a2 fun σ H Q z => z⟩
end
/-! ### repr(x) -/
section
variable {prog : Program} {w : World} {A : Around} {E : Value → Shared → Prop} {s : Shared} {K : PySem.W.Frag} {x C f : Addr} {ox : Obj} {odd : Option Obj}
theorem repr_ownR {Q : Value → Shared → Prop} (hu : A.in1.units < cLine) (X : K.In s.heap) (I : PySem.W.InstAt s.heap x ox C odd) (hs : PySem.W.findIn K (.ref C) "__repr__" = some (some (.ref f))) (hf : PySem.W.isFn K (.ref f) = true)
    (h : wpAny (model prog w) A.in1 (call (.ref f) [.ref x]) (fun r s₁ => ∃ y u, r = Value.str y u ∧ Q r s₁) E s) : wpAny (model prog w) A (call (.builtin "repr") [.ref x]) Q E s := by
  refine Calls.call_function_entry PySem.F.kind_repr PySem.F.plain_repr PySem.F.entry_repr (PySem.F.args_repr1 _) ?_
  unfold Builtin.«repr»
  refine wpAny_bind (m := oneArg "repr" _) (wpAny_pure ?_)
  refine wpAny_bind (m := cRoomFor _ _) (wpAny_cRoomFor hu ?_)
  refine wpAny_bind (m := specialOf (.ref x) (PySem.Str.ofString "__repr__")) ?_
  unfold specialOf
  refine wpAny_bind (I.type.here ((PySem.W.looks_findIn X hs).here ?_))
  refine wpAny_bind (m := callSpecialIfBound? (.ref x) (PySem.Str.ofString "__repr__")) (PySem.W.ifBound_K X I hs hf (wpAny_mono h (fun r s' hr => ?_) fun _ _ y => y))
  obtain ⟨y, u, rfl, hq⟩ := hr
  refine wpAny_bind (wpAny_isInstance (T := "str") (b := true) (typeIs_str _ _ _) isSubtype_str_str ?_)
  first
    | exact wpAny_pure ⟨_, rfl, hq⟩
    | (rw [if_pos rfl]; exact wpAny_pure ⟨_, rfl, hq⟩)
end
theorem call_reprOwn {X : Cx} {C : Str} {m : Fn} {k : Nat} {E : XK} (G : MethG X.prog X.w X.K X.mg X.base C "__repr__" k m) (hr : RoomG (k + 1) X.A) (hx : Passes (L2.CX X.prog X.w) X E) : CallR X (.builtin "repr") (rStrOwn X.K C m E) := by
  intro pins s σ H xs us Q I r h
  obtain ⟨a, dx, vs, rfl, hsl, q⟩ := h
  obtain ⟨u, rfl, ru⟩ := r.one
  cases (show u = Value.ref a from ru)
  obtain ⟨sl, od, _, J, _⟩ := SlX.slt_inst I hsl
  obtain ⟨f, fd, ps, h1, h2, h3, h4, h5⟩ := G.ex
  refine repr_ownR hr.in1.un1 I.kIn J h1 h2 (wpAny_mono (wpAny_call (ranAt (us := [.ref a]) (xs := [.ref a]) h5 hr.in1 I.env0.in1 hx I ?_ (.cons rfl .nil) q)) (fun w s' z => ?_) fun _ _ x => x)
  · exact h4 s [.ref a] I.kIn (by have := h5.ln _ _ _ _ q; simpa using this)
  · obtain ⟨z', H', I', rz, i, ei, qz⟩ := z
    subst ei
    obtain ⟨t, e⟩ := (show ∃ t, w = Value.str i t from rz)
    cases e
    exact ⟨i, t, rfl, .str i, H', I', ⟨t, rfl⟩, qz⟩
theorem bootRepr : bootBuiltins "repr" = some (.builtin "repr") := by decide +kernel
theorem q_reprO {X : Cx} {E : XK} {C : Str} {m : Fn} {k : Nat} {e : Expr} {de : DE} {p pos : Pos} (G : MethG X.prog X.w X.K X.mg X.base C "__repr__" k m) (hr : RoomG (k + 1) X.A) (hx : Passes (L2.CX X.prog X.w) X E) (hm : X.mg "repr" = none) (he : QE X E e de) (hg : Gl X "repr" := by rfl)
    (h1 : starEach [e] X.env = (false, eval e X.env) :: starEach [] X.env := by rfl) (hpl : (backTo pos (starEach [] X.env)).any (·.1) = false := by rfl) : QE X E (.Call (.Name "repr" p) [e] [] pos) (dTxtO C m de) := by
  obtain ⟨te, a1, a2⟩ := he.ex
  exact ⟨_, pe_callB (call_reprOwn G hr hx) hg hm bootRepr (pa_cons a1 pa_nil h1) (by decide) (by decide) h1 hpl, sim_txtO a2 fun σ H Q z => z⟩
/-! ### what they do -/
theorem ok_propO [ExW] {C : Str} {m : Fn} {e : DE} {Γ : Gam} {μ : Mu} {Q : D → Mu → Prop} : Ok (dPropO C m e Γ μ) Q = Ok (e Γ μ) fun d μ1 => ∃ ds, d = .slt C ds ∧ @Ok xp0 D (m [.slt C ds] μ1) Q := by
  unfold dPropO
  rw [ok_bind]
  congr 1; funext d μ1
  refine propext ⟨fun h => ?_, fun ⟨ds, e, h⟩ => ?_⟩
  · split at h
    · split at h
      · rename_i hC
        subst hC
        exact ⟨_, rfl, by rw [ok_nox] at h; exact h⟩
      · exact h.elim
    · exact h.elim
  · subst e
    simp only [if_true]
    rw [ok_nox]
    exact h
theorem ok_txtR [ExW] {r : R D} {Q : D → Mu → Prop} : Ok (txtR r) Q = Ok r fun z μ => ∃ i, z = .str i ∧ Q (.str i) μ := by
  unfold txtR
  rw [ok_bind]
  congr 1; funext z μ
  cases z <;> simp [Ok]
theorem ok_txtO [ExW] {C : Str} {m : Fn} {e : DE} {Γ : Gam} {μ : Mu} {Q : D → Mu → Prop} : Ok (dTxtO C m e Γ μ) Q = Ok (e Γ μ) fun d μ1 => ∃ ds, d = .slt C ds ∧ Ok (m [.slt C ds] μ1) fun z μ => ∃ i, z = .str i ∧ Q (.str i) μ := by
  unfold dTxtO
  rw [ok_bind]
  congr 1; funext d μ1
  refine propext ⟨fun h => ?_, fun ⟨ds, e, h⟩ => ?_⟩
  · split at h
    · split at h
      · rename_i hC
        subst hC
        rw [ok_txtR] at h
        exact ⟨_, rfl, h⟩
      · exact h.elim
    · exact h.elim
  · subst e
    simp only [if_true]
    rw [ok_txtR]
    exact h
end Ar

set_option Elab.async false
set_option linter.all false
set_option maxRecDepth 100000
set_option maxHeartbeats 2000000
/-! Ar35: the head with defs that stand in properties and class methods; class methods called -/
namespace Ar
open PySem PySem.Spec PyProof.Rows L2
/-- where the def of the property (class method) p.2.1 of the class p.1 stands -/
def wAd (K : PySem.W.Frag) (p : Str × Str × String) : Addr := match PySem.W.recIn K (He.ma K (He.ga K p.1) p.2.1) p.2.2 with
  | some (.ref g :: _) => g
  | _ => 0
def atW (K : PySem.W.Frag) (a : Addr) : He.FnW := match K.lookup a with
  | some ⟨_, _, .func d, _⟩ => some (d.name, d.qualname, d.params, d.body, d.scope, d.globals, d.closure, d.builtins)
  | _ => none
structure WrD where
  w : Str × Str × String
  nm : Str
  ql : Str
  pa : Arguments
  bo : List Stmt
  sc : Scope
def WrD.val (d : WrD) : He.FnW := some (d.nm, d.ql, d.pa, .stmts d.bo, d.sc, mainGlobals, [], builtinsNs)
def wrHd (K : PySem.W.Frag) (p : Str × Str × String) : Bool := match PySem.W.recIn K (He.ma K (He.ga K p.1) p.2.1) p.2.2 with
  | some (.ref _ :: _) => true
  | _ => false
def wrFn (K : PySem.W.Frag) (a : Addr) (ql : Str) : Bool := match K.lookup a with
  | some ⟨_, _, .func d, _⟩ => PySem.W.codeIn K d.code ql && (He.dflB K d.defaults [] && He.kwdB K d.kwdefaults [])
  | _ => false
def wrAt (K : PySem.W.Frag) (p : Str × Str × String) : Bool := He.eqO (PySem.W.findIn K (.ref (He.ga K p.1)) p.2.1) (some (some (.ref (He.ma K (He.ga K p.1) p.2.1))))
def cmAt (K : PySem.W.Frag) (p : Str × Str × String) : Bool := match PySem.W.findCls K (.ref (He.ga K p.1)) (.type "type") p.2.1 with
  | some (.get (.builtin b) (.ref a) .none (.ref c)) => decide (b = "classmethod.__get__") && (decide (a = He.ma K (He.ga K p.1) p.2.1) && decide (c = He.ga K p.1))
  | _ => false
theorem cmAt_ok {K : PySem.W.Frag} {p : Str × Str × String} (h : cmAt K p = true) : PySem.W.findCls K (.ref (He.ga K p.1)) (.type "type") p.2.1 = some (.get (.builtin "classmethod.__get__") (.ref (He.ma K (He.ga K p.1) p.2.1)) .none (.ref (He.ga K p.1))) := by
  unfold cmAt at h
  split at h
  · rename_i b a c e
    obtain ⟨h1, h⟩ := He.ba h
    obtain ⟨h2, h3⟩ := He.ba h
    rw [e, of_decide_eq_true h1, of_decide_eq_true h2, of_decide_eq_true h3]
  · cases h
/-- how it is read: a property through an instance, a class method through its class -/
def wrRd (K : PySem.W.Frag) (p : Str × Str × String) : Bool := if p.2.2 = "property" then
    He.eqO (PySem.W.specialIn K (.ref (He.ma K (He.ga K p.1) p.2.1)) "__get__") (some (some (.builtin "property.__get__"))) && decide (PySem.W.takesIn K (.ref (He.ma K (He.ga K p.1) p.2.1)) = some true)
  else PySem.W.readsIn K (He.ga K p.1) (.type "type") && (He.eqO (PySem.W.specialIn K (.ref (He.ga K p.1)) "__getattribute__") (some (some (.builtin "type.__getattribute__"))) &&
    (cmAt K p && PySem.W.fnIn K (wAd K p)))
def WrD.ok (K : PySem.W.Frag) (d : WrD) : Bool := wrAt K d.w && (wrHd K d.w && (wrRd K d.w && (PySem.W.keepIn K (.ref (wAd K d.w)) && wrFn K (wAd K d.w) d.ql)))
theorem wrHd_ok {K : PySem.W.Frag} {p : Str × Str × String} (h : wrHd K p = true) : ∃ rest, PySem.W.recIn K (He.ma K (He.ga K p.1) p.2.1) p.2.2 = some (.ref (wAd K p) :: rest) := by
  unfold wrHd at h
  unfold wAd
  split at h
  · rename_i g rest e
    exact ⟨rest, by rw [e]⟩
  · cases h
theorem WrD.funD {K : PySem.W.Frag} {d : WrD} (e : atW K (wAd K d.w) = d.val) (c : d.ok K = true) : ∃ fd, FunD K d.nm d.ql d.pa d.bo d.sc [] [] (wAd K d.w) fd := by
  obtain ⟨_, c⟩ := He.ba c
  obtain ⟨_, c⟩ := He.ba c
  obtain ⟨_, c⟩ := He.ba c
  obtain ⟨kp, c2⟩ := He.ba c
  unfold atW at e
  unfold wrFn at c2
  split at c2
  · rename_i oc od fd osl q
    rw [q] at e
    obtain ⟨m1, m2, m3, m4, m5, m6, m7, m8, m9, m10, m11, m12, m13, m14, m15⟩ := fd
    have e2 : (some (m1, m2, m3, m4, m5, m6, m7, m15) : He.FnW) = d.val := e
    simp only [WrD.val, Option.some.injEq, Prod.mk.injEq] at e2
    obtain ⟨rfl, rfl, rfl, rfl, rfl, rfl, rfl, rfl⟩ := e2
    obtain ⟨k1, k2⟩ := He.ba c2
    obtain ⟨k3, k4⟩ := He.ba k2
    exact ⟨_, ⟨oc, od, m8, m9, m10, m11, m12, m13, m14, osl, rfl, q, k1, He.dflB_ok k3, He.kwdB_ok k4⟩, kp⟩
  · cases c2
/-! ### the head -/
abbrev AlZ : Type := He.AlT × (Bool × List He.FnW)
def obsZ (fa : List He.Fa) (fn : List He.DefD) (ts : List He.Tab) (wr : List WrD) (ex : PySem.W.Frag → Bool) (K : PySem.W.Frag) : AlZ := (obsY fa fn ts ex K, (wr.all fun d => d.ok K, wr.map fun d => atW K (wAd K d.w)))
def valZ (fn : List He.DefD) (ts : List He.Tab) (wr : List WrD) (w : World) : AlZ := (He.valT fn ts w, (true, wr.map WrD.val))
def SaysZ (fa : List He.Fa) (fn : List He.DefD) (ts : List He.Tab) (wr : List WrD) (ex : PySem.W.Frag → Bool) (w : World) (K : PySem.W.Frag) : Prop := obsZ fa fn ts wr ex K = valZ fn ts wr w
def obsZG (n : Nat) (fa : List He.Fa) (fn : List He.DefD) (ts : List He.Tab) (wr : List WrD) (ex : PySem.W.Frag → Bool) (g : Addr → Option Obj) : AlZ := obsZ fa fn ts wr ex (He.frG g (He.asD g n))
def hookZ (n : Nat) (fa : List He.Fa) (fn : List He.DefD) (ts : List He.Tab) (wr : List WrD) (ex : PySem.W.Frag → Bool) : PySem.W.Hook where
  α := AlZ
  obs := fun s => obsZG n fa fn ts wr ex s.heap.get?
  val := fun w => valZ fn ts wr w
  says := fun w h => ∃ K : PySem.W.Frag, K.In h ∧ SaysZ fa fn ts wr ex w K
  of := fun _ _ e => ⟨_, He.frG_in, e⟩
  keeps := fun _ _ _ ⟨K, hK, c⟩ k => ⟨K, PySem.W.Frag.In.keeps hK k, c⟩
section
variable {fa : List He.Fa} {fn : List He.DefD} {ts : List He.Tab} {wr : List WrD} {ex : PySem.W.Frag → Bool} {w : World} {K : PySem.W.Frag}
theorem obsZG_eq {n : Nat} {g : Addr → Option Obj} {s : Shared} (h : ∀ a, g a = s.heap.get? a) : obsZG n fa fn ts wr ex g = (hookZ n fa fn ts wr ex).obs s := by
  have e : g = s.heap.get? := funext h
  rw [e] <;> rfl
theorem SaysZ.y (c : SaysZ fa fn ts wr ex w K) : SaysY fa fn ts ex w K := congrArg (fun z : AlZ => z.1) c
theorem SaysZ.wr_ (c : SaysZ fa fn ts wr ex w K) (i : Nat) {d : WrD} (h : wr[i]? = some d := by rfl) : d.ok K = true ∧ ∃ fd, FunD K d.nm d.ql d.pa d.bo d.sc [] [] (wAd K d.w) fd := by
  have c1 : (wr.all fun d => d.ok K) = true := congrArg (fun z : AlZ => z.2.1) c
  have c2 : (wr.map fun d => atW K (wAd K d.w)) = wr.map WrD.val := congrArg (fun z : AlZ => z.2.2) c
  have k := List.all_eq_true.mp c1 d (List.mem_of_getElem? h)
  have e2 : (wr.map fun d => atW K (wAd K d.w))[i]? = (wr.map WrD.val)[i]? := by rw [c2]
  rw [List.getElem?_map, List.getElem?_map, h] at e2
  exact ⟨k, WrD.funD (Option.some.inj e2) k⟩
end
/-- .. over the objects at given places alone -/
def obsLG (as : List Addr) (fa : List He.Fa) (fn : List He.DefD) (ts : List He.Tab) (wr : List WrD) (ex : PySem.W.Frag → Bool) (g : Addr → Option Obj) : AlZ := obsZ fa fn ts wr ex (He.frG g as)
def hookL (as : List Addr) (fa : List He.Fa) (fn : List He.DefD) (ts : List He.Tab) (wr : List WrD) (ex : PySem.W.Frag → Bool) : PySem.W.Hook where
  α := AlZ
  obs := fun s => obsLG as fa fn ts wr ex s.heap.get?
  val := fun w => valZ fn ts wr w
  says := fun w h => ∃ K : PySem.W.Frag, K.In h ∧ SaysZ fa fn ts wr ex w K
  of := fun _ _ e => ⟨_, He.frG_in, e⟩
  keeps := fun _ _ _ ⟨K, hK, c⟩ k => ⟨K, PySem.W.Frag.In.keeps hK k, c⟩
theorem obsLG_eq {as : List Addr} {fa : List He.Fa} {fn : List He.DefD} {ts : List He.Tab} {wr : List WrD} {ex : PySem.W.Frag → Bool} {g : Addr → Option Obj} {s : Shared} (h : ∀ a, g a = s.heap.get? a) : obsLG as fa fn ts wr ex g = (hookL as fa fn ts wr ex).obs s := by
  have e : g = s.heap.get? := funext h
  rw [e] <;> rfl
theorem propg {P : Program} {w : World} {K : PySem.W.Frag} {mg : Str → Option Value} {base : Heap} {d : WrD} {C nm : Str} {fd : FuncData} {ps : List Str} {k : Nat} {m : Fn} (hw : d.w = (C, nm, "property")) (c : d.ok K = true) (sc : SlX.SCls K (He.ga K C)) (F : FunD K d.nm d.ql d.pa d.bo d.sc [] [] (wAd K d.w) fd)
    (hb : ∀ (kV doc pm : Value) (an : Option Addr) (cdv ct : Value) (us : List Value), us.length = ps.length → bindArgs (PySem.W.fnOf d.nm d.ql d.pa d.bo d.sc Value.none kV doc pm an cdv ct) { pos := us } = pure (ps.zip us))
    (ok : Pm P w K mg base (L2.CX P w) k (wAd K d.w) fd ps (spM K m)) : PropG P w K mg base C nm k m := by
  obtain ⟨c1, c⟩ := He.ba c
  obtain ⟨c2, c⟩ := He.ba c
  obtain ⟨c3, c⟩ := He.ba c
  have h2 := wrHd_ok c2
  unfold wrAt at c1
  unfold wrRd at c3
  rw [hw] at c1 c3 h2 F ok
  rw [if_pos rfl] at c3
  obtain ⟨g1, g2⟩ := He.ba c3
  exact ⟨sc, _, _, fd, ps, He.eqO_ok c1, He.eqO_ok g1, of_decide_eq_true g2, h2, F.bindsN hb, ok⟩
/-! ### class methods -/
structure ClsG (P : Program) (w : World) (K : PySem.W.Frag) (mg : Str → Option Value) (base : Heap) (C nm : Str) (k : Nat) (m : Fn) : Prop where
  rd : ClX.CRead K (He.ga K C) (.type "type")
  ex : ∃ p g fd ps, ClX.CMet K (He.ga K C) (.type "type") nm p g ∧ Binds K fd ps [] ∧ Pm P w K mg base (L2.CX P w) k g fd ps (spM K m)
theorem clsg {P : Program} {w : World} {K : PySem.W.Frag} {mg : Str → Option Value} {base : Heap} {d : WrD} {C nm : Str} {fd : FuncData} {ps : List Str} {k : Nat} {m : Fn} (hw : d.w = (C, nm, "classmethod")) (c : d.ok K = true) (F : FunD K d.nm d.ql d.pa d.bo d.sc [] [] (wAd K d.w) fd)
    (hb : ∀ (kV doc pm : Value) (an : Option Addr) (cdv ct : Value) (us : List Value), us.length = ps.length → bindArgs (PySem.W.fnOf d.nm d.ql d.pa d.bo d.sc Value.none kV doc pm an cdv ct) { pos := us } = pure (ps.zip us))
    (ok : Pm P w K mg base (L2.CX P w) k (wAd K d.w) fd ps (spM K m)) : ClsG P w K mg base C nm k m := by
  obtain ⟨c1, c⟩ := He.ba c
  obtain ⟨c2, c⟩ := He.ba c
  obtain ⟨c3, c⟩ := He.ba c
  have h2 := wrHd_ok c2
  unfold wrRd at c3
  rw [hw] at c3 h2 F ok
  rw [if_neg (show ¬ ("classmethod" = "property") by decide)] at c3
  obtain ⟨g1, c3⟩ := He.ba c3
  obtain ⟨g2, c3⟩ := He.ba c3
  obtain ⟨g3, g4⟩ := He.ba c3
  exact ⟨⟨g1, He.eqO_ok g2⟩, _, _, fd, ps, ⟨cmAt_ok g3, h2, g4⟩, F.bindsN hb, ok⟩
/-- C.nm(..) -/
def dClsM (C : Str) (m : Fn) (a : DA) : DE := fun Γ μ => (a Γ μ).bind fun ds μ1 => m (.glo C :: ds) μ1
theorem q_clsM {X : Cx} {E : XK} {C nm : Str} {m : Fn} {k : Nat} {e : Expr} {es : List Expr} {da : DA} {p apos pos : Pos} {pl : Sem Bool} (G : ClsG X.prog X.w X.K X.mg X.base C nm k m) (hr : RoomG k X.A) (hx : Passes (L2.CX X.prog X.w) X E) (gl : X.mg C = some (.ref (He.ga X.K C))) (ha : QA X E (e :: es) da) (hg : Gl X C := by rfl)
    (hd : (C == ("__debug__" : Str)) = false := by decide) (hst : starEach (e :: es) X.env = (false, eval e X.env) :: starEach es X.env := by rfl) (hpl : (backTo pos (starEach es X.env)).any (·.1) = false := by rfl)
    (ht : eval (.Call (.Attribute (.Name C p) nm apos) (e :: es) [] pos) X.env = (do
      let ov ← eval (.Name C p) X.env
      standAt apos.atName
      let (f, first) ← holding [ov] (getMethod ov nm pl)
      callWith pos f first (backTo pos (starEach (e :: es) X.env)) (backToKw pos (keywordEach [] X.env))) := by rfl) : QE X E (.Call (.Attribute (.Name C p) nm apos) (e :: es) [] pos) (dClsM C m da) := by
  obtain ⟨ta, a1, a2⟩ := ha.ex
  obtain ⟨pp, g, fd, ps, c, hb, h6⟩ := G.ex
  refine ⟨fun σ H Q => ta σ H fun vs H2 => spM X.K m (.ref (He.ga X.K C) :: vs) H2 Q E, ⟨fun pins s σ H Q I h => ?_⟩, ?_⟩
  · refine PySem.W.methodCall_KW (pl := pl) (ld_glob I hg gl ?_ hd) ht
    refine ClX.getmethcm_ok I G.rd c fun s2 I2 => ?_
    refine ClX.callwith_cm I2 (ClX.base_none I (Nat.le_refl _)) c.fi (thn (a1.run pos _ s2 σ H _ I2 h) fun us s3 ⟨vs, H2, I3, rv, q2⟩ => ⟨⟨ClX.pin_at I3, I3.kIn⟩, ?_⟩) hst hpl
    have z : wpAny (model X.prog X.w) X.A (call (.ref s.heap.objs.size) us) (EP X ((s.heap.objs.size, PySem.W.methodObj (.ref g) (.ref (He.ga X.K C))) :: pins) σ Q) X.xe s3 := by
      refine wpAny_call (PySem.W.method_call (ClX.pin_at I3) (ranAt (us := .ref (He.ga X.K C) :: us) (xs := .ref (He.ga X.K C) :: vs) h6 hr I3.env0 hx I3 ?_ (.cons rfl rv) q2))
      have b := hb _ (.ref (He.ga X.K C) :: us) I3.kIn (by have h1 := h6.ln _ _ _ _ q2; have h2 := rv.length; simp at h1 ⊢; omega)
      rw [List.append_nil] at b
      exact b
    exact thn z fun _ _ y => ClX.unpinE y
  · intro ρ F H Γ μ σ kk s Q h
    refine a2 ρ F H Γ μ σ kk s _ ((WpR.bind h).mono (fun ds μ1 q => ?_) fun _ _ q => q)
    intro ρ1 F1 H1 vs n1 k1 r1
    exact ⟨ρ1, F1, μ1, .glo C :: ds, k1, .cons (.glo C) r1, q.mono (fun d μ2 q => QV.nx n1 q) fun _ _ q => XP.nx n1 q⟩
theorem ok_clsM [ExW] {C : Str} {m : Fn} {a : DA} {Γ : Gam} {μ : Mu} {Q : D → Mu → Prop} : Ok (dClsM C m a Γ μ) Q = Ok (a Γ μ) fun ds μ1 => Ok (m (.glo C :: ds) μ1) Q := by
  unfold dClsM
  rw [ok_bind]
end Ar

set_option Elab.async false
set_option linter.all false
set_option maxRecDepth 100000
set_option maxHeartbeats 4000000
/-! Ar36: try: body / except (C1, C2, C3) as n: suite, with own classes -/
namespace Ar
open PySem PySem.Spec PyProof.Rows L2
/-- an exception flies on where the heap only grows -/
theorem fly_grow {B : Heap} {l : List Env} {a : Addr} {Z : Obj → Prop} {h g : Heap} (fz : HandSPX.FlyingZ B l a Z h) (k : ∀ b o, h.get? b = some o → g.get? b = some o) : HandSPX.FlyingZ B l a Z g := by
  obtain ⟨f1, f2, f3, oe, vs, T, oT, ts, t1, t2, t3, t4, t5, t6, t7, t8, t9⟩ := fz
  exact ⟨fun b o e => k b o (f1 b o e), f2, f3.of_keeps fun b o e _ => ⟨o, k b o e, rfl⟩, oe, vs, T, oT, ts, k _ _ t1, t2, t3, t4, t5, t6, k _ _ t7, t8, t9⟩
theorem upto_grow {h g : Heap} (k : ∀ b o, h.get? b = some o → g.get? b = some o) : h.UpToSlots g := fun b o e _ => ⟨o.slots, k b o e⟩
section
variable {X : Cx} {x1 x2 x3 n : Str} {C1 C2 C3 : Addr} {i : Nat} {body suite : List Stmt} {b₀ : Stmt} {p1 p2 p3 pt pos pos' : Pos} {kt} {tb : WX → TS} {ts : Addr → Value → Option Addr → TS}
/-- what the clause wishes -/
def wAs3 (K : PySem.W.Frag) (C1 C2 C3 : Addr) (i : Nat) (ts : Addr → Value → Option Addr → TS) (Dn : Ends) : WX := fun cls d σ H =>
  PySem.W.exmAny K cls [.ref C1, .ref C2, .ref C3] = some true ∧ ∀ a, H a = none → ts a cls d { nx := fun σ' H' => Dn.nx (σ'.set i none) H', rt := Dn.rt, bk := fun σ' H' => Dn.bk (σ'.set i none) H', ct := fun σ' H' => Dn.ct (σ'.set i none) H' } (σ.set i (some (.ref a))) H
theorem ps_try_as3 (hst : X.stack = X.env :: X.outer) (hfr0 : X.env.frame = some X.env.locals) (hnd : X.N.Nodup) (hix : X.N[i]? = some n) (hkd : X.env.kindOf n = some .local)
    (g1 : Gl X x1) (g2 : Gl X x2) (g3 : Gl X x3) (m1 : X.mg x1 = some (.ref C1)) (m2 : X.mg x2 = some (.ref C2)) (m3 : X.mg x3 = some (.ref C3)) (d1 : (x1 == ("__debug__" : Str)) = false) (d2 : (x2 == ("__debug__" : Str)) = false) (d3 : (x3 == ("__debug__" : Str)) = false)
    (hse : starEach [.Name x1 p1, .Name x2 p2, .Name x3 p3] X.env = [(false, eval (.Name x1 p1) X.env), (false, eval (.Name x2 p2) X.env), (false, eval (.Name x3 p3) X.env)])
    (hbody : ∀ (W : WX) (pn : List (Addr × Obj)) (xe : Value → Shared → Prop), Takes (X.tr pn xe) W → PassesOwn (model X.prog X.w) X.A X.env xe → PSs (X.tr pn xe) body (tb W))
    (hsuite : ∀ (a : Addr) (oe : Obj) (cls : Value) (d : Option Addr) (pn : List (Addr × Obj)), Zc cls d oe → (∃ vs, oe.data = .fields vs) → PSs (X.suite a ((a, oe) :: pn)) (b₀ :: suite) (ts a cls d)) :
    PS X (.Try body [.ExceptHandler (some (.Tuple [.Name x1 p1, .Name x2 p2, .Name x3 p3] kt pt)) (some n) (b₀ :: suite) pos'] [] [] pos) (fun Dn σ H => tb (wAs3 X.K C1 C2 C3 i ts Dn) Dn σ H) := by
  refine ⟨fun pins0 st0 σ0 H0 Dn I0 h0 => ?_⟩
  have okX := I0.ok
  have frX : X.A.frames = some (X.env :: X.outer) := by rw [okX.frames, hst]
  have locn : Loc X.env.scope n := .inl hkd
  refine wpAny_Try_except ?_
  refine wpAny_mono ((hbody (wAs3 X.K C1 C2 C3 i ts Dn) (X.pn ++ pins0) (fun e s₁ => wpAny (model X.prog X.w) X.A (noteFrame e X.env) (fun _ s₂ => wpAny (model X.prog X.w) X.A (setFlight e none) (fun _ s₃ =>
    wpAny (model X.prog X.w) X.A (handleBy e X.env [.ExceptHandler (some (.Tuple [.Name x1 p1, .Name x2 p2, .Name x3 p3] kt pt)) (some n) (b₀ :: suite) pos']) (SP X pins0 Dn) X.xe s₃) X.xe s₂) X.xe s₁) (fun u sq xx => ?_) PassesOwn.looking).run [] st0 σ0 H0 Dn (I0.toTry _) h0) (fun f sq hsp => ?_) (fun _ _ he => he)
  · obtain ⟨a, B, sI, pinsJ, σJ, HJ, cls, dct, rfl, JT, nb, up, sky, na, osJ, ag, hany, hrun⟩ := xx
    have JJ : Inv X pins0 σJ HJ sI := JT.ofTry okX
    have skyX : Sky B (X.env :: X.outer) a (Zc cls dct) X.env.locals sq.heap := by rw [← hst]; exact sky
    show wpAny (model X.prog X.w) X.A (noteFrame (.ref a) X.env) _ _ _
    refine Sky.land Zc.steady frX hfr0 skyX fun hp3 fly3 up3 => ?_
    have J3 : Inv X pins0 σJ HJ { sq with heap := hp3 } := JJ.landed nb fly3.1 (up.trans up3) osJ ag
    obtain ⟨oe3, vs3, at3, z3, dt3⟩ := fly3.there
    have nofr : a ∉ frs (X.env :: X.outer) := fun hm => by
      obtain ⟨_, o', e', hnf⟩ := fly3.2.2.1.mem hm
      rw [at3] at e'
      cases e'
      exact hnf _ dt3
    have notL : a ≠ X.env.locals := fun z => nofr (List.mem_filterMap.mpr ⟨X.env, List.mem_cons_self, by rw [hfr0, z]⟩)
    have notF : a ∉ X.fs := fun hm => by
      obtain ⟨ev, hev, qv⟩ := List.mem_filterMap.mp hm
      exact nofr (List.mem_filterMap.mpr ⟨ev, List.mem_cons_of_mem _ hev, qv⟩)
    have S3 := J3.suite at3 dt3 na notL notF
    refine wpAny_handleBy_cons (codeAny_handlers_test ?_) (by intro q; cases q)
    refine wpAny_Tuple_spliced ?_
    show wpAny _ _ (spliced (starEach [.Name x1 p1, .Name x2 p2, .Name x3 p3] X.env)) _ _ _
    rw [hse]
    refine Calls.spliced_cons (ld_glob (X := X.suite a ((a, oe3) :: (X.pn ++ pins0))) S3 g1 m1 (Calls.spliced_cons (ld_glob (X := X.suite a ((a, oe3) :: (X.pn ++ pins0))) S3 g2 m2 (Calls.spliced_cons (ld_glob (X := X.suite a ((a, oe3) :: (X.pn ++ pins0))) S3 g3 m3 (Calls.spliced_nil ?_) d3)) d2)) d1)
    refine ⟨by rw [sizeLine_eq]; exact Nat.le_of_ble_eq_true rfl, ?_⟩
    have grow : ∀ b o, hp3.get? b = some o → (hp3.push { cls := .type "tuple", data := .seq [Value.ref C1, .ref C2, .ref C3].toArray }).get? b = some o := fun b o e => Heap.get?_push_of_some _ e
    have fly4 := fly_grow fly3 grow
    have at4 := grow _ _ at3
    have J4 : Inv X pins0 σJ HJ { sq with heap := hp3.push { cls := .type "tuple", data := .seq [Value.ref C1, .ref C2, .ref C3].toArray } } := JJ.landed nb fly4.1 ((up.trans up3).trans (upto_grow grow)) osJ ag
    have LT : PySem.W.Looks (model X.prog X.w) (hp3.push { cls := .type "tuple", data := .seq [Value.ref C1, .ref C2, .ref C3].toArray }) (typeOf (.ref a)) cls := fun A Q E s k q => wpAny_typeOf_ref (k _ _ at4) (by rw [z3.1]; exact q)
    have LM := PySem.W.exm_tup3 (M := model X.prog X.w) J4.kIn LT (Heap.get?_push_size _ rfl) hany
    refine LM.here ?_
    refine codeAny_handlers_suite_as ?_
    refine HandSPX.lands_againZ fly4 fun hp5 fly5 up5 => ?_
    have J5 : Inv X pins0 σJ HJ { sq with heap := hp5 } := JJ.landed nb fly5.1 (((up.trans up3).trans (upto_grow grow)).trans up5) osJ ag
    obtain ⟨oe5, vs5, at5, z5, dt5⟩ := fly5.there
    have S5 := J5.suite at5 dt5 na notL notF
    refine store_ok (X := X.suite a ((a, oe5) :: (X.pn ++ pins0))) (v := .ref a) S5 hnd hix locn rfl (fun s6 S6 => ?_) (.inr hkd)
    refine wpAny_mono ((hsuite a oe5 cls dct (X.pn ++ pins0) z5 ⟨_, dt5⟩).run [] s6 _ HJ _ S6 (hrun a na)) (fun f s7 hsp => ?_) (fun _ _ z => False.elim z)
    have close_ : ∀ {σ7 : L2.St} {H7 : Hp} {Q : Shared → Prop}, Inv (X.suite a ((a, oe5) :: (X.pn ++ pins0))) [] σ7 H7 s7 → (∀ s8, Inv X pins0 (σ7.set i none) H7 s8 → Q s8) →
        wpAny (model X.prog X.w) X.A (do bindName X.env n .none; unbindBehindTheSuite X.env n pos') (fun _ s8 => Q s8) X.xe s7 := fun {σ7 H7 Q} S7 hq => gone_ok (S7.unsuite okX) hnd hix hkd hq
    cases f with
    | next =>
      obtain ⟨σ7, H7, S7, q7⟩ := hsp
      exact close_ S7 fun s8 J8 => ⟨_, _, J8, q7⟩
    | brk =>
      obtain ⟨σ7, H7, S7, q7⟩ := hsp
      exact close_ S7 fun s8 J8 => ⟨_, _, J8, q7⟩
    | cont =>
      obtain ⟨σ7, H7, S7, q7⟩ := hsp
      exact close_ S7 fun s8 J8 => ⟨_, _, J8, q7⟩
    | ret u =>
      obtain ⟨v7, σ7, H7, S7, r7, q7⟩ := hsp
      exact close_ S7 fun s8 J8 => ⟨_, _, _, J8, r7, q7⟩
  · cases f with
    | next =>
      obtain ⟨σ9, H9, J9, q9⟩ := hsp
      exact wpAny_execs_nil ⟨σ9, H9, J9.ofTry okX, q9⟩
    | brk =>
      obtain ⟨σ9, H9, J9, q9⟩ := hsp
      exact ⟨σ9, H9, J9.ofTry okX, q9⟩
    | cont =>
      obtain ⟨σ9, H9, J9, q9⟩ := hsp
      exact ⟨σ9, H9, J9.ofTry okX, q9⟩
    | ret u =>
      obtain ⟨v9, σ9, H9, J9, r9, q9⟩ := hsp
      exact ⟨v9, σ9, H9, J9.ofTry okX, r9, q9⟩
end
end Ar

set_option Elab.async false
set_option linter.all false
set_option maxRecDepth 100000
set_option maxHeartbeats 4000000
/-! Ar37: raise C(e) of an own class whose __init__ keeps one field -/
namespace Ar
open PySem PySem.Spec PyProof.Rows L2
/-- what C.__init__ promises: the field f is kept -/
def spIni (K : PySem.W.Frag) (f : Str) : Sp := fun vs H Q _ => ∃ (a C : Addr) (y : V), vs = [.ref a, y] ∧ OexC K C ∧ PySem.W.findIn K (.ref C) f = some none ∧ H a = some (exo a C none) ∧
  ∀ dx, H dx = none → dx ≠ a → Q .non (upd (upd H dx (exd dx [(f, y)])) a (exo a C (some dx)))
/-- the class x of errors, with the field f -/
structure ExG (P : Program) (w : World) (K : PySem.W.Frag) (mg : Str → Option Value) (base : Heap) (x f : Str) : Prop where
  m : mg x = some (.ref (He.ga K x))
  c : OexC K (He.ga K x)
  no : PySem.W.findIn K (.ref (He.ga K x)) f = some none
  i : ∃ (fI : Addr) (fd : FuncData) (ps : List Str), PySem.W.findIn K (.ref (He.ga K x)) "__init__" = some (some (.ref fI)) ∧ PySem.W.typeIn K (.ref fI) = some (.type "function") ∧ L2.Binds K fd ps [] ∧ FnOk P w K mg base (L2.CX P w) 1 fI fd ps (spIni K f)
/-- such an __init__ -/
theorem ini_ok {P : Program} {w : World} {K : PySem.W.Frag} {mg : Str → Option Value} {base : Heap} {f qual n1 n2 : Str} {params : Arguments} {scope : Scope} {p1 p2 p3 p4 : Pos} {fI : Addr} {fd : FuncData}
    (F : FunD K "__init__" qual params [.Assign [.Attribute (.Name n1 p1) f p2] (.Name n2 p3) p4] scope [] [] fI fd) (S : FnScope [n1, n2] [n1, n2] scope) (v1 : Vis scope n1) (v2 : Vis scope n2)
    (d1 : (n1 == ("__debug__" : Str)) = false := by decide) (c1 : (n1 == ("__classdict__" : Str)) = false := by decide) (d2 : (n2 == ("__debug__" : Str)) = false := by decide) (c2 : (n2 == ("__classdict__" : Str)) = false := by decide) :
    FnOk P w K mg base (L2.CX P w) 1 fI fd [n1, n2] (spIni K f) := by
  obtain ⟨oc, od, dV, kV, doc, pm, an, cdv, ct, osl, rfl, lk, hcd, _, _⟩ := F.ex
  refine fn_of lk hcd S (fun vs H Q E h => ?_) fun A outer s H vs Q E hr h => ?_
  · obtain ⟨a, C, y, rfl, _⟩ := h
    rfl
  · obtain ⟨a, C, y, rfl, T, no, ea, q⟩ := h
    refine ⟨_, pss_one (ps_ost (pe_var (i := 0) rfl v1 d1 c1) (pe_var (i := 1) rfl v2 d2 c2)), ?_⟩
    exact ⟨y, rfl, .ref a, rfl, a, C, rfl, T, no, .inl ⟨ea, q⟩⟩
def dRaise (x f : Str) (a : DA) : DS := fun Γ μ => (a Γ μ).thenS fun ds μ1 => match ds with
  | [d] => .exc (x, some (f, d)) μ1
  | _ => .stk
theorem upd_del {H : Hp} {a dx : Addr} {o o1 o2 o3 : HO} (na : H a = none) (hd : dx ≠ a) : upd (del (upd (upd (upd H a o) dx o1) a o2) a) dx o3 = upd H dx o3 := by
  funext b
  by_cases h : b = dx
  · rw [h, upd_same, upd_same]
  · rw [upd_ne h, upd_ne h]
    by_cases h2 : b = a
    · rw [h2, del_same, na]
    · rw [del_ne h2, upd_ne h2, upd_ne h, upd_ne h2]
theorem q_raise {X : Cx} {E : XK} {x f : Str} {e : Expr} {p pos pos' : Pos} {da : DA} (G : ExG X.prog X.w X.K X.mg X.base x f) (hc : X.calm = true) (hr : RoomG 2 X.A) (tk : Takes X (fun cls d _ H => E cls d H)) (ha : QA X E [e] da) (hg : Gl X x := by rfl)
    (hdb : (x == ("__debug__" : Str)) = false := by decide) (hs : starEach [e] X.env = (false, eval e X.env) :: starEach [] X.env := by rfl) : QSt X E (.Raise (some (.Call (.Name x p) [e] [] pos)) none pos') (dRaise x f da) := by
  obtain ⟨fI, fd, ps, iC, tI, hb, F⟩ := G.i
  obtain ⟨ta, p2, s2⟩ := ha.ex
  refine ⟨_, ps_raise hc tk (pmk_oex (dvs := []) (ds := []) G.c iC tI F hr.r hb .nil (passes_call tk fun _ _ _ _ h => False.elim h) hg G.m p2 hdb hs), ?_⟩
  intro ρ F0 H Γ μ σ k sl D h
  refine s2 ρ F0 H Γ μ σ k sl _ ((WpS.thenS h).mono (fun ds μ1 h1 ρ1 F1 H1 vs n1 k1 r1 => ?_) fun _ _ q => q)
  rcases r1 with _ | ⟨r, _ | ⟨_, _⟩⟩
  · exact False.elim h1
  · rename_i v _
    refine ⟨by simp, fun a na => ?_⟩
    refine ⟨a, _, _, rfl, G.c, G.no, upd_same, fun dx nd ne => ⟨rfl, dx, [(f, v)], upd_same, ?_, ?_, ?_⟩⟩
    · rw [upd_ne ne, upd_same]
    · rw [upd_ne ne] at nd
      exact nd
    · have nd' : H1 dx = none := by rw [upd_ne ne] at nd; exact nd
      rw [upd_del na ne]
      have k2 := k1.newF (o := .xd [(f, v)]) nd'
      have n2 := Nx.newF_ (o := .xd [(f, v)]) k1 nd'
      exact h1 ρ1 _ _ (n1.trans n2) k2 dx _ upd_same (r.nx n2)
  · exact False.elim h1
end Ar

set_option Elab.async false
set_option linter.all false
set_option maxRecDepth 100000
set_option maxHeartbeats 4000000
/-! Ar38: a lambda is made; its table of codes is a place of ours -/
namespace Ar
open PySem PySem.Spec PyProof.Rows L2
section
variable {K : PySem.W.Frag} {ρ : List Addr} {F H : Hp} {μ : Mu} {P c' : Addr} {q : Str} {t : Nat}
theorem upd_upd {a b : Addr} {x y : HO} (h : a ≠ b) : upd (upd H a x) b y = upd (upd H b y) a x := by
  funext z
  by_cases h1 : z = a
  · subst h1; rw [upd_ne h, upd_same, upd_same]
  · by_cases h2 : z = b
    · subst h2; rw [upd_same, upd_ne h1, upd_same]
    · rw [upd_ne h2, upd_ne h1, upd_ne h1, upd_ne h2]
/-- the table at P, with one code more or none -/
def Tab1 (H H1 : Hp) (P c' : Addr) (q : Str) (ps : Array Value) : Prop := (H1 = H ∧ ∃ pos, codeAmong pos ps.toList = some (.ref c')) ∨
  (H c' = none ∧ ∃ ps' : Array Value, H1 = upd (upd H P (.tbl ps')) c' (LamX.CodeO c' q) ∧ TriplesOk ps'.toList ∧ ∀ pos cv, codeAmong pos ps'.toList = some cv → codeAmong pos ps.toList = some cv ∨ cv = .ref c')
theorem tab_at (k : HpOk K ρ μ F H) (e : μ[t]? = some (.tab P q)) : ρ[t]? = some P ∧ F P = none ∧ ∃ ps : Array Value, H P = some (.tbl ps) ∧ TriplesOk ps.toList ∧ ∀ (pos : Pos) (cv : Value), codeAmong pos ps.toList = some cv → ∃ c, cv = .ref c ∧ F c = some (LamX.CodeO c q) := by
  have hl : t < ρ.length := by
    rw [← k.len]
    exact (List.getElem?_eq_some_iff.mp e).1
  have e1 : ρ[t]? = some ρ[t] := List.getElem?_eq_getElem hl
  obtain ⟨z0, z1, z2⟩ := k.mu t _ _ e1 e
  exact ⟨by rw [e1, z0], by rw [← z0]; exact z1, by rw [← z0]; exact z2⟩
theorem tab_grow (k : HpOk K ρ μ F H) (e : μ[t]? = some (.tab P q)) {ps : Array Value} (hp : H P = some (.tbl ps)) {H1 : Hp} (h : Tab1 H H1 P c' q ps) : ∃ F1, HpOk K ρ μ F1 H1 ∧ Nx ρ F H ρ F1 H1 ∧ F1 c' = some (LamX.CodeO c' q) := by
  obtain ⟨e1, e2, ps2, e3, e4, e5⟩ := tab_at k e
  rw [hp] at e3
  cases e3
  rcases h with ⟨rfl, pos, hc⟩ | ⟨hn, ps', rfl, ht, hs⟩
  · obtain ⟨c, z, w⟩ := e5 pos _ hc
    cases z
    exact ⟨F, k, Nx.refl, w⟩
  · have ne : P ≠ c' := ne_of_none hp hn
    have k1 := k.newF (o := LamX.CodeO c' q) hn
    have n1 := Nx.newF_ (o := LamX.CodeO c' q) k hn
    have fP : upd F c' (LamX.CodeO c' q) P = none := by rw [upd_ne ne]; exact e2
    have k2 := k1.write (n := t) (a := P) (o := .tbl ps') (m := .tab P q) e1 fP ⟨rfl, fP, ps', upd_same, ht, fun pos cv hc => by
      rcases hs pos cv hc with z | z
      · obtain ⟨c, w1, w2⟩ := e5 pos cv z
        exact ⟨c, w1, n1.ex _ _ w2⟩
      · exact ⟨c', z, upd_same⟩⟩
    have n2 := Nx.write_ (H := upd H c' (LamX.CodeO c' q)) (F := upd F c' (LamX.CodeO c' q)) (o := .tbl ps') e1 fP (by rw [upd_ne ne, hp]; exact fun z => by cases z)
    have es : μ.set t (.tab P q) = μ := by
      obtain ⟨hl, hv⟩ := List.getElem?_eq_some_iff.mp e
      rw [← hv]
      exact List.set_getElem_self hl
    rw [es] at k2
    rw [upd_upd (Ne.symm ne)] at k2 n2
    exact ⟨_, k2, n1.trans n2, upd_same⟩
end
end Ar

set_option Elab.async false
set_option linter.all false
set_option maxRecDepth 100000
set_option maxHeartbeats 4000000
/-! Ar39: the lambda's making, with its table told exactly -/
namespace Ar
open PySem PySem.Spec PyProof.Rows L2
abbrev lamQ (X : Cx) : Str := X.env.qual ++ "<lambda>"
/-- the object of a lambda -/
abbrev lamO (X : Cx) (ar : Arguments) (b : Expr) (sc : Scope) (pm : Value) (k : Addr) (ctv : Value) : Obj := PySem.W.kla_obj "<lambda>" (lamQ X) ar b sc (cloFrom X.env.cells sc.names []) pm k ctv
section
variable {X : Cx} {pins : List (Addr × Obj)} {σ : L2.St} {H : Hp} {s : Shared}
theorem lam_mk {cd P : Addr} {tb : Array Value} {ar : Arguments} {b : Expr} {sc : Scope} {at_ : Pos} {E D : Value → Shared → Prop} (I : Inv X pins σ H s) (B : LamX.TabB X.base X.mg cd P) (ec : X.env.code = .ref cd) (e : H P = some (.tbl tb)) (ok : TriplesOk tb.toList)
    (old : ∀ (p : Pos) (v : Value), codeAmong p tb.toList = some v → ∃ k, v = .ref k ∧ H k = some (LamX.CodeO k (lamQ X))) (nd : defaultsOf ar X.env = ([], [])) (fr : ∀ y ∈ sc.names, y.2 = .free → ∃ k, X.env.cells.lookup y.1 = some k)
    (go : ∀ (f k : Addr) (pm ctv : Value) (G : Hp) (z : Shared), Inv X pins σ G z → Tab1 H G P k (lamQ X) tb → z.heap.get? f = some (lamO X ar b sc pm k ctv) → G f = none → f ∉ frs X.stack → D (.ref f) z) :
    wpAny (model X.prog X.w) X.A (eval (.Lambda ar b sc at_) X.env) D E s := by
  have far : ∀ f, s.heap.objs.size ≤ f → f ∉ frs X.stack := by
    intro f hf z
    rcases List.mem_cons.mp (I.stkSub _ z) with w | w
    · rw [w] at hf
      exact absurd (Nat.lt_of_lt_of_le I.lt hf) (Nat.lt_irrefl _)
    · exact I.nofs hf w
  have eP : s.heap.get? P = some { cls := .none, data := .fields tb } := I.hok P _ e
  have blt : s.heap.BuiltinsAt X.mg P := B.bm.keeps I.bk
  refine PySem.W.kla_eval nd ?_
  by_cases hit : ∃ v, codeAmong at_ tb.toList = some v
  · obtain ⟨v, hv⟩ := hit
    obtain ⟨k, rfl, hk⟩ := old at_ v hv
    refine PySem.W.kla_makeFunctionHit (c := cd) (P := P) (ps := tb) (mg := X.mg) (closure_ok fr) I.ok.glob (I.mod.glob.keeps I.bk) ec (B.code.keeps I.bk) eP ok hv blt fun ctv g tk hg hs => ?_
    have J : Inv X pins σ H { s with heap := g.push (lamO X ar b sc ((X.mg "__name__").getD .none) k ctv), toks := tk } := I.kept fun a o z => Heap.get?_push_of_some _ (hg a o z)
    exact go g.objs.size k _ ctv H _ J (.inl ⟨rfl, at_, hv⟩) (Heap.get?_push_size _ rfl) (I.hok.fresh hs) (far _ hs)
  · have hn : codeAmong at_ tb.toList = none := by
      cases w : codeAmong at_ tb.toList with
      | none => rfl
      | some v => exact absurd ⟨v, w⟩ hit
    refine PySem.W.kla_makeFunction (c := cd) (P := P) (ps := tb) (mg := X.mg) (closure_ok fr) I.ok.glob (I.mod.glob.keeps I.bk) ec (B.code.keeps I.bk) eP ok hn B.gP blt ?_
    intro k ctv g tk hx h1 h2 hr ht
    obtain ⟨k0, oc, fs, tok, z, w1, w2, w3⟩ := hr
    obtain rfl := Value.ref.inj z
    have hs : s.heap.objs.size ≤ g.objs.size := Nat.le_trans h1 (Nat.le_of_lt h2)
    have nk : H k = none := I.hok.fresh h1
    have neP : g.objs.size ≠ P := fun z => by
      rw [z] at hs
      exact absurd (Nat.lt_of_lt_of_le (Heap.lt_size eP) hs) (Nat.lt_irrefl _)
    have J := LamX.inv_table (q := lamQ X) (c := k) (more := #[rawInt at_.line, rawInt at_.col, .ref k]) (t' := tk) (h' := g.push (lamO X ar b sc ((X.mg "__name__").getD .none) k ctv)) I e (fun a o ha hb => Heap.get?_push_of_some _ (hx a o ha hb))
      (Heap.get?_push_of_some _ ht) h1 ⟨oc, fs, tok, Heap.get?_push_of_some _ w1, w2, w3⟩
    have el : (tb ++ #[rawInt at_.line, rawInt at_.col, .ref k]).toList = tb.toList ++ [rawInt at_.line, rawInt at_.col, .ref k] := by simp
    refine go g.objs.size k _ ctv _ _ J (.inr ⟨nk, _, rfl, by rw [el]; exact PySem.TriplesOk_snoc _ _ _ _ ok, fun p v hv => ?_⟩) (Heap.get?_push_size _ rfl) ?_ (far _ hs)
    · rw [el] at hv
      exact LamX.among_app _ ok hv
    · rw [upd_ne (Nat.ne_of_gt h2), upd_ne neP]
      exact I.hok.fresh hs
end
end Ar

set_option Elab.async false
set_option linter.all false
set_option maxRecDepth 100000
set_option maxHeartbeats 4000000
/-! Ar40: the lambda called within the def that got it -/
namespace Ar
open PySem PySem.Spec PyProof.Rows L2
/-- the reading in terms of data -/
def tD (K : PySem.W.Frag) (de : DE) (E : XK) : TE := fun σ H Q => ∃ ρ F μ Γ, HpOk K ρ μ F H ∧ Slots K ρ F Γ σ ∧ WpR (de Γ μ) (QV K ρ F H Q) (XP K E ρ F H)
theorem pe_imp {X : Cx} {e : Expr} {t t' : TE} (h : PE X e t) (q : ∀ σ H Q, t' σ H Q → t σ H Q) : PE X e t' := ⟨fun pins s σ H Q I z => h.run pins s σ H Q I (q _ _ _ z)⟩
theorem QE.d {X : Cx} {E : XK} {e : Expr} {de : DE} (h : QE X E e de) : PE X e (tD X.K de E) := by
  obtain ⟨te, h1, h2⟩ := h.ex
  exact pe_imp h1 fun σ H Q ⟨ρ, F, μ, Γ, k, sl, w⟩ => h2 ρ F H Γ μ σ k sl Q w
section
variable {K : PySem.W.Frag} {ρ : List Addr} {F : Hp}
theorem DnO.slots {σ : L2.St} {Γ : Gam} (h : DnO K ρ F σ Γ) : Slots K ρ F Γ σ := by
  induction Γ generalizing σ with
  | nil => cases h; exact ⟨rfl, fun i d e => by simp at e⟩
  | cons o Γ ih =>
    cases h with
    | skip t =>
      obtain ⟨l, g⟩ := ih t
      refine ⟨by simp [l], fun i d e => ?_⟩
      cases i with
      | zero => simp at e
      | succ i => simpa using g i d (by simpa using e)
    | cons r t =>
      obtain ⟨l, g⟩ := ih t
      refine ⟨by simp [l], fun i d e => ?_⟩
      cases i with
      | zero =>
        rename_i v0 d0 σ0
        have e2 : d0 = d := by simpa using e
        subst e2
        exact ⟨v0, by simp, r⟩
      | succ i => simpa using g i d (by simpa using e)
theorem Slots.dno {σ : L2.St} {Γ : Gam} (h : Slots K ρ F Γ σ) : DnO K ρ F σ Γ := by
  induction Γ generalizing σ with
  | nil =>
    have := h.len
    cases σ with
    | nil => exact .nil
    | cons _ _ => simp at this
  | cons o Γ ih =>
    have hl := h.len
    cases σ with
    | nil => simp at hl
    | cons v σ =>
      have t : Slots K ρ F Γ σ := ⟨by simpa using hl, fun i d e => by simpa using h.at_ (i + 1) d (by simpa using e)⟩
      cases o with
      | none => exact .skip (ih t)
      | some d =>
        obtain ⟨w, e, r⟩ := h.at_ 0 d (by simp)
        have e2 : v = some w := by simpa using e
        subst e2
        exact .cons r (ih t)
end
/-- the context of the def that got the lambda -/
abbrev cxG (X : Cx) (N : List Str) (q : Str) (sc : Scope) (g : Addr) (cd : Value) (s : Shared) (H : Hp) : Cx := cxOf (L2.CX X.prog X.w) X.prog X.w X.K X.mg X.base N q sc g cd X.A X.stack s H fun _ _ _ => False
/-- a() there, with the slots told at which an error may come -/
def tAct (K : PySem.W.Frag) (i : Nat) (f k : Addr) (q : Str) (σ : L2.St) (de : DE) (W : WX) : TE := fun τ G D => τ[i]? = some (some (.ref f)) ∧ G k = some (LamX.CodeO k q) ∧ tD K de (fun cls d G' => W cls d τ G') σ G D
section
variable {X : Cx} {pins : List (Addr × Obj)} {σ : L2.St} {H : Hp} {s : Shared}
theorem pe_act {N : List Str} {qg a : Str} {sg scope : Scope} {g f k : Addr} {cdg pm ctv : Value} {ar : Arguments} {body : Expr} {j i : Nat} {pn : List (Addr × Obj)} {xe : Value → Shared → Prop} {W : WX} {de : DE} {p1 p2 : Pos}
    (I : Inv X pins σ H s) (L : LamX.LamS X.env.scope scope) (hf : s.heap.get? f = some (lamO X ar body scope pm k ctv)) (hfn : H f = none) (hfr : f ∉ frs X.stack)
    (hbind : bindArgs (PySem.W.kla_fn "<lambda>" (lamQ X) ar body scope (cloFrom X.env.cells scope.names []) pm (.ref k) ctv) ⟨[], []⟩ = pure [])
    (tk : Takes ((cxG X N qg sg g cdg s H).tr pn xe) W) (hr : RoomG (j + 1) (X.A.deeper (envOfC qg sg s.heap.objs.size g cdg)))
    (hbody : ∀ (A : Around) (outer : List Env) (s : Shared) (H : Hp) (E : XK), RoomG j (A.deeper (LamX.lamEnv X scope s.heap.objs.size f k)) → QE (LamX.lamCx X A outer s H E scope f k) E body de)
    (hN : N[i]? = some a) (hv : Vis sg a) (d1 : (a == ("__debug__" : Str)) = false := by decide) (d2 : (a == ("__classdict__" : Str)) = false := by decide) :
    PE ((cxG X N qg sg g cdg s H).tr pn xe) (.Call (.Name a p1) [] [] p2) (tAct X.K i f k (lamQ X) σ de W) := by
  refine ⟨fun pinsZ sZ τ G D IZ ⟨hs, hc, ht⟩ => ?_⟩
  refine wpAny_Call_Name_kw (thn ((L2.pe_var (pos := p1) (i := i) hN hv d1 d2).run pinsZ sZ τ G (fun v H1 => v = .ref f ∧ H1 = G) IZ ⟨.ref f, hs, rfl, rfl⟩) fun u s1 ⟨v, G1, I1, r1, ev, eG⟩ => ?_)
  subst ev
  subst eG
  obtain rfl : u = Value.ref f := r1
  have un : Un (frs X.stack) [] H G1 s.heap s1.heap := I1.base
  have of1 : s1.heap.get? f = some (lamO X ar body scope pm k ctv) := un.keep f _ hf hfn hfr (fun z => nomatch z)
  obtain ⟨⟨oc, vs, t, c1, c2, c3⟩, _, _⟩ := I1.hok k _ hc
  refine PySem.W.callWith_F0 ⟨_, _, _, _, of1⟩ (wpAny_call (codeAny_mono (R := CR (L2.CX X.prog X.w) (envOfC qg sg s.heap.objs.size g cdg :: X.stack) X.prog X.w G1 s1 D (fun cls d G' => W cls d τ G')) ?_ fun z s' hq => ?_))
  · refine PySem.W.kla_callFunE hr.r.depth of1 rfl L.co L.gen rfl ⟨k, oc, vs, t, rfl, c1, c2, c3⟩ ?_
    show wpAny _ _ (bindArgs (PySem.W.kla_fn "<lambda>" (lamQ X) ar body scope (cloFrom X.env.cells scope.names []) pm (.ref k) ctv) ⟨[], []⟩) _ _ _
    rw [hbind]
    refine wpAny_pure (wpAny_newFunctionEnv (fun y hy => (L.own y hy).2) (fun y hy => absurd hy (by simp)) (fun h₁ hns hsb => ⟨I1.nolimit.fresh _ hsb, ?_⟩) L.kind)
    show codeAny _ _ (.expr body (LamX.lamEnv X scope s1.heap.objs.size f k)) _ _
    have kp : ∀ b o, s1.heap.get? b = some o → h₁.get? b = some o := fun b o e => hsb.extBut b o (Nat.ne_of_lt (Heap.lt_size e)) (Heap.get?_push_of_some _ e)
    have J := LamX.lam_start2 (E := fun cls d G' => W cls d τ G') (scope := scope) (f := f) (c' := k) (tk := s1.toks + ([] : List (Str × Value)).length) I L I1.env0 hr.r.hd un hns kp
    refine PySem.W.kla_codeExpr (wpAny_mono ((hbody _ _ s1 G1 (fun cls d G' => W cls d τ G') (hr.down _)).d.run [] _ _ G1 D J ht) (fun v s' hq => ?_) fun e s' hq => hq)
    obtain ⟨w', H', J', rv, q⟩ := hq
    exact ⟨w', H', J'.os, J'.bare, J'.base, J'.hok, rv, q⟩
  · have hx := passAt tk τ
    cases z with
    | error e => exact hx pinsZ G1 s1 e s' I1 hq
    | ok fl =>
      cases fl with
      | ret u => exact I1.after hq
      | next => exact False.elim hq
      | brk => exact False.elim hq
      | cont => exact False.elim hq
end
end Ar

set_option Elab.async false
set_option linter.all false
set_option maxRecDepth 100000
set_option maxHeartbeats 4000000
/-! Ar41: defs called in an except suite, with the caught error as an argument -/
namespace Ar
open PySem PySem.Spec PyProof.Rows L2
/-- the error at a, of the class x, its dict at dd, is held by the context -/
structure HotX (X : Cx) (x : Str) (a dd : Addr) : Prop where
  ex : ∃ oe : Obj, (a, oe) ∈ X.pn ∧ Zc (.ref (He.ga X.K x)) (some dd) oe ∧ ∃ vs, oe.data = .fields vs
theorem HotX.at {X : Cx} {x : Str} {a dd : Addr} (h : HotX X x a dd) {pins : List (Addr × Obj)} {σ : L2.St} {H : Hp} {s : Shared} (I : Inv X pins σ H s) {od : Obj} (hd : s.heap.get? dd = some od) : ∃ oe, PySem.W.InstAt s.heap a oe (He.ga X.K x) (some od) := by
  obtain ⟨oe, hp, hz, vs, hv⟩ := h.ex
  have ha := (I.pin (a, oe) (List.mem_append_left _ hp)).1
  exact ⟨oe, ha, hz.1, by unfold PySem.W.notCls; rw [hv] <;> rfl, by rw [hz.2]; exact hd⟩
structure PmH (P : Program) (w : World) (K : PySem.W.Frag) (mg : Str → Option Value) (base : Heap) (x : Str) (k : Nat) (f : Addr) (fd : FuncData) (ps : List Str) (m : Addr → Addr → Fn) : Prop where
  ln : ∀ a dd xs H D E, spM K (m a dd) xs H D E → xs.length = ps.length
  go : ∀ (A : Around) (o : List Env) (s : Shared) (H : Hp) (ar : Args) (us : List Value) (xs : List V) (D : VK) (E : XK) (a dd : Addr) (oe : Obj), L2H.RoomH k A → L2H.PinOk o H s (a, oe) → Zc (.ref (He.ga K x)) (some dd) oe → (∃ vs, oe.data = .fields vs) →
    Env0 P w K mg base A o s H → BindsTo s fd ar (ps.zip us) → Vals xs us → spM K (m a dd) xs H D E → codeAny (model P w) A (.call (.ref f) ar) (CR (L2.CX P w) o P w H s D E) s
/-- such a def of the module, at the class x -/
structure FnX (P : Program) (w : World) (K : PySem.W.Frag) (mg : Str → Option Value) (base : Heap) (n x : Str) (k : Nat) (m : Addr → Addr → Fn) : Prop where
  ex : ∃ f fd ps, mg n = some (.ref f) ∧ PySem.W.keepIn K (.ref f) = true ∧ Binds K fd ps [] ∧ PmH P w K mg base x k f fd ps m
theorem q_callX {X : Cx} {E : XK} {n x : Str} {a dd : Addr} {e : Expr} {es : List Expr} {p pos : Pos} {j : Nat} {m : Addr → Addr → Fn} {da : DA} (G : FnX X.prog X.w X.K X.mg X.base n x j m) (hx : HotX X x a dd) (hr : L2H.RoomH j X.A) (hp : Passes (L2.CX X.prog X.w) X E) (ha : QA X E (e :: es) da)
    (hg : Gl X n := by rfl) (hdb : (n == ("__debug__" : Str)) = false := by decide) (he : starEach (e :: es) X.env = (false, eval e X.env) :: starEach es X.env := by rfl) (hpl : (backTo pos (starEach es X.env)).any (·.1) = false := by rfl) :
    QE X E (.Call (.Name n p) (e :: es) [] pos) (dCall (m a dd) da) := by
  obtain ⟨f, fd, ps, h1, h2, h3, h4⟩ := G.ex
  obtain ⟨ta, a1, a2⟩ := ha.ex
  refine ⟨_, ⟨fun pins s σ H D I h => ?_⟩, sim_call a2⟩
  refine wpAny_Call_Name_kw (ld_glob I hg h1 ?_ hdb)
  refine PySem.W.callWith_K (h₀ := X.base) I.ok.mod.kin h2 (thn (a1.run pos pins s σ H _ I h) fun us s1 ⟨xs, H1, I1, r, q⟩ => ⟨I1.kIn, ?_⟩) he hpl
  obtain ⟨oe, hm, hz, hv⟩ := hx.ex
  have P1 := I1.pin (a, oe) (List.mem_append_left _ hm)
  have pk : L2H.PinOk X.stack H1 s1 (a, oe) := ⟨P1.1, P1.2.1, fun w => (List.mem_cons.mp (I1.stkSub a w)).elim P1.2.2.1 P1.2.2.2.1, P1.2.2.2.2⟩
  have q : spM X.K (m a dd) (xs ++ []) H1 D E := q
  rw [List.append_nil] at q
  have b := h3 s1 us I1.kIn (by rw [List.append_nil, ← r.length]; exact h4.ln _ _ _ _ _ _ q)
  rw [List.append_nil] at b
  refine wpAny_call (codeAny_mono (h4.go X.A X.stack s1 H1 ⟨us, []⟩ us xs D E a dd oe hr pk hz hv I1.env0 b r q) fun z s' w => ?_)
  match z, w with
  | .error err, w => exact hp pins σ H1 s1 err s' I1 w
  | .ok (.ret u), w => exact I1.after w
/-- from its body -/
theorem fn_okH {P : Program} {w : World} {K : PySem.W.Frag} {mg : Str → Option Value} {base : Heap} {x n qual : Str} {params : Arguments} {body : List Stmt} {scope : Scope} {f : Addr} {fd : FuncData} {N ps : List Str} {k i nn : Nat} {db : Addr → Addr → DS} (F : FunD K n qual params body scope [] [] f fd) (S : FnScope N ps scope)
    (hn : ps.length = i) (hN : N.length = nn)
    (hb : ∀ (cdv : Value) (A : Around) (outer : List Env) (s : Shared) (H : Hp) (E : XK) (a dd : Addr) (oe : Obj), L2H.RoomH k (A.deeper (envOfC qual scope s.heap.objs.size f cdv)) → HotX (L2H.cxH (L2.CX P w) P w K mg base N qual scope f cdv A outer s H E (a, oe)) x a dd →
      QSs (L2H.cxH (L2.CX P w) P w K mg base N qual scope f cdv A outer s H E (a, oe)) E body (db a dd)) :
    PmH P w K mg base x (k + 1) f fd ps fun a dd => dDef i nn (db a dd) := by
  obtain ⟨oc, od, dV, kV, doc, pm, an, cdv, ct, osl, rfl, lk, hcd, _, _⟩ := F.ex
  have ln : ∀ a dd xs H D E, spM K (dDef i nn (db a dd)) xs H D E → xs.length = ps.length := fun a dd xs H D E ⟨ρ, F0, μ, ds, k0, r0, h⟩ => by
    unfold dDef at h
    split at h
    · rename_i hl
      rw [r0.length, hl, hn]
    · exact False.elim h
  refine ⟨ln, fun A o s H ar us xs D E a dd oe hr hpin hz hv e0 hbn r hs => ?_⟩
  have hlen := ln a dd xs H D E hs
  have KX : K.In s.heap := e0.mod.kin.keeps fun b u z => (e0.bs b u z).1
  have li : s.heap.NoLimit := e0.mod.nolimit.keeps fun b u z => (e0.bs b u z).1
  have hk : ∀ y ∈ ps.zip us, scope.names.lookup y.1 = some .local ∨ (scope.names.lookup y.1 = some .cell ∧ ((cellsFrom (s.heap.objs.size + 1) scope.names []).lookup y.1).isSome = true) := by
    rintro ⟨m, v⟩ hy
    have := S.par m (List.of_mem_zip hy).1
    exact this.imp id fun q => ⟨q, PySem.W.cellsFrom_some _ _ _ (.inl q)⟩
  refine codeAny_call_function hr.depth (KX _ _ lk) rfl S.co S.gen rfl (PySem.W.codeRec_of KX hcd) (hbn _ _ _ _ (wpAny_newFunctionEnv_cells S.kind hk ?_))
  intro en he s1 y
  subst he
  refine ⟨li.keeps y.toInCall.keep, codeAny_func ?_⟩
  obtain ⟨t, ht, sm⟩ := (hb cdv A o s H E a dd oe (hr.deeper _) ⟨oe, List.mem_singleton.mpr rfl, hz, hv⟩).ex
  have I0 := L2H.inv_startH (CX := L2.CX P w) (E := E) S hpin e0 hlen r y
  have hq : t { nx := fun _ H' => D .non H', rt := D } (L2.start N xs) H := by
    obtain ⟨ρ, F0, μ, ds, k0, r0, h⟩ := hs
    unfold dDef at h
    split at h
    · refine sm ρ F0 H _ μ _ k0 (slots_start r0) _ ?_
      subst hN
      cases hres : db a dd (ds.map some ++ List.replicate (N.length - ds.length) none) μ with
      | nx Γ μ1 => rw [hres] at h; exact fun ρ1 F1 H1 σ1 n1 k1 s1 => h ρ1 F1 H1 .non n1 k1 .non
      | rt d μ1 => rw [hres] at h; exact h
      | bk Γ μ1 => rw [hres] at h; exact False.elim h
      | ct Γ μ1 => rw [hres] at h; exact False.elim h
      | exc e μ1 => rw [hres] at h; exact h
      | stk => rw [hres] at h; exact False.elim h
    · exact False.elim h
  refine wpAny_mono (ht.run [] s1 _ H _ I0 hq) (fun fl s' z => ?_) fun _ _ z => z
  cases fl with
  | brk => obtain ⟨_, _, _, q⟩ := z; exact q.elim
  | cont => obtain ⟨_, _, _, q⟩ := z; exact q.elim
  | next =>
    obtain ⟨τ, G, J, q⟩ := z
    exact ⟨.non, G, J.os, J.bare, J.base, J.hok, rfl, q⟩
  | ret u =>
    obtain ⟨v, τ, G, J, rv, q⟩ := z
    exact ⟨v, G, J.os, J.bare, J.base, J.hok, rv, q⟩
end Ar

set_option Elab.async false
set_option linter.all false
set_option maxRecDepth 100000
set_option maxHeartbeats 4000000
/-! Ar42: count and index in lists of truths -/
namespace Ar
open PySem PySem.Spec PyProof.Rows L2
def dBl1 (f : List Bool → Bool → Option D) (o e : DE) : DE := fun Γ μ => (o Γ μ).bind fun x μ1 => match x with
  | .lst ds => match blsOf ds with
    | some bs => (e Γ μ1).bind fun y μ2 => match y with
      | .bl c => R.of μ2 (f bs c)
      | _ => .stk
    | none => .stk
  | _ => .stk
def fCnt (bs : List Bool) (c : Bool) : Option D := some (.int (bs.count c))
def fIdx (bs : List Bool) (c : Bool) : Option D := if c ∈ bs then some (.int (bs.idxOf c)) else none
theorem all_flat (bs : List Bool) : (bs.map V.bl).all flatV = true := by
  induction bs with
  | nil => rfl
  | cons b bs ih => rw [List.map_cons, List.all_cons, ih]; rfl
theorem count_eqU {c : Bool} {uy : Value} : ∀ {bs : List Bool} {us : List Value}, Vals (bs.map V.bl) us → us.countP (eqU (.bl c)) = bs.count c
  | [], _, h => by cases h; rfl
  | b :: bs, u :: us, h => by
    cases h with
    | cons r t =>
      have e := eqU_of (x := .bl c) r rfl
      rw [List.countP_cons, count_eqU (uy := uy) t, List.count_cons, e]
      show _ + (if (b == c) = true then 1 else 0) = _
      rfl
section
variable {X : Cx} {E : XK} {o e : Expr} {do_ de : DE} {apos cpos : Pos}
def rCntB (K : PySem.W.Frag) : V → List V → Hp → VK → Prop := fun x xs H Q => ∃ (a : Addr) (bs : List Bool) (c : Bool), x = .ref a ∧ xs = [.bl c] ∧ SqL K H a (bs.map V.bl) ∧ Q (.int (bs.count c : Nat)) H
theorem mt_cntB : MtR X "list.count" (rCntB X.K) := by
  intro pins s σ H x xs v us Q I rx rxs h
  obtain ⟨a, bs, c, rfl, rfl, hs, q⟩ := h
  cases rx
  cases rxs with
  | cons ry rt =>
    rename_i uy ut
    cases rt
    obtain ⟨its, rv, ⟨⟨cls, dd, data, sl⟩, n, ho, hc, hdn, hd⟩, hlen⟩ := I.list hs
    simp only at hc hd
    subst hc hd
    refine call_meets PySem.F.slot_list_count ⟨_, ho, rfl⟩ PySem.F.entry_list_count (PySem.F.args_list_count_2 _ _) (SeqAt.list_countAt a its.toArray n dd sl uy (eqU (.bl c))) ⟨ho, fun y hy => mem_eqAt ry rfl rv (all_flat bs) y (by simpa using hy), ?_⟩
    have e1 : its.toArray.toList.countP (eqU (.bl c)) = bs.count c := count_eqU (uy := uy) rv
    rw [e1]
    exact ⟨.int (bs.count c : Nat), H, I.tok _, ⟨_, rfl⟩, q⟩
theorem sim_bl1 {to te : TE} {f : List Bool → Bool → Option D} {r : V → List V → Hp → VK → Prop} (ho : SimE X.K E to do_) (he : SimE X.K E te de)
    (hr : ∀ (a : Addr) (bs : List Bool) (c : Bool) (z : D) (ρ : List Addr) (F H : Hp) (μ : Mu) (Q : VK), HpOk X.K ρ μ F H → SqL X.K H a (bs.map V.bl) → f bs c = some z → QV X.K ρ F H Q z μ → r (.ref a) [.bl c] H Q) :
    SimE X.K E (tBM X.K "list" r to (tCons te tNil)) (dBl1 f do_ de) := by
  intro ρ F H Γ μ σ k s Q h
  refine ho ρ F H Γ μ σ k s _ ((WpR.bind h).mono (fun x μ1 q => ?_) fun _ _ q => q)
  intro ρ1 F1 H1 v n1 k1 r1
  split at q
  · rename_i ds
    split at q
    · rename_i bs hb
      cases r1 with
      | @lst a vs _ hs ha =>
        have ev := blsOf_ok hb ha
        subst ev
        refine ⟨.inl ⟨rfl, _, SqL.of (k1.ex _ _ hs)⟩, ?_⟩
        refine he ρ1 F1 H1 Γ μ1 σ k1 (s.nx n1) _ ((WpR.bind q).mono (fun y μ2 q => ?_) fun _ _ q => XP.nx n1 q)
        intro ρ2 F2 H2 w n2 k2 r2
        split at q
        · rename_i c
          cases r2
          obtain ⟨z, ez, q⟩ := q.of
          exact hr a bs c z ρ2 F2 H2 μ2 Q k2 (SqL.of (k2.ex _ _ (n2.ex _ _ hs))) ez (QV.nx (n1.trans n2) q)
        · exact False.elim q
    · exact False.elim q
  · exact False.elim q
theorem q_cntB (ho : QE X E o do_) (he : QE X E e de)
    (hbase : attributeBase o "count" X.env (eval o X.env) = eval o X.env := by rfl)
    (hfew : ((backTo cpos (starEach (e :: []) X.env)).all (fun x => !x.1) && (backToKw cpos (keywordEach [] X.env)).all (fun x => x.1.isSome)
      && decide ((e :: []).length + ([] : List Keyword).length + (if ([] : List Keyword).isEmpty then 0 else 1) < 30)) = true := by rfl)
    (hline : (apos.endLine == cpos.line) = true := by rfl) (hs : starEach (e :: []) X.env = (false, eval e X.env) :: starEach [] X.env := by rfl) (hplain : (backTo cpos (starEach [] X.env)).any (·.1) = false := by rfl) :
    QE X E (.Call (.Attribute o "count" apos) [e] [] cpos) (dBl1 fCnt do_ de) := by
  obtain ⟨to, o1, o2⟩ := ho.ex
  obtain ⟨te, e1, e2⟩ := he.ex
  refine ⟨_, pe_bm PySem.F.plainAttrs_list PySem.F.slot_list_count PySem.F.type_list_count mt_cntB o1 (pa_cons e1 pa_nil hs) hbase hfew hline hs hplain, sim_bl1 o2 e2 ?_⟩
  intro a bs c z ρ F H μ Q k hs ez q
  cases ez
  exact ⟨a, bs, c, rfl, rfl, hs, q ρ F H _ Nx.refl k (.int _)⟩
theorem q_idxB (ho : QE X E o do_) (he : QE X E e de)
    (hbase : attributeBase o "index" X.env (eval o X.env) = eval o X.env := by rfl)
    (hfew : ((backTo cpos (starEach (e :: []) X.env)).all (fun x => !x.1) && (backToKw cpos (keywordEach [] X.env)).all (fun x => x.1.isSome)
      && decide ((e :: []).length + ([] : List Keyword).length + (if ([] : List Keyword).isEmpty then 0 else 1) < 30)) = true := by rfl)
    (hline : (apos.endLine == cpos.line) = true := by rfl) (hs : starEach (e :: []) X.env = (false, eval e X.env) :: starEach [] X.env := by rfl) (hplain : (backTo cpos (starEach [] X.env)).any (·.1) = false := by rfl) :
    QE X E (.Call (.Attribute o "index" apos) [e] [] cpos) (dBl1 fIdx do_ de) := by
  obtain ⟨to, o1, o2⟩ := ho.ex
  obtain ⟨te, e1, e2⟩ := he.ex
  refine ⟨_, pe_bm PySem.F.plainAttrs_list PySem.F.slot_list_index PySem.F.type_list_index mt_index o1 (pa_cons e1 pa_nil hs) hbase hfew hline hs hplain, sim_bl1 o2 e2 ?_⟩
  intro a bs c z ρ F H μ Q k hs ez q
  unfold fIdx at ez
  split at ez
  · rename_i hm
    cases ez
    have hj : bs.idxOf c < bs.length := List.idxOf_lt_length_iff.mpr hm
    refine ⟨a, _, .bl c, bs.idxOf c, .bl c, rfl, rfl, hs, rfl, all_flat bs, ?_, by simp [eqV], fun m z' hmj hz => ?_, q ρ F H _ Nx.refl k (.int _)⟩
    · rw [List.getElem?_map, List.getElem?_eq_getElem hj, List.getElem_idxOf]
      rfl
    · rw [List.getElem?_map] at hz
      have hml : m < bs.length := Nat.lt_trans hmj hj
      rw [List.getElem?_eq_getElem hml] at hz
      cases hz
      show (bs[m] == c) = false
      have := List.not_of_lt_findIdx (p := fun b => b == c) hmj
      simpa using this
  · cases ez
end
end Ar

set_option Elab.async false
set_option linter.all false
set_option maxRecDepth 100000
set_option maxHeartbeats 4000000
/-! Ar43: isinstance of a caught error that has a dict; its fields -/
namespace Ar
open PySem PySem.Spec PyProof.Rows L2
section
variable {pr : Program} {ww : World} {AA : Around} {EE : Value → Shared → Prop} {z : Shared} {K : PySem.W.Frag} {e T : Addr} {oe : Obj} {od : Option Obj}
theorem err_found (C : ExcC K T) : PySem.W.findObj K T od "__class__" = some (.bind (.builtin "getset_descriptor.__get__") (.builtin "object.__class__")) := by
  obtain ⟨cd, hc, _⟩ := PySem.W.any_some C.hd
  unfold PySem.W.findObj
  rw [hc, Option.bind_some, C.ha, Option.bind_some]
  simp [C.hn, C.ht]
theorem err_class {D : Option Value → Shared → Prop} (C : ExcC K T) (X : K.In z.heap) (I : PySem.W.InstAt z.heap e oe T od) (q : D (some (.ref T)) { z with toks := z.toks + 1 }) : wpAny (model pr ww) AA (getAttr? (.ref e) "__class__") D EE z := by
  obtain ⟨hh, gg, rr, tt, oo⟩ := z
  have A0 := I.type (M := model pr ww)
  have A1 := PySem.W.looks_findIn (M := model pr ww) X C.hg
  have A2 := PySem.W.looks_findIn (M := model pr ww) X C.hk
  have A3 := PySem.W.looks_find (M := model pr ww) X I (err_found C)
  have un : PySem.W.Looks (model pr ww) hh (isInstance (.ref e) (.type "BaseException")) true := A0.andThen (PySem.W.looks_subIn X C.hs)
  have no2 : (Value.builtin "BaseException.__getattribute__" == Value.builtin "object.__getattribute__") = false := by decide +kernel
  have no1 : (onTheHeap (Value.ref T) && Value.builtin "BaseException.__getattribute__" == Value.builtin "object.__getattribute__") = false := by
    rw [no2]
    rfl
  have no0 : (false && onTheHeap (Value.builtin "BaseException.__getattribute__")) = false := rfl
  unfold getAttr? getAttrBy? getAttrBy
  refine wpAny_bind (wpAny_mkText (wpAny_bind (wpAny_attempt (wpAny_holding (wpAny_bind (A0.at (wpAny_bind (A1.at ?_))))))))
  show wpAny _ _ (if (onTheHeap (Value.ref T) && Value.builtin "BaseException.__getattribute__" == Value.builtin "object.__getattribute__") = true then _ else _) _ _ _
  rw [no1, if_neg Bool.false_ne_true]
  unfold getAttrByItsOwn hookBefore
  refine wpAny_bind ?_
  rw [if_pos (show onTheHeap (Value.ref T) = true from rfl)]
  refine A2.at (wpAny_bind (wpAny_attempt (wpAny_holding ?_)))
  unfold callGetattribute
  rw [no0, if_neg Bool.false_ne_true]
  unfold boundAndCalled
  rw [PySem.F.excAttr_ValueError.ga.bind (.ref e)]
  refine wpAny_bind (wpAny_pure ?_)
  show wpAny _ _ (call (.builtin "BaseException.__getattribute__") [.ref e, .str "__class__" tt]) _ _ _
  refine wpAny_call (codeAny_call_builtin PySem.F.excAttr_ValueError.ga.plain PySem.F.entry_bexc_ga ?_)
  refine @PySem.W.check_slot (model pr ww) _ _ ⟨hh, gg, rr, tt + 1, oo⟩ "BaseException.__getattribute__" "BaseException" "__getattribute__" (.ref e) [.str "__class__" tt] [] _ (by decide +kernel) (by decide +kernel) un (PySem.F.args_bexc_ga (.ref e) (.str "__class__" tt)) ?_
  unfold Builtin.«object.__getattribute__»
  refine wpAny_bind (wpAny_of_eq (a := ((Value.ref e : Value), [Value.str "__class__" tt])) (by first | rfl | (simp only [slotArgs]; rfl)) ?_)
  refine wpAny_bind (wpAny_pure (wpAny_bind (A0.at (wpAny_bind (A3.at ?_)))))
  show wpAny _ _ (holding [Value.builtin "object.__class__"] (call (.builtin "getset_descriptor.__get__") [.builtin "object.__class__", .ref e, .ref T]) >>= ret) _ _ _
  refine wpAny_bind (wpAny_holding (wpAny_call (PySem.W.class_get (s := ⟨hh, gg, rr, tt + 1, oo⟩) (ox := oe) (od := od) X I C.hm ?_)))
  refine wpAny_pure ?_
  show wpAny _ _ (handedOut (.ref T)) _ _ _
  rw [PySem.W.handedOut_of (v := .ref T) rfl]
  first
    | exact wpAny_pure (wpAny_pure q)
    | exact wpAny_pure q
    | exact wpAny_pure (wpAny_bind (wpAny_pure (wpAny_pure q)))
theorem err_kit (C : ExcC K T) : PySem.W.KitX K (.ref e) (.ref T) (fun h => PySem.W.InstAt h e oe T od) where
  ty := fun _ _ _ I => I.type
  it := fun M h => (PySem.W.handS_kitx_exc (x := e) (ox := oe) C.hg C.hk C.hs C.hd C.ha C.hn C.ht C.hm).it M h |> fun f X _ => by
    obtain ⟨cd, hc, _⟩ := PySem.W.any_some C.hd
    unfold PySem.W.clsIn at hc
    split at hc
    · rename_i ho
      intro A' Q' E' s' k q
      unfold isType loadHead
      exact wpAny_bind (wpAny_loadPart (k _ _ (X _ _ ho)) (wpAny_pure q))
    · cases hc
  ne := (PySem.W.handS_kitx_exc (x := e) (ox := oe) C.hg C.hk C.hs C.hd C.ha C.hn C.ht C.hm).ne
  ca := fun X I k => err_class C X I k
end
/-- the classes that the laws ask for -/
def exBase (x : Str) : Str := if x = "UnknownName" ∨ x = "InUse" then "WrongName" else if x = "NoWalk" ∨ x = "NothingToUndo" ∨ x = "Broken" then "NotPossible" else "WrongValue"
def exOwn (x : Str) : String := if x = "UnknownName" ∨ x = "InUse" then "LookupError" else if x = "NoWalk" ∨ x = "NothingToUndo" ∨ x = "Broken" then "ArithmeticError" else "ValueError"
/-- what is asked of the class x of errors: cs own classes, ts the language's -/
structure IsX (K : PySem.W.Frag) (x : Str) (cs : List Str) (ts : List String) : Prop where
  c : ExcC K (He.ga K x)
  own : ∀ y ∈ cs, PySem.W.kitOne K (.ref (He.ga K x)) (.ref (He.ga K y)) = some (decide (y = x ∨ y = exBase x))
  typ : ∀ t ∈ ts, PySem.W.kitOne K (.ref (He.ga K x)) (.type t) = some (decide (t = exOwn x))
def fIsE (x : Str) (cs : List Str) (ts : List String) (a dd : Addr) : Mu → List D → Option D := fun _ ds => match ds with
  | [.exn a' dd' _ _, .glo y] => if a' = a ∧ dd' = dd ∧ y ∈ cs then some (.bl (decide (y = x ∨ y = exBase x))) else none
  | [.exn a' dd' _ _, .ty t] => if a' = a ∧ dd' = dd ∧ t ∈ ts then some (.bl (decide (t = exOwn x))) else none
  | _ => none
theorem cd_isE {X : Cx} {x : Str} {cs : List Str} {ts : List String} {a dd : Addr} (k : IsX X.K x cs ts) (hx : HotX X x a dd) : CallD X (.builtin "isinstance") (fIsE x cs ts a dd) := by
  have one : ∀ (cv : Value) (b : Bool), PySem.W.kitOne X.K (.ref (He.ga X.K x)) cv = some b → ∀ (pins : List (Addr × Obj)) (s : Shared) (σ : L2.St) (H : Hp) (Q : VK) (fs : List (Str × V)), L2.Inv X pins σ H s → H dd = some (.xd fs) → Q (.bl b) H →
      wpAny (model X.prog X.w) X.A (call (.builtin "isinstance") [.ref a, cv]) (EP X pins σ Q) X.xe s := by
    intro cv b e pins s σ H Q fs I hd q
    have hO : ObjOk X.prog X.w H s.heap dd (.xd fs) := I.hok dd _ hd
    obtain ⟨mA, hns, _⟩ := hO
    obtain ⟨od, ho, _⟩ := lookIn_ns hns
    obtain ⟨oe, J⟩ := hx.at I ho
    exact PySem.W.kia_one (err_kit k.c) I.kIn J e (fun z => nomatch z) fun tk => ⟨.bl b, H, I.kept (t' := tk) fun _ _ z => z, rfl, q⟩
  refine ⟨fun xs H Q => ∃ (y : V) (cv : Value) (b : Bool) (fs : List (Str × V)), xs = [.ref a, y] ∧ (∀ u, L2.RelV y u → u = cv) ∧ PySem.W.kitOne X.K (.ref (He.ga X.K x)) cv = some b ∧ H dd = some (.xd fs) ∧ Q (.bl b) H, ?_, ?_⟩
  · intro pins s σ H xs us Q I r ⟨y, cv, b, fs, e1, hcv, e, hd, q⟩
    subst e1
    rcases r with _ | ⟨r1, r2⟩
    rcases r2 with _ | ⟨r2, r3⟩
    cases r3
    cases r1
    have ec := hcv _ r2
    subst ec
    exact one _ b e pins s σ H Q fs I hd q
  · intro ρ F H μ vs ds z k' rv ez Q q
    unfold fIsE at ez
    split at ez
    · rename_i a' dd' f d y
      split at ez
      · rename_i hh
        obtain ⟨rfl, rfl, hy⟩ := hh
        cases ez
        rcases rv with _ | ⟨r1, r2⟩
        rcases r2 with _ | ⟨r2, r3⟩
        cases r3
        cases r2
        cases r1 with
        | exn h1 h2 => exact ⟨_, _, _, _, rfl, fun u hu => hu, k.own y hy, k'.ex _ _ h1, q ρ F H _ Nx.refl k' (.bl _)⟩
      · cases ez
    · rename_i a' dd' f d t
      split at ez
      · rename_i hh
        obtain ⟨rfl, rfl, ht⟩ := hh
        cases ez
        rcases rv with _ | ⟨r1, r2⟩
        rcases r2 with _ | ⟨r2, r3⟩
        cases r3
        cases r2
        cases r1 with
        | exn h1 h2 => exact ⟨_, _, _, _, rfl, fun u hu => hu, k.typ t ht, k'.ex _ _ h1, q ρ F H _ Nx.refl k' (.bl _)⟩
      · cases ez
    · cases ez
/-! ### e.f -/
def dXf (f : Str) (a dd : Addr) (e : DE) : DE := fun Γ μ => (e Γ μ).bind fun x μ1 => match x with
  | .exn a' dd' f' d => if a' = a ∧ dd' = dd ∧ f' = f then .ok d μ1 else .stk
  | _ => .stk
theorem q_xf {X : Cx} {E : XK} {x f : Str} {a dd : Addr} {e : Expr} {de : DE} {pos : Pos} (k : ExcC X.K (He.ga X.K x)) (no : PySem.W.findIn X.K (.ref (He.ga X.K x)) f = some none) (hx : HotX X x a dd) (he : QE X E e de) (hb : attributeBase e f X.env (eval e X.env) = eval e X.env := by rfl) :
    QE X E (.Attribute e f pos) (dXf f a dd de) := by
  obtain ⟨te, e1, e2⟩ := he.ex
  refine ⟨fun σ H Q => te σ H fun y H1 => y = .ref a ∧ ∃ v, H1 dd = some (.xd [(f, v)]) ∧ Q v H1, ⟨fun pins s σ H Q I h => ?_⟩, ?_⟩
  · refine attr_of hb (thn (e1.run pins s σ H _ I h) fun u s1 ⟨y, H1, I1, r1, ey, v, ed, q⟩ => ?_)
    subst ey
    obtain rfl : u = Value.ref a := r1
    have hO : ObjOk X.prog X.w H1 s1.heap dd (.xd [(f, v)]) := I1.hok dd _ ed
    obtain ⟨mA, hns, hr⟩ := hO
    obtain ⟨od, ho, hl⟩ := lookIn_ns hns
    obtain ⟨oe, J⟩ := hx.at I1 ho
    obtain ⟨u, hu, ru⟩ := RelO.some_of (v := v) (o := mA f) (by have := hr f; simpa [List.lookup] using this)
    exact HandSPX.exc_get I1.kIn J k.hg k.hk k.hs (PySem.W.findObj_own k.hd no rfl (by rw [hl, hu])) (handed_of ru) ⟨v, H1, I1.tok _, ru, q⟩
  · intro ρ F H Γ μ σ kk s Q h
    refine e2 ρ F H Γ μ σ kk s _ ((WpR.bind h).mono (fun y μ1 q => ?_) fun _ _ q => q)
    intro ρ1 F1 H1 v n1 k1 r1
    split at q
    · split at q
      · rename_i hh
        obtain ⟨rfl, rfl, rfl⟩ := hh
        cases r1 with
        | exn h1 h2 => exact ⟨rfl, _, k1.ex _ _ h1, q ρ1 F1 H1 _ n1 k1 h2⟩
      · exact False.elim q
    · exact False.elim q
end Ar

set_option Elab.async false
set_option linter.all false
set_option maxRecDepth 100000
set_option maxHeartbeats 4000000
/-! Ar44: try: n = a() / except (..) as e: suite, in a def that got a lambda; that def called -/
namespace Ar
open PySem PySem.Spec PyProof.Rows L2
/-- nothing may fly out -/
abbrev noE : XK := fun _ _ _ => False
abbrev cxZ (P : Program) (w : World) (K : PySem.W.Frag) (mg : Str → Option Value) (base : Heap) (N : List Str) (q : Str) (sc : Scope) (g : Addr) (cd : Value) (A : Around) (o : List Env) (s : Shared) (H : Hp) : Cx := cxOf (L2.CX P w) P w K mg base N q sc g cd A o s H noE
open Classical in
/-- the body is n = a(), the slots stand as Γ1 tells, the suite ends with the class's name and the field -/
noncomputable def dTryA (Γ0 Γ1 : Gam) (de : DE) (tab : List (Str × Str)) (j : Nat) : DS := fun Γ μ => if Γ = Γ1 then (match de Γ0 μ with
  | .ok d μ1 => .nx (Γ.set j (some d)) μ1
  | .exc (x, some (c, d)) μ1 => if (x, c) ∈ tab then .rt (.tup [.str x, d]) μ1 else .stk
  | _ => .stk) else .stk
/-- what comes of it -/
def resE (tab : List (Str × Str)) : R D → R D
  | .ok d μ => .ok (.tup [.str "told", d]) μ
  | .exc (x, some (c, d)) μ => if (x, c) ∈ tab then .ok (.tup [.str x, d]) μ else .stk
  | _ => .stk
section
variable {P : Program} {w : World} {K : PySem.W.Frag} {mg : Str → Option Value} {base : Heap} {N : List Str} {qg : Str} {sg : Scope} {g : Addr} {cd : Value} {A : Around} {o : List Env} {s0 : Shared} {H0 : Hp}
theorem q_tryA {f k : Addr} {q : Str} {σ0 : L2.St} {Γ0 Γ1 : Gam} {de : DE} {tab : List (Str × Str)} {a n nm x1 x2 x3 : Str} {i j : Nat} {suite : List Stmt} {b₀ : Stmt} {ds : Str → Addr → Addr → DS} {p1 p2 p3 pa pb pc pd pt pos pos' : Pos} {kt : Nat}
    (act : ∀ (W : WX) (pn : List (Addr × Obj)) (xe : Value → Shared → Prop) (u1 u2 : Pos), Takes ((cxZ P w K mg base N qg sg g cd A o s0 H0).tr pn xe) W → PE ((cxZ P w K mg base N qg sg g cd A o s0 H0).tr pn xe) (.Call (.Name a u1) [] [] u2) (tAct K 0 f k q σ0 de W))
    (h1 : Γ1[0]? = some (some (.clo f k q σ0 Γ0))) (hnd : N.Nodup) (hix : N[i]? = some n) (hkd : (cxZ P w K mg base N qg sg g cd A o s0 H0).env.kindOf n = some .local) (hjx : N[j]? = some nm) (hjl : Loc sg nm) (hjs : sg.names.lookup nm = some .local)
    (g1 : sg.names.lookup x1 = some .globalImplicit) (g2 : sg.names.lookup x2 = some .globalImplicit) (g3 : sg.names.lookup x3 = some .globalImplicit) (m1 : mg x1 = some (.ref (He.ga K x1))) (m2 : mg x2 = some (.ref (He.ga K x2))) (m3 : mg x3 = some (.ref (He.ga K x3)))
    (d1 : (x1 == ("__debug__" : Str)) = false) (d2 : (x2 == ("__debug__" : Str)) = false) (d3 : (x3 == ("__debug__" : Str)) = false)
    (hex : ∀ x c, (x, c) ∈ tab → PySem.W.exmAny K (.ref (He.ga K x)) [.ref (He.ga K x1), .ref (He.ga K x2), .ref (He.ga K x3)] = some true)
    (hsu : ∀ (x c : Str), (x, c) ∈ tab → ∀ (a dd : Addr) (oe : Obj) (pn : List (Addr × Obj)), HotX ((cxZ P w K mg base N qg sg g cd A o s0 H0).suite a ((a, oe) :: pn)) x a dd → QSs ((cxZ P w K mg base N qg sg g cd A o s0 H0).suite a ((a, oe) :: pn)) noE (b₀ :: suite) (ds x a dd))
    (hres : ∀ (x c : Str), (x, c) ∈ tab → ∀ (a dd : Addr) (d : D) (μ : Mu), ds x a dd (Γ1.set i (some (.exn a dd c d))) μ = .rt (.tup [.str x, d]) μ) :
    QSt (cxZ P w K mg base N qg sg g cd A o s0 H0) noE (.Try [.Assign [.Name nm pc] (.Call (.Name a pa) [] [] pb) pd] [.ExceptHandler (some (.Tuple [.Name x1 p1, .Name x2 p2, .Name x3 p3] kt pt)) (some n) (b₀ :: suite) pos'] [] [] pos) (dTryA Γ0 Γ1 de tab j) := by
  refine ⟨_, ps_try_as3 (X := cxZ P w K mg base N qg sg g cd A o s0 H0) (C1 := He.ga K x1) (C2 := He.ga K x2) (C3 := He.ga K x3) (i := i) (n := n) rfl rfl hnd hix hkd g1 g2 g3 m1 m2 m3 d1 d2 d3 (by rfl) (tb := fun W => tAsg (tAct K 0 f k q σ0 de W) (gName j))
    (ts := fun a cls d Dn σ H => ∃ x c dd, (x, c) ∈ tab ∧ cls = .ref (He.ga K x) ∧ d = some dd ∧ ∃ ρ F μ Γ, HpOk K ρ μ F H ∧ Slots K ρ F Γ σ ∧ WpS (ds x a dd Γ μ) (QS K noE ρ F H Dn)) (fun W pn xe tk _ => ?_) (fun a oe cls d pn hz hf => ?_), ?_⟩
  · exact pss_one (ps_set (X := (cxZ P w K mg base N qg sg g cd A o s0 H0).tr pn xe) hnd hjx hjl (act W pn xe _ _ tk) rfl (.inr hjs))
  · refine ⟨fun pins s σ H D I ⟨x, c, dd, ht, e1, e2, ρ, F, μ, Γ, k1, s1, hw⟩ => ?_⟩
    subst e1
    subst e2
    obtain ⟨t, ht1, ht2⟩ := (hsu x c ht a dd oe pn ⟨oe, List.mem_cons_self, hz, hf⟩).ex
    exact ht1.run pins s σ H D I (ht2 ρ F H Γ μ σ k1 s1 D hw)
  · intro ρ F H Γ μ σ k1 sl Dn h
    unfold dTryA at h
    split at h
    · rename_i eΓ
      subst eΓ
      obtain ⟨v, hv, r⟩ := sl.at_ 0 _ h1
      cases r with
      | clo c1 c2 =>
        refine ⟨hv, k1.ex _ _ c1, ρ, F, μ, Γ0, k1, c2.slots, ?_⟩
        cases hd : de Γ0 μ with
        | stk => rw [hd] at h; exact False.elim h
        | ok d μ1 =>
          rw [hd] at h
          exact fun ρ1 F1 H1 v n1 k2 r => h ρ1 F1 H1 _ n1 k2 ((sl.nx n1).set r j)
        | exc e μ1 =>
          rw [hd] at h
          obtain ⟨x, _ | ⟨c, d⟩⟩ := e
          · exact False.elim h
          · by_cases ht : (x, c) ∈ tab
            · have h : WpS (if (x, c) ∈ tab then RS.rt (.tup [.str x, d]) μ1 else .stk) (QS K noE ρ F H Dn) := h
              rw [if_pos ht] at h
              intro ρ1 F1 H1 n1 k2 dd v e1 e2
              refine ⟨hex x c ht, fun a _ => ⟨x, c, dd, ht, rfl, rfl, ρ1, F1, μ1, Γ.set i (some (.exn a dd c d)), k2, (sl.nx n1).set (.exn e1 e2) i, ?_⟩⟩
              rw [hres x c ht]
              exact fun ρ2 F2 H2 v n2 k3 r3 => h ρ2 F2 H2 v (n1.trans n2) k3 r3
            · have h : WpS (if (x, c) ∈ tab then RS.rt (.tup [.str x, d]) μ1 else .stk) (QS K noE ρ F H Dn) := h
              rw [if_neg ht] at h
              exact False.elim h
    · exact False.elim h
end
end Ar

set_option Elab.async false
set_option linter.all false
set_option maxRecDepth 100000
set_option maxHeartbeats 4000000
/-! Ar45: x(lambda: e), x a def that calls what it gets, once, in a try -/
namespace Ar
open PySem PySem.Spec PyProof.Rows L2
/-- the def x: what comes of its parameter's answer is told by resE -/
structure EndG (P : Program) (w : World) (K : PySem.W.Frag) (mg : Str → Option Value) (base : Heap) (x : Str) (lv : Nat) (tab : List (Str × Str)) : Prop where
  ex : ∃ (g : Addr) (fd : FuncData) (params : Arguments) (body : List Stmt) (sc : Scope) (N : List Str) (a : Str), mg x = some (.ref g) ∧ FunD K x x params body sc [] [] g fd ∧ Binds K fd [a] [] ∧ FnScope N [a] sc ∧ N[0]? = some a ∧ Vis sc a ∧ (a == ("__debug__" : Str)) = false ∧ (a == ("__classdict__" : Str)) = false ∧
    ∀ (cd : Value) (A : Around) (o : List Env) (s : Shared) (H : Hp) (f k : Addr) (q : Str) (σ0 : L2.St) (Γ0 : Gam) (de : DE), RoomG lv (A.deeper (envOfC x sc s.heap.objs.size g cd)) →
      (∀ (W : WX) (pn : List (Addr × Obj)) (xe : Value → Shared → Prop) (u1 u2 : Pos), Takes ((cxZ P w K mg base N x sc g cd A o s H).tr pn xe) W → PE ((cxZ P w K mg base N x sc g cd A o s H).tr pn xe) (.Call (.Name a u1) [] [] u2) (tAct K 0 f k q σ0 de W)) →
      ∃ db, QSs (cxZ P w K mg base N x sc g cd A o s H) noE body db ∧ ∀ μ, (db ([D.clo f k q σ0 Γ0].map some ++ List.replicate (N.length - 1) none) μ).fin = resE tab (de Γ0 μ)
/-- x(lambda: e), the lambda's table the place t -/
def dLam (t : Nat) (P : Addr) (q : Str) (tab : List (Str × Str)) (de : DE) : DE := fun Γ μ => match μ[t]? with
  | some (.tab P' q') => if P' = P ∧ q' = q then resE tab (de Γ μ) else .stk
  | _ => .stk
theorem q_lam {X : Cx} {E : XK} {x : Str} {lv j t : Nat} {tab : List (Str × Str)} {de : DE} {c P : Addr} {ar : Arguments} {b : Expr} {sc : Scope} {p lp pos : Pos} (G : EndG X.prog X.w X.K X.mg X.base x lv tab) (B : LamX.TabB X.base X.mg c P) (ec : X.env.code = .ref c) (hr : RoomG (lv + 1) X.A) (hj : j + 1 ≤ lv)
    (L : LamX.LamS X.env.scope sc) (nd : defaultsOf ar X.env = ([], [])) (bi : ∀ (q : Str) (cl : List (Str × Addr)) (pm cv ctv : Value), bindArgs (PySem.W.kla_fn "<lambda>" q ar b sc cl pm cv ctv) ⟨[], []⟩ = pure [])
    (hb : ∀ (A : Around) (o : List Env) (s : Shared) (H : Hp) (E : XK) (f k : Addr), RoomG j (A.deeper (LamX.lamEnv X sc s.heap.objs.size f k)) → QE (LamX.lamCx X A o s H E sc f k) E b de) (hg : Gl X x := by rfl) (hdb : (x == ("__debug__" : Str)) = false := by decide) :
    QE X E (.Call (.Name x p) [.Lambda ar b sc lp] [] pos) (dLam t P (lamQ X) tab de) := by
  obtain ⟨g, fd, params, body, sg, N, a, hm, F, bd, Sg, hN, hv, d1, d2, go⟩ := G.ex
  obtain ⟨oc, od, dV, kV, doc, pm, an, cdv, ct, osl, rfl, lk, hcd, _, _⟩ := F.ex
  refine ⟨fun σ H Q => ∃ ρ F μ Γ, HpOk X.K ρ μ F H ∧ Slots X.K ρ F Γ σ ∧ μ[t]? = some (.tab P (lamQ X)) ∧ WpR (resE tab (de Γ μ)) (QV X.K ρ F H Q) (XP X.K noE ρ F H), ⟨fun pins s σ H Q I h => ?_⟩, ?_⟩
  · obtain ⟨ρ, F0, μ, Γ, k1, sl, et, h⟩ := h
    obtain ⟨_, _, ps, hP, ht, old⟩ := tab_at k1 et
    refine wpAny_Call_Name_kw (ld_glob I hg hm ?_ hdb)
    refine PySem.W.callWith_K (h₀ := X.base) I.ok.mod.kin F.kp ?_ (by rfl) (by rfl)
    show wpAny _ _ (spliced ((false, eval (.Lambda ar b sc lp) X.env) :: backTo pos (starEach [] X.env))) _ _ s
    refine Calls.spliced_cons (lam_mk I B ec hP ht (fun p v hv => by obtain ⟨c0, e1, e2⟩ := old p v hv; exact ⟨c0, e1, k1.ex _ _ e2⟩) nd (L.has I.ok) fun f k pm' ctv G z J tb hf hfn hfr => Calls.spliced_nil ⟨J.kIn, ?_⟩)
    obtain ⟨F1, k2, n1, hk⟩ := tab_grow k1 et hP tb
    have rc : codeAny (model X.prog X.w) X.A (.call (.ref g) ⟨[.ref f], []⟩) (CR (L2.CX X.prog X.w) X.stack X.prog X.w G z Q noE) z := by
      refine LamX.run_ofS (N := N) (ps := [a]) (us := [.ref f]) (vs := [.ref f]) lk hcd Sg hr.r J.env0 (by have := bd z [.ref f] J.kIn rfl; rwa [List.append_nil] at this) (.cons rfl .nil) rfl fun hr' => ?_
      have hrg : RoomG lv (X.A.deeper (envOfC x sg z.heap.objs.size g cdv)) := ⟨hr', hr.g⟩
      obtain ⟨db, hq, hres⟩ := go cdv X.A X.stack z G f k (lamQ X) σ Γ de hrg fun W pn xe u1 u2 tk => pe_act (j := j) (i := 0) J L hf hfn hfr (bi _ _ _ _ _) tk (hrg.mono hj) (fun A o s H E hr2 => hb A o s H E f k hr2) hN hv d1 d2
      obtain ⟨t', t1, t2⟩ := hq.ex
      refine ⟨t', t1, ?_⟩
      have rd : DnAll X.K ρ F1 [V.ref f] [D.clo f k (lamQ X) σ Γ] := .cons (.clo hk (sl.nx n1).dno) .nil
      refine t2 ρ F1 G _ μ _ k2 (slots_start rd) _ ?_
      have h2 := hres μ
      have h3 : WpR ((db ([D.clo f k (lamQ X) σ Γ].map some ++ List.replicate (N.length - 1) none) μ).fin) (QV X.K ρ F1 G Q) (XP X.K noE ρ F1 G) := by
        rw [h2]
        exact h.mono (fun d μ1 q => QV.nx n1 q) fun e μ1 q => XP.nx n1 q
      show WpS (db ([D.clo f k (lamQ X) σ Γ].map some ++ List.replicate (N.length - 1) none) μ) _
      cases hdb : db ([D.clo f k (lamQ X) σ Γ].map some ++ List.replicate (N.length - 1) none) μ with
      | nx Γ2 μ1 => rw [hdb] at h3; exact fun ρ1 F2 H1 σ1 n2 k3 s1 => h3 ρ1 F2 H1 .non n2 k3 .non
      | rt d μ1 => rw [hdb] at h3; exact h3
      | bk Γ2 μ1 => rw [hdb] at h3; exact False.elim h3
      | ct Γ2 μ1 => rw [hdb] at h3; exact False.elim h3
      | exc e μ1 => rw [hdb] at h3; exact h3
      | stk => rw [hdb] at h3; exact False.elim h3
    refine wpAny_call (codeAny_mono rc fun r s2 hq => ?_)
    match r, hq with
    | .error err, hq => exact passes_call LamX.takes0 (fun _ _ _ _ w => False.elim w) pins σ G z err s2 J hq
    | .ok (.ret u), hq => exact J.after hq
  · intro ρ F0 H Γ μ σ k1 sl Q h
    unfold dLam at h
    split at h
    · rename_i P' q' et
      split at h
      · rename_i hh
        obtain ⟨rfl, rfl⟩ := hh
        refine ⟨ρ, F0, μ, Γ, k1, sl, et, ?_⟩
        have key : ∀ r : R D, WpR (resE tab r) (QV X.K ρ F0 H Q) (XP X.K E ρ F0 H) → WpR (resE tab r) (QV X.K ρ F0 H Q) (XP X.K noE ρ F0 H) := fun r w => by
          cases r with
          | ok d μ1 => exact w
          | stk => exact w
          | exc e μ1 =>
            obtain ⟨x, _ | ⟨c, d⟩⟩ := e
            · exact w
            · have w : WpR (if (x, c) ∈ tab then R.ok (D.tup [.str x, d]) μ1 else .stk) (QV X.K ρ F0 H Q) (XP X.K E ρ F0 H) := w
              show WpR (if (x, c) ∈ tab then R.ok (D.tup [.str x, d]) μ1 else .stk) _ _
              by_cases ht : (x, c) ∈ tab
              · rw [if_pos ht] at w ⊢
                exact w
              · rw [if_neg ht] at w
                exact False.elim w
        exact key _ h
      · exact False.elim h
    · exact False.elim h
end Ar

set_option Elab.async false
set_option linter.all false
set_option maxRecDepth 100000
set_option maxHeartbeats 4000000
/-! Ar46: the law's end where defs make lambdas: tables of codes -/
namespace Ar
open PySem PySem.Spec PyProof.Rows L2
abbrev mtO : Obj := { cls := .none, data := .fields #[] }
theorem law_callT {P : Program} {w : World} {K : PySem.W.Frag} {mg mb : Str → Option Value} {Z : CXT} {k : Nat} {fa a : Addr} {cs : List (Addr × Addr)} {fd : FuncData} {x : Str} {sp : Sp} {s₁ : Shared} {vs : List Value} {ns : List Int}
    (KX : K.In s₁.heap) (n1 : s₁.heap.Ns mainGlobals mg) (n2 : s₁.heap.Ns builtinsNs mb) (n3 : ∀ y : Str, y ≠ "__name__" → mb y = bootBuiltins y) (n4 : s₁.heap.NoLimit) (n5 : s₁.gens = #[])
    (e1 : ∀ p ∈ cs, s₁.heap.get? p.2 = some mtO) (e2 : ∀ p ∈ cs, K.lookup p.2 = none) (e3 : ∀ p ∈ cs, PySem.W.CodeHd s₁.heap p.1 p.2)
    (e4 : ∃ (bm : Addr) (ob : Obj), mg "__builtins__" = some (.ref bm) ∧ bm ≠ builtinsNs ∧ s₁.heap.get? bm = some ob ∧ ob.cls = .type "module" ∧ ob.dict = some builtinsNs ∧ ob.data = .plain)
    (ha : s₁.heap.get? a = some { cls := .type "list", data := .seq vs.toArray }) (hi : IntsAre vs ns) (hl : ns.length ≤ sizeLine) (hr : RoomG k callerA)
    (F : ∀ base : Heap, K.In base → base.Ns mainGlobals mg → (∀ p ∈ cs, LamX.TabB base mg p.1 p.2) → Pm P w K mg base Z k fa fd [x] sp) (bi : ∀ (s : Shared) (u : Value), BindsTo s fd ⟨[u], []⟩ [(x, u)])
    (hs : ∀ H : Hp, (∀ p ∈ cs, H p.2 = some (.tbl #[])) → SqL K H a (ns.map V.int) → sp [.ref a] H (fun v _ => v = .bl true) fun _ _ _ => False) (hZ : ∀ H e s', Z [] H s₁ (fun _ _ _ => False) e s' → False) :
    codeAny (model P w) callerA (.call (.ref fa) ⟨[.ref a], []⟩) (fun r s' => r = .ok (.ret (.bool true)) ∧ OldK s₁.heap s'.heap ∧ s'.os = s₁.os ∧ AllBare s'.gens) s₁ := by
  classical
  have rv := vals_ints hi
  have lv := hi.length
  let T : List Addr := cs.map (·.2)
  have inT : ∀ {b : Addr}, b ∈ T → ∃ p ∈ cs, p.2 = b := fun {b} h => by
    obtain ⟨p, h1, h2⟩ := List.mem_map.mp h
    exact ⟨p, h1, h2⟩
  have toT : ∀ {p : Addr × Addr}, p ∈ cs → p.2 ∈ T := fun {p} h => List.mem_map.mpr ⟨p, h, rfl⟩
  have tabAt : ∀ {b : Addr}, b ∈ T → s₁.heap.get? b = some mtO := fun {b} h => by
    obtain ⟨p, h1, h2⟩ := inT h
    rw [← h2]
    exact e1 p h1
  have noKT : ∀ {b : Addr}, b ∈ T → K.lookup b = none := fun {b} h => by
    obtain ⟨p, h1, h2⟩ := inT h
    rw [← h2]
    exact e2 p h1
  have aT : a ∉ T := fun h => by
    have := (tabAt h).symm.trans ha
    injection this with z
    have z2 := congrArg Obj.data z
    cases z2
  have core : ∀ H : Hp, (∀ b ∈ T, H b = some (.tbl #[])) → (∀ b, H b = none ∨ b ∈ T ∨ ∃ o xs, H b = some (.frz o (.lst xs))) → SqL K H a (ns.map V.int) → HOk P w H s₁.heap → (∀ b, H b ≠ none → (b = a ∧ K.lookup a = none) ∨ b ∈ T) →
      codeAny (model P w) callerA (.call (.ref fa) ⟨[.ref a], []⟩) (fun r s' => r = .ok (.ret (.bool true)) ∧ OldK s₁.heap s'.heap ∧ s'.os = s₁.os ∧ AllBare s'.gens) s₁ := by
    intro H hT hO hS ok hA
    have n0 : ∀ {b : Addr} {o : Obj}, s₁.heap.get? b = some o → (b = a → K.lookup a = none → False) → o ≠ mtO → H b = none := fun {b} {o} e h1 h2 => by
      refine Classical.byContradiction fun q => ?_
      rcases hA b q with z | z
      · exact h1 z.1 z.2
      · exact h2 (Option.some.inj (e.symm.trans (tabAt z)))
    have data : ∀ {b : Addr} {o : Obj}, s₁.heap.get? b = some o → (∀ xs m, o.data ≠ .seq xs m) → o.data ≠ .fields #[] → H b = none := fun {b} {o} e h1 h2 => n0 e (fun z _ => by
      subst z
      rw [ha] at e
      cases e
      exact h1 _ _ rfl) fun z => h2 (by rw [z])
    have dict : ∀ {b : Addr} {o : Obj} {es : Array DictEntry} {ep : Nat}, s₁.heap.get? b = some o → o.data = .dict es ep → H b = none := fun e d => data e (fun _ _ => by rw [d]; simp) (by rw [d]; simp)
    have nsK : ∀ {b : Addr} {m : Str → Option Value}, s₁.heap.Ns b m → (hidT s₁.heap H).Ns b m := by
      rintro b m ⟨o, es, ep, e, d, r⟩
      exact ⟨o, es, ep, hidT_get e (dict e d), d, r⟩
    have hKb : K.In (hidT s₁.heap H) := fun b o e => hidT_get (KX b o e) (by
      refine Classical.byContradiction fun q => ?_
      rcases hA b q with z | z
      · rw [z.1, z.2] at e
        cases e
      · rw [noKT z] at e
        cases e)
    have hM : L2.Mod K mg (hidT s₁.heap H) := by
      obtain ⟨mc, z1, z2⟩ := n4
      exact ⟨hKb, nsK n1, ⟨mb, nsK n2, n3⟩, ⟨mc, nsK z1, z2⟩⟩
    have TB : ∀ p ∈ cs, LamX.TabB (hidT s₁.heap H) mg p.1 p.2 := by
      intro p hp
      constructor
      · obtain ⟨o, us, file, tf, flags, tg, inF, text, tt, c1, c2, c3, c4, c5⟩ := e3 p hp
        refine ⟨o, us, file, tf, flags, tg, inF, text, tt, hidT_get c1 (data c1 (fun xs m => by rw [c3]; simp) fun z => ?_), c2, c3, c4, c5⟩
        rw [c3] at z
        injection z with z
        rw [z] at c4
        simp at c4
      · obtain ⟨bm, ob, b1, b2, b3, b4, b5, b6⟩ := e4
        have plain : H bm = none := data b3 (fun xs m => by rw [b6]; simp) (by rw [b6]; simp)
        refine ⟨bm, ob, b1, b2, fun q => ?_, fun q => ?_, hidT_get b3 plain, b4, b5, b6⟩
        · obtain ⟨o, es, ep, g1, g2, _⟩ := n1
          rw [q, g1] at b3
          cases b3
          rw [g2] at b6
          cases b6
        · rw [q, e1 p hp] at b3
          cases b3
          cases b6
      · intro q
        obtain ⟨o, es, ep, g1, g2, _⟩ := n1
        rw [q, e1 p hp] at g1
        cases g1
        cases g2
    have e0 : Env0 P w K mg (hidT s₁.heap H) callerA [] s₁ H := ⟨rfl, hM, fun _ _ e => of_hidT e, by rw [hidT_size]; exact Nat.le_refl _, trivial, fun b z => (List.not_mem_nil z).elim, ok, AllBare.of_eq n5⟩
    refine codeAny_mono ((F _ hKb (nsK n1) TB).go callerA [] s₁ H ⟨[.ref a], []⟩ [.ref a] [.ref a] _ _ hr e0 (bi s₁ _) (.cons rfl .nil) (hs H (fun p hp => hT _ (toT hp)) hS)) fun r s' h => ?_
    rcases r with e | fl
    · exact (hZ H e s' h).elim
    · cases fl with
      | brk => exact h.elim
      | cont => exact h.elim
      | next => exact h.elim
      | ret u => ?_
      obtain ⟨v, H', os, bare, un, ok', r', q⟩ := h
      cases (show v = V.bl true from q)
      obtain rfl : u = Value.bool true := r'
      have stays : ∀ b o, b ∉ T → s₁.heap.get? b = some o → s'.heap.get? b = some o := fun b o nb e => by
        rcases hO b with q | q | ⟨ob, xs, q⟩
        · exact un.keep b o e q (fun z => (List.not_mem_nil z).elim) (by simp)
        · exact (nb q).elim
        · have g1 := (ok b _ q).1
          rw [e] at g1
          cases g1
          exact (ok' b _ (un.frzs b _ _ q)).1
      have grows : ∀ p ∈ cs, ∃ more : Array Value, s'.heap.get? p.2 = some { cls := .none, data := .fields more } := fun p hp => by
        obtain ⟨more, z⟩ := un.tbls p.2 #[] (hT _ (toT hp))
        exact ⟨_, ok' p.2 _ z⟩
      refine ⟨rfl, ⟨fun b o e => ?_, fun b o e => ?_⟩, os, bare⟩
      · by_cases hb : b ∈ T
        · obtain ⟨p, hp, rfl⟩ := inT hb
          obtain ⟨more, hm⟩ := grows p hp
          rw [e1 p hp] at e
          cases e
          exact .inr (.inl ⟨((e3 p hp).tab (e1 p hp)).isCodeTable, rfl, #[], more, rfl, by rw [Array.empty_append]; exact hm⟩)
        · exact .inl (stays b o hb e)
      · by_cases hb : b ∈ T
        · obtain ⟨p, hp, rfl⟩ := inT hb
          obtain ⟨more, hm⟩ := grows p hp
          exact ⟨_, hm⟩
        · exact ⟨o, stays b o hb e⟩
  let B : Hp := fun b => if b ∈ T then some (.tbl #[]) else none
  have bT : ∀ b ∈ T, B b = some (.tbl #[]) := fun b h => if_pos h
  have bN : ∀ b, b ∉ T → B b = none := fun b h => if_neg h
  have isB : ∀ b u, B b = some u → b ∈ T ∧ u = .tbl #[] := fun b u h => by
    by_cases q : b ∈ T
    · rw [bT b q] at h
      exact ⟨q, (Option.some.inj h).symm⟩
    · rw [bN b q] at h
      cases h
  cases hk : K.lookup a with
  | some o =>
    have e := KX a o hk
    rw [ha] at e
    cases e
    refine core B bT (fun b => ?_) (.inr ⟨_, vs.toArray, _, hk, rfl, rfl, rfl, by rw [List.size_toArray, lv]; exact hl, by simpa using rv⟩) (fun b u z => ?_) fun b z => ?_
    · by_cases q : b ∈ T
      · exact .inr (.inl q)
      · exact .inl (bN b q)
    · obtain ⟨q, rfl⟩ := isB b u z
      exact tabAt q
    · obtain ⟨u, q⟩ := Option.ne_none_iff_exists'.mp z
      exact .inr (isB b u q).1
  | none =>
    have G : ∀ b, upd B a (.frz { cls := .type "list", data := .seq vs.toArray } (.lst (ns.map V.int))) b ≠ none → b = a ∨ b ∈ T := fun b z => by
      by_cases q : b = a
      · exact .inl q
      · rw [upd_ne q] at z
        obtain ⟨u, q2⟩ := Option.ne_none_iff_exists'.mp z
        exact .inr (isB b u q2).1
    refine core (upd B a (.frz { cls := .type "list", data := .seq vs.toArray } (.lst (ns.map V.int)))) (fun b h => ?_) (fun b => ?_) (.inl (.inr ⟨_, upd_same⟩)) (fun b u z => ?_) fun b z => (G b z).imp (fun q => ⟨q, hk⟩) id
    · rw [upd_ne fun q => aT (by rw [← q]; exact h)]
      exact bT b h
    · by_cases q : b = a
      · subst q
        exact .inr (.inr ⟨_, _, upd_same⟩)
      · by_cases q2 : b ∈ T
        · exact .inr (.inl q2)
        · exact .inl (by rw [upd_ne q]; exact bN b q2)
    · by_cases q : b = a
      · subst q
        rw [upd_same] at z
        cases z
        exact ⟨ha, by rw [List.length_map]; exact hl, vs, _, rv, ha⟩
      · rw [upd_ne q] at z
        obtain ⟨q2, rfl⟩ := isB b u z
        exact tabAt q2
end Ar

set_option Elab.async false
set_option linter.all false
set_option maxRecDepth 100000
set_option maxHeartbeats 4000000
/-! Ar47: the law's end with tables, joined; the head's hook that leaves empty tables out -/
namespace Ar
open PySem PySem.Spec PyProof.Rows L2
theorem law_endT {K : PySem.W.Frag} {m : Fn} {n : Nat} {Ts : List (Addr × Str)} (nd : (Ts.map (·.1)).Nodup) (hm : ∀ ns : List Int, ns.length ≤ n → ∃ μ, m [.scr (ns.map .int)] (Ts.map fun p => .tab p.1 p.2) = .ok (.bl true) μ) (H : Hp) (hT : ∀ p ∈ Ts, H p.1 = some (.tbl #[]))
    (a : Addr) (ns : List Int) (hl : ns.length ≤ n) (hS : SqL K H a (ns.map V.int)) : spM K m [.ref a] H (fun v _ => v = .bl true) fun _ _ _ => False := by
  classical
  obtain ⟨μ, e⟩ := hm ns hl
  let F : Hp := fun b => if b ∈ Ts.map (·.1) then none else H b
  have hd : ∀ ns : List Int, DnAll K (Ts.map (·.1)) F (ns.map V.int) (ns.map D.int) := by
    intro ns
    induction ns with
    | nil => exact .nil
    | cons i ns ih => exact .cons (.int i) ih
  have out : ∀ b ∈ Ts.map (·.1), H b = some (.tbl #[]) := fun b h => by
    obtain ⟨p, h1, h2⟩ := List.mem_map.mp h
    rw [← h2]
    exact hT p h1
  have Fs : SqL K F a (ns.map V.int) := by
    have keep : ∀ u, H a = some u → u ≠ .tbl #[] → F a = some u := fun u h1 h2 => by
      by_cases q : a ∈ Ts.map (·.1)
      · exact absurd (Option.some.inj (h1.symm.trans (out a q))) h2
      · exact (if_neg q).trans h1
    rcases hS with (h | ⟨o, h⟩) | h
    · exact .inl (.inl (keep _ h (fun z => by cases z)))
    · exact .inl (.inr ⟨o, keep _ h (fun z => by cases z)⟩)
    · exact .inr h
  refine ⟨Ts.map (·.1), F, Ts.map fun p => .tab p.1 p.2, [.scr (ns.map .int)], ⟨fun b o h => ?_, by simp, nd, fun i b o h1 h2 => ?_⟩, .cons (.scr Fs (hd ns)) .nil, ?_⟩
  · by_cases q : b ∈ Ts.map (·.1)
    · have h : (if b ∈ Ts.map (·.1) then none else H b) = some o := h
      rw [if_pos q] at h
      cases h
    · have h : (if b ∈ Ts.map (·.1) then none else H b) = some o := h
      rwa [if_neg q] at h
  · rw [List.getElem?_map] at h1 h2
    cases hp : Ts[i]? with
    | none => rw [hp] at h1; cases h1
    | some p =>
      rw [hp] at h1 h2
      cases h1
      cases h2
      have hm2 : p ∈ Ts := List.mem_of_getElem? hp
      exact ⟨rfl, if_pos (List.mem_map.mpr ⟨p, hm2, rfl⟩), #[], hT p hm2, True.intro, fun pos cv hc => by
        have z : codeAmong pos [] = some cv := hc
        simp [codeAmong] at z⟩
  · rw [e]
    intro ρ F' H' v _ _ r
    cases r
    rfl
theorem walkT {l : PySem.W.OpenLaw} {n k : Nat} {q : Program} {loose : List Str} {XP : (Str → Option Value) → Heap → Prop} {YP : World → Heap → Prop} {d : DefRec} {x : Str} (hn : l.most = some n) (hn2 : n ≤ sizeLine) (hdf : d.params.defaults = []) (hr : RoomG k callerA)
    (F : ∀ (w : World) (mg : Str → Option Value) (fa : Addr) (h : Heap), YP w h → h.Ns mainGlobals mg → mg d.name = some (.ref fa) →
      ∃ (K : PySem.W.Frag) (fd : FuncData) (m : Fn) (cs : List (Addr × Addr)) (Ts : List (Addr × Str)), K.In h ∧ (∀ p ∈ cs, h.get? p.2 = some mtO) ∧ (∀ p ∈ cs, K.lookup p.2 = none) ∧ (∀ p ∈ cs, PySem.W.CodeHd h p.1 p.2) ∧ Ts.map (·.1) = cs.map (·.2) ∧ (Ts.map (·.1)).Nodup ∧
        (∀ (s : Shared) (u : Value), BindsTo s fd ⟨[u], []⟩ [(x, u)]) ∧ (∀ ns : List Int, ns.length ≤ n → ∃ μ, m [.scr (ns.map .int)] (Ts.map fun p => .tab p.1 p.2) = .ok (.bl true) μ) ∧
        ∀ base : Heap, K.In base → base.Ns mainGlobals mg → (∀ p ∈ cs, LamX.TabB base mg p.1 p.2) → Pm l.prog w K mg base (L2.CX l.prog w) k fa fd [x] (spM K m)) :
    PySem.W.WalkO q loose XP YP l.row.toRowW d [] (fun f vs => PySem.call f vs) := by
  refine Att.attach_callB hn hdf fun w s₀ s₁ mg mb fa o pm cd doc a vs ns G Y ho hd hcd hmg hobj hints hlen hbits hg => ?_
  obtain ⟨K, fd, m, cs, Ts, KX, t1, t2, t3, t4, t5, hb, hm, hF⟩ := F w mg fa _ Y G.T.g hmg
  refine law_callT KX G.T.g G.T.b G.T.builtins G.T.nolimit hg t1 t2 t3 G.T.bmain hobj hints (Nat.le_trans hlen hn2) hr hF hb (fun H hH hS => law_endT t5 hm H (fun p hp => ?_) a ns hlen hS) fun H e s' => cx_end H s₁ e s'
  have h2 : p.1 ∈ cs.map (·.2) := by rw [← t4]; exact List.mem_map.mpr ⟨p, hp, rfl⟩
  obtain ⟨c, h3, h4⟩ := List.mem_map.mp h2
  rw [← h4]
  exact hH c h3
/-! ### the head -/
/-- tf: the defs that make lambdas -/
structure SaysW (fa : List He.Fa) (fn : List He.DefD) (ts : List He.Tab) (wr : List WrD) (tf : List He.Defn) (ex : PySem.W.Frag → Bool) (w : World) (h : Heap) (K : PySem.W.Frag) : Prop where
  z : SaysZ fa fn ts wr ex w K
  hd : ∀ p ∈ tf, PySem.W.codeHdIn K (He.cT K p).1 (He.cT K p).2 = true
  out : ∀ p ∈ tf, K.lookup (He.cT K p).2 = none
  mt : ∀ p ∈ tf, h.get? (He.cT K p).2 = some mtO
def tbOk (g : Addr → Option Obj) (K : PySem.W.Frag) (p : He.Defn) : Bool := PySem.W.codeHdIn K (He.cT K p).1 (He.cT K p).2 && ((g (He.cT K p).2).map He.emptyTab).getD false
def obsWG (as : List Addr) (fa : List He.Fa) (fn : List He.DefD) (ts : List He.Tab) (wr : List WrD) (tf : List He.Defn) (ex : PySem.W.Frag → Bool) (g : Addr → Option Obj) : AlZ × Bool := (obsZ fa fn ts wr ex (He.frT g as), tf.all fun p => tbOk g (He.frT g as) p)
def hookW (as : List Addr) (fa : List He.Fa) (fn : List He.DefD) (ts : List He.Tab) (wr : List WrD) (tf : List He.Defn) (ex : PySem.W.Frag → Bool) : PySem.W.Hook where
  α := AlZ × Bool
  obs := fun s => obsWG as fa fn ts wr tf ex s.heap.get?
  val := fun w => (valZ fn ts wr w, true)
  says := fun w h => ∃ K : PySem.W.Frag, K.In h ∧ SaysW fa fn ts wr tf ex w h K
  of := fun w s e => by
    have h1 : obsZ fa fn ts wr ex (He.frT s.heap.get? as) = valZ fn ts wr w := congrArg (fun z : AlZ × Bool => z.1) e
    have h2 : (tf.all fun p => tbOk s.heap.get? (He.frT s.heap.get? as) p) = true := congrArg (fun z : AlZ × Bool => z.2) e
    have key : ∀ p ∈ tf, PySem.W.codeHdIn (He.frT s.heap.get? as) (He.cT (He.frT s.heap.get? as) p).1 (He.cT (He.frT s.heap.get? as) p).2 = true ∧ ∃ o, s.heap.get? (He.cT (He.frT s.heap.get? as) p).2 = some o ∧ He.emptyTab o = true := fun p hp => by
      obtain ⟨h3, h4⟩ := He.ba (List.all_eq_true.mp h2 p hp)
      refine ⟨h3, ?_⟩
      cases q : s.heap.get? (He.cT (He.frT s.heap.get? as) p).2 with
      | none => rw [q] at h4; cases h4
      | some o => rw [q] at h4; exact ⟨o, rfl, h4⟩
    refine ⟨_, He.frT_in, h1, fun p hp => (key p hp).1, fun p hp => ?_, fun p hp => ?_⟩
    · obtain ⟨_, o, q1, q2⟩ := key p hp
      exact He.frT_none q1 q2
    · obtain ⟨_, o, q1, q2⟩ := key p hp
      rw [q1, He.emptyTab_eq q2]
  keeps := fun _ _ _ ⟨K, hK, c⟩ k => ⟨K, PySem.W.Frag.In.keeps hK k, c.z, c.hd, c.out, fun p hp => k _ _ (c.mt p hp)⟩
end Ar

set_option Elab.async false
set_option linter.all false
set_option maxRecDepth 100000
set_option maxHeartbeats 4000000
/-! Ar48: facts of errors' classes; a def whose code object is told -/
namespace Ar
open PySem PySem.Spec PyProof.Rows L2
def oexA (K : PySem.W.Frag) (C : Addr) : Bool := match K.lookup C with
  | some ⟨.type t, _, .cls ⟨_, _, .ref c :: bm, _, _, true, _, _, _, _, false⟩, ⟨[_, _, _, _, some (.builtin i), _]⟩⟩ => decide (t = "type") && (decide (c = C) && (PySem.HandSPX.refsVE bm && decide (i = "ValueError.__new__")))
  | _ => false
def oexB (K : PySem.W.Frag) (C : Addr) : Bool := oexA K C && (decide (PySem.W.findIn K (.ref C) "__setattr__" = some (some (.builtin "object.__setattr__"))) && (decide (PySem.W.subIn K (.ref C) (.type "BaseException") = some true) && (decide (PySem.W.typeIn K (.ref C) = some (.type "type")) && PySem.W.keepIn K (.ref C))))
theorem oexB_ok {K : PySem.W.Frag} {C : Addr} (h : oexB K C = true) : OexC K C := by
  obtain ⟨h0, h⟩ := He.ba h
  obtain ⟨h1, h⟩ := He.ba h
  obtain ⟨h2, h⟩ := He.ba h
  obtain ⟨h3, h4⟩ := He.ba h
  refine ⟨?_, of_decide_eq_true h1, of_decide_eq_true h2, of_decide_eq_true h3, h4⟩
  unfold oexA at h0
  split at h0
  · rename_i e
    obtain ⟨a1, a⟩ := He.ba h0
    obtain ⟨a2, a⟩ := He.ba a
    obtain ⟨a3, a4⟩ := He.ba a
    have b1 := of_decide_eq_true a1
    have b2 := of_decide_eq_true a2
    have b4 := of_decide_eq_true a4
    subst b1 b2 b4
    exact ⟨_, _, _, _, _, _, _, _, _, _, _, _, _, _, _, e, a3⟩
  · cases h0
def excB (K : PySem.W.Frag) (C : Addr) : Bool := decide (PySem.W.findIn K (.ref C) "__getattribute__" = some (some (.builtin "BaseException.__getattribute__"))) && (decide (PySem.W.findIn K (.ref C) "__getattr__" = some none) && (PySem.W.hasDictIn K C &&
  (decide (PySem.W.findIn K (.ref C) "__class__" = some (some (.builtin "object.__class__"))) && (decide (PySem.W.specialIn K (.builtin "object.__class__") "__get__" = some (some (.builtin "getset_descriptor.__get__"))) &&
  (decide (PySem.W.takesIn K (.builtin "object.__class__") = some true) && decide (PySem.W.mroIn K C (.type "object") = some true))))))
theorem excB_ok {K : PySem.W.Frag} {C : Addr} (hs : PySem.W.subIn K (.ref C) (.type "BaseException") = some true) (h : excB K C = true) : ExcC K C := by
  obtain ⟨h1, h⟩ := He.ba h
  obtain ⟨h2, h⟩ := He.ba h
  obtain ⟨h3, h⟩ := He.ba h
  obtain ⟨h4, h⟩ := He.ba h
  obtain ⟨h5, h⟩ := He.ba h
  obtain ⟨h6, h7⟩ := He.ba h
  exact ⟨of_decide_eq_true h1, of_decide_eq_true h2, hs, h3, of_decide_eq_true h4, of_decide_eq_true h5, of_decide_eq_true h6, of_decide_eq_true h7⟩
/-- all that is asked of the class x of errors: its field f, the laws' classes cs and ts, the caught ones c1 c2 c3 -/
def errB (K : PySem.W.Frag) (x f : Str) (cs : List Str) (ts : List String) (c1 c2 c3 : Str) : Bool := oexB K (He.ga K x) && (excB K (He.ga K x) && (decide (PySem.W.findIn K (.ref (He.ga K x)) "given" = some none) && (decide (PySem.W.findIn K (.ref (He.ga K x)) "index" = some none) &&
  ((cs.all fun y => decide (PySem.W.kitOne K (.ref (He.ga K x)) (.ref (He.ga K y)) = some (decide (y = x ∨ y = exBase x)))) && ((ts.all fun t => decide (PySem.W.kitOne K (.ref (He.ga K x)) (.type t) = some (decide (t = exOwn x)))) &&
  decide (PySem.W.exmAny K (.ref (He.ga K x)) [.ref (He.ga K c1), .ref (He.ga K c2), .ref (He.ga K c3)] = some true))))))
structure ErrK (K : PySem.W.Frag) (x : Str) (cs : List Str) (ts : List String) (c1 c2 c3 : Str) : Prop where
  o : OexC K (He.ga K x)
  i : IsX K x cs ts
  g : PySem.W.findIn K (.ref (He.ga K x)) "given" = some none
  n : PySem.W.findIn K (.ref (He.ga K x)) "index" = some none
  m : PySem.W.exmAny K (.ref (He.ga K x)) [.ref (He.ga K c1), .ref (He.ga K c2), .ref (He.ga K c3)] = some true
theorem errB_ok {K : PySem.W.Frag} {x f : Str} {cs : List Str} {ts : List String} {c1 c2 c3 : Str} (h : errB K x f cs ts c1 c2 c3 = true) : ErrK K x cs ts c1 c2 c3 := by
  obtain ⟨h0, h⟩ := He.ba h
  obtain ⟨h1, h⟩ := He.ba h
  obtain ⟨h2, h⟩ := He.ba h
  obtain ⟨h3, h⟩ := He.ba h
  obtain ⟨h4, h⟩ := He.ba h
  obtain ⟨h5, h6⟩ := He.ba h
  have o := oexB_ok h0
  exact ⟨o, ⟨excB_ok o.exC h1, fun y hy => of_decide_eq_true (List.all_eq_true.mp h4 y hy), fun t ht => of_decide_eq_true (List.all_eq_true.mp h5 t ht)⟩, of_decide_eq_true h2, of_decide_eq_true h3, of_decide_eq_true h6⟩
/-- a def by its body, its code object told -/
theorem fn_okC {P : Program} {w : World} {K : PySem.W.Frag} {mg : Str → Option Value} {base : Heap} {x qual : Str} {params : Arguments} {body : List Stmt} {scope : Scope} {p : Str × Option Str} {fd : FuncData} {N ps : List Str} {k n nn : Nat} {db : DS} (F : FunD K x qual params body scope [] [] (He.fAd K p) fd) (S : FnScope N ps scope)
    (hn : ps.length = n) (hN : N.length = nn)
    (hb : ∀ (A : Around) (outer : List Env) (s : Shared) (H : Hp) (E : XK), RoomG k (A.deeper (envOfC qual scope s.heap.objs.size (He.fAd K p) (.ref (He.codeOf K p)))) → QSs (cxOf (L2.CX P w) P w K mg base N qual scope (He.fAd K p) (.ref (He.codeOf K p)) A outer s H E) E body db) :
    Pm P w K mg base (L2.CX P w) (k + 1) (He.fAd K p) fd ps (spM K (dDef n nn db)) := by
  obtain ⟨oc, od, dV, kV, doc, pm, an, cdv, ct, osl, rfl, lk, hcd, _, _⟩ := F.ex
  obtain ⟨c, rfl⟩ := He.codeIn_ref hcd
  have ec : He.codeOf K p = c := He.codeOf_eq lk rfl
  subst ec
  have ln : ∀ xs H D E, spM K (dDef n nn db) xs H D E → xs.length = ps.length := fun xs H D E ⟨ρ, F0, μ, ds, k0, r0, h⟩ => by
    unfold dDef at h
    split at h
    · rename_i hl
      rw [r0.length, hl, hn]
    · exact False.elim h
  refine ⟨ln, fun A o s H ar us xs D E hr e0 hbn r hs => ?_⟩
  have hlen := ln xs H D E hs
  have KX : K.In s.heap := e0.mod.kin.keeps fun b u z => (e0.bs b u z).1
  have li : s.heap.NoLimit := e0.mod.nolimit.keeps fun b u z => (e0.bs b u z).1
  have hk : ∀ y ∈ ps.zip us, scope.names.lookup y.1 = some .local ∨ (scope.names.lookup y.1 = some .cell ∧ ((cellsFrom (s.heap.objs.size + 1) scope.names []).lookup y.1).isSome = true) := by
    rintro ⟨m, v⟩ hy
    have := S.par m (List.of_mem_zip hy).1
    exact this.imp id fun q => ⟨q, PySem.W.cellsFrom_some _ _ _ (.inl q)⟩
  refine codeAny_call_function hr.r.depth (KX _ _ lk) rfl S.co S.gen rfl (PySem.W.codeRec_of KX hcd) (hbn _ _ _ _ (wpAny_newFunctionEnv_cells S.kind hk ?_))
  intro en he s1 y
  subst he
  refine ⟨li.keeps y.toInCall.keep, codeAny_func ?_⟩
  obtain ⟨t, ht, sm⟩ := (hb A o s H E (hr.down _)).ex
  have I0 := inv_start (CX := L2.CX P w) (E := E) S hr.r.hd e0 hlen r y
  have hq : t { nx := fun _ H' => D .non H', rt := D } (L2.start N xs) H := by
    obtain ⟨ρ, F0, μ, ds, k0, r0, h⟩ := hs
    unfold dDef at h
    split at h
    · refine sm ρ F0 H _ μ _ k0 (slots_start r0) _ ?_
      subst hN
      cases hres : db (ds.map some ++ List.replicate (N.length - ds.length) none) μ with
      | nx Γ μ1 => rw [hres] at h; exact fun ρ1 F1 H1 σ1 n1 k1 s1 => h ρ1 F1 H1 .non n1 k1 .non
      | rt d μ1 => rw [hres] at h; exact h
      | bk Γ μ1 => rw [hres] at h; exact False.elim h
      | ct Γ μ1 => rw [hres] at h; exact False.elim h
      | exc e μ1 => rw [hres] at h; exact h
      | stk => rw [hres] at h; exact False.elim h
    · exact False.elim h
  refine wpAny_mono (ht.run [] s1 _ H _ I0 hq) (fun fl s' z => ?_) fun _ _ z => z
  cases fl with
  | brk => obtain ⟨_, _, _, q⟩ := z; exact q.elim
  | cont => obtain ⟨_, _, _, q⟩ := z; exact q.elim
  | next =>
    obtain ⟨τ, G, J, q⟩ := z
    exact ⟨.non, G, J.os, J.bare, J.base, J.hok, rfl, q⟩
  | ret u =>
    obtain ⟨v, τ, G, J, rv, q⟩ := z
    exact ⟨v, G, J.os, J.bare, J.base, J.hok, rv, q⟩
end Ar

set_option Elab.async false
set_option linter.all false
set_option maxRecDepth 100000
set_option maxHeartbeats 4000000
/-! Ar49: room in an except suite -/
namespace Ar
open PySem PySem.Spec PyProof.Rows L2
theorem roomH_units {k : Nat} {A : Around} (h : L2H.RoomH k A) : A.units + 64 < cLine := by
  have := h.un
  omega
theorem roomH_mark {k : Nat} {A : Around} {v : Option Value} (h : RoomG (k + 1) A) : L2H.RoomH 1 (A.mark v) :=
  ⟨by have := h.r.dp; show A.depth + 3 * 1 + 5 < _; omega, by have := h.r.un; have e : (A.mark v).units = A.units := Around.mark_units .. ; rw [e]; omega⟩
end Ar

set_option Elab.async false
set_option linter.all false
set_option maxRecDepth 100000
set_option maxHeartbeats 4000000
/-! Ar50: {} -/
namespace Ar
open PySem PySem.Spec PyProof.Rows L2
def dEmp : DE := fun _ μ => .ok (.dK []) μ
theorem q_emp {X : Cx} {E : XK} {pos : Pos} : QE X E (.Dict [] [] pos) dEmp := by
  refine ⟨_, pe_dnewK, fun ρ F H Γ μ σ k s Q h p hp => ?_⟩
  exact h ρ _ _ _ (Nx.newF_ (o := .dK []) k hp) (k.newF (o := .dK []) hp) (.dK upd_same .nil)
theorem isFn_ty {K : PySem.W.Frag} {a : Addr} (h : PySem.W.isFn K (.ref a) = true) : PySem.W.typeIn K (.ref a) = some (.type "function") := by
  unfold PySem.W.isFn at h
  first
  | exact beq_iff_eq.mp h
  | exact of_decide_eq_true h
  | simpa using h
end Ar

set_option Elab.async false
set_option linter.all false
set_option maxRecDepth 100000
set_option maxHeartbeats 4000000
/-! Ar51: repr({}); texts compared -/
namespace Ar
open PySem PySem.Spec PyProof.Rows L2
def fReprE : Mu → List D → Option D := fun _ ds => match ds with
  | [.dK []] => some (.str "{}")
  | _ => none
theorem cd_reprE {X : Cx} (hg : X.A.guards = some []) (hu : X.A.units + 64 < cLine) : CallD X (.builtin "repr") fReprE := by
  refine ⟨fun xs H Q => ∃ a, xs = [.ref a] ∧ H a = some (.dK []) ∧ Q (.str "{}") H, fun pins s σ H xs us Q I r h => ?_, fun ρ F H μ vs ds z k rv ez Q q => ?_⟩
  · obtain ⟨a, rfl, ha, q⟩ := h
    obtain ⟨u, rfl, ru⟩ := vals1 r
    cases ru
    have hO : ObjOk X.prog X.w H s.heap a (.dK []) := I.hok a _ ha
    obtain ⟨_, hne, vs, hkv, o, es, ep, ho, hx, hd, hk, hp, _⟩ := hO
    cases hkv
    have he : es.toList = [] := by
      cases h : es.toList with
      | nil => rfl
      | cons e l => rw [h] at hp; cases hp
    have rd : Reads s.heap (.ref a) (.dict []) (a :: [] ++ []) := .dict ho hx.1 hd (by rw [he]; exact .nil) (by rw [he]; exact .nil)
    refine repr_of_reads' rd rfl (fun _ z => ?_) hg (by show X.A.units + (PyData.depth (.dict []) + 1) < cLine; simp [PyData.depth, PyData.depthKv]; omega) (fun _ _ e => e) (fun h' u tk k => ⟨.str _, H, I.kept k, ⟨_, rfl⟩, ?_⟩) (by decide)
    · have z2 : sysModules = a := by simpa using z
      rw [z2] at hne
      simp at hne
    · exact q
  · unfold fReprE at ez
    split at ez
    · cases ez
      rcases rv with _ | ⟨r1, r2⟩
      cases r2
      cases r1 with
      | dK h1 h2 =>
        cases h2
        exact ⟨_, rfl, k.ex _ _ h1, q ρ F H _ Nx.refl k (.str _)⟩
    · cases ez
def fLeS := fSS fun i j => some (.bl (!decide (j.cps.toList < i.cps.toList)))
theorem od_leS {X : Cx} : OpD X (compareOp .LtE) fLeS := by
  refine ⟨_, op_le_str, fun ρ F H μ v w d e z k rv rw' ez Q q => ?_⟩
  obtain ⟨i, j, rfl, rfl, e2⟩ := fSS_some ez
  cases rv
  cases rw'
  cases e2
  exact ⟨i, j, rfl, rfl, q ρ F H _ Nx.refl k (.bl _)⟩
theorem o_leS {μ : Mu} {x y : Str} {P : D → Prop} : OkO (fLeS μ (.str x) (.str y)) P = P (.bl (!decide (y.cps.toList < x.cps.toList))) := rfl
end Ar

set_option Elab.async false
set_option linter.all false
set_option maxRecDepth 100000
set_option maxHeartbeats 4000000
set_option exponentiation.threshold 10000
/-! Ar52: data that repr takes, piece by piece; calls compared by class and repr -/
namespace Ar
open PySem PySem.Spec PyProof.Rows L2
/-- nested at most n deep, of weight at most w -/
structure SmD (n w : Nat) (d : D) : Prop where
  pl : plainD n d = true
  sh : (toP d).showable = true
  sl : (toP d).leavesShort 410 = true
  wt : (toP d).weight ≤ w
theorem SmD.mono {n v w : Nat} {d : D} (h : SmD n v d) (hv : v ≤ w) : SmD n w d := ⟨h.pl, h.sh, h.sl, Nat.le_trans h.wt hv⟩
theorem sm_non {n w : Nat} : SmD n w .non := ⟨by cases n <;> rfl, by simp [toP, PyData.showable], by simp [toP, PyData.leavesShort], by simp [toP, PyData.weight]⟩
theorem sm_bl {n w : Nat} {b : Bool} : SmD n w (.bl b) := ⟨by cases n <;> rfl, by simp [toP, PyData.showable], by simp [toP, PyData.leavesShort], by simp [toP, PyData.weight]⟩
theorem sm_int {n : Nat} {a : Int} (h : a.natAbs < 10 ^ 400) : SmD n 1401 (.int a) := by
  have hl : a.natAbs.log2 ≤ 1400 := by
    by_cases h0 : a.natAbs = 0
    · rw [h0]; decide
    · have h1 : a.natAbs < 2 ^ 1401 := Nat.lt_trans h (by decide +kernel)
      have := (Nat.log2_lt h0).mpr h1
      omega
  refine ⟨by cases n <;> rfl, ?_, ?_, ?_⟩
  · simp only [toP, PyData.showable]
    exact decide_eq_true (by omega)
  · simp only [toP, PyData.leavesShort, PyData.shown]
    have := int_text_length_le10 (k := 400) (by decide) h
    refine decide_eq_true ?_
    rw [PySem.ofString_length]
    omega
  · simp only [toP, PyData.weight]
    split <;> omega
theorem sm_str {n w : Nat} {z : Str} (h : z.length ≤ w) (k : ∀ c ∈ z.cps.toList, c < 1000000) : SmD n w (.str z) := by
  refine ⟨by cases n <;> rfl, by simp [toP, PyData.showable], ?_, by simp only [toP, PyData.weight]; exact h⟩
  simp only [toP, PyData.leavesShort, List.all_eq_true, decide_eq_true_eq]
  exact fun c hc => Nat.lt_trans (k c hc) (by decide)
theorem sm_all {n w : Nat} : ∀ ds : List D, (∀ d ∈ ds, SmD n w d) → ds.all (plainD n) = true ∧ PyData.showableAll (toPs ds) = true ∧ PyData.leavesShortAll 410 (toPs ds) = true ∧ PyData.weightAll (toPs ds) ≤ ds.length * (w + 1)
  | [], _ => ⟨rfl, by simp [toPs, PyData.showableAll], by simp [toPs, PyData.leavesShortAll], by simp [toPs, PyData.weightAll]⟩
  | d :: ds, h => by
    obtain ⟨a1, a2, a3, a4⟩ := sm_all ds fun e he => h e (List.mem_cons_of_mem _ he)
    have b := h d List.mem_cons_self
    refine ⟨by rw [List.all_cons, b.pl, a1]; rfl, ?_, ?_, ?_⟩
    · rw [toPs, PyData.showableAll, b.sh, a2]; rfl
    · rw [toPs, PyData.leavesShortAll, b.sl, a3]; rfl
    · rw [toPs, PyData.weightAll, List.length_cons, Nat.add_mul]
      have := b.wt
      omega
theorem sm_tup {n w : Nat} {ds : List D} (h : ∀ d ∈ ds, SmD n w d) : SmD (n + 1) (ds.length * (w + 1)) (.tup ds) := by
  obtain ⟨a1, a2, a3, a4⟩ := sm_all ds h
  exact ⟨a1, by rw [toP, PyData.showable]; exact a2, by rw [toP, PyData.leavesShort]; exact a3, by rw [toP, PyData.weight]; exact a4⟩
theorem sm_lst {n w : Nat} {ds : List D} (h : ∀ d ∈ ds, SmD n w d) : SmD (n + 1) (ds.length * (w + 1)) (.lst ds) := by
  obtain ⟨a1, a2, a3, a4⟩ := sm_all ds h
  exact ⟨a1, by rw [toP, PyData.showable]; exact a2, by rw [toP, PyData.leavesShort]; exact a3, by rw [toP, PyData.weight]; exact a4⟩
theorem SmD.show {w : Nat} {d : D} (h : SmD 20 w d) (hw : w ≤ 40000) : showD d = true := by
  unfold showD
  rw [Bool.and_eq_true, Bool.and_eq_true, decide_eq_true_eq]
  refine ⟨⟨h.pl, h.sh⟩, show_le 410 (by decide) _ h.sl ?_⟩
  have := h.wt
  rw [sizeLine_eq]
  omega
theorem unloc_plain {n : Nat} {d : D} {μ : Mu} (h : plainD n d = true) : unloc μ d = d := by
  cases d with
  | loc m => cases n <;> simp [plainD] at h
  | _ => rfl
theorem SmD.rp {w : Nat} {d : D} {μ : Mu} (h : SmD 20 w d) (hw : w ≤ 40000) : fRepr μ [d] = some (.str (shw d)) := by
  show (if showD (unloc μ d) = true then some (D.str (shw (unloc μ d))) else none) = _
  rw [unloc_plain h.pl, if_pos (h.show hw)]
theorem SmD.rpE {w : Nat} {d : D} {μ : Mu} (h : SmD 20 w d) (hw : w ≤ 40000) : orC fRepr fReprE μ [d] = some (.str (shw d)) := by
  unfold orC
  rw [h.rp hw]
theorem dict_rpE {μ : Mu} : orC fRepr fReprE μ [.dK []] = some (.str "{}") := by
  have e : fRepr μ [.dK []] = none := by
    show (if showD (.dK []) = true then some (D.str (shw (.dK []))) else none) = _
    rw [if_neg (by decide +kernel)]
  unfold orC
  rw [e]
  rfl
end Ar

set_option Elab.async false
set_option linter.all false
set_option maxRecDepth 100000
set_option maxHeartbeats 4000000
/-! Ar53: a class with one slot whose __init__ may raise: x(e), x(k = e) -/
namespace Ar
open PySem PySem.Spec PyProof.Rows L2
theorem Nx.side {ρ : List Addr} {F H : Hp} {p : Addr} {o : HO} (hp : H p = none) : Nx ρ F H ρ F (upd H p o) := by
  refine ⟨fun _ _ h => h, fun _ _ h => h, fun a u e _ => ?_, fun _ h => .inl h, fun _ _ h => .inl h, fun a e => ?_⟩
  · rw [upd_ne (ne_of_none e hp)]; exact e
  · by_cases h : a = p
    · subst h; exact hp
    · rw [upd_ne h] at e; exact e
/-- what comes of __init__: m the check, r the raise -/
def endR (C : Str) (m : Fn) (r : DS) (d : D) (μ1 : Mu) : R D := (m [d] μ1).nox.bind fun a μ2 => match a with
  | .non => .ok (.slt C [d]) μ2
  | .int i => match r [none, some d, some (.int i)] μ2 with
    | .exc e μ3 => .exc e μ3
    | _ => .stk
  | _ => .stk
def dMakeR (C : Str) (m : Fn) (r : DS) (a : DA) : DE := fun Γ μ => (a Γ μ).bind fun ds μ1 => match ds with
  | [d] => endR C m r d μ1
  | _ => .stk
def spSlotR (K : PySem.W.Frag) (C : Str) (m : Fn) (r : DS) : Sp := fun vs H Q E => ∃ x dx v d ρ F μ, vs = [V.ref x, v] ∧ H x = some (.ins (He.ga K C) dx []) ∧ HpOk K ρ μ F H ∧ Dn K ρ F v d ∧ x ∉ ρ ∧ F x = none ∧
  WpR (m [d] μ) (fun a μ2 => (a = .non ∧ ∀ ρ2 F2 H2, Nx ρ F H ρ2 F2 H2 → HpOk K ρ2 μ2 F2 H2 → Q .non (SlX.slH H2 x (He.ga K C) dx [some v])) ∨ ∃ i e μ3, a = .int i ∧ r [none, some d, some (.int i)] μ2 = .exc e μ3 ∧ XP K E ρ F H e μ3) fun _ _ => False
theorem init_slotR {P : Program} {w : World} {K : PySem.W.Frag} {mg : Str → Option Value} {base : Heap} {Z : CXT} {C y qual : Str} {params : Arguments} {body : List Stmt} {scope : Scope} {f : Addr} {fd : FuncData} {k : Nat} {g self b a : Str} {m : Fn} {r : DS}
    (F : FunD K y qual params body scope [] [] f fd) (S : FnScope [self, b, a] [self, b] scope) (sk : SltK K C g 0)
    (hb : ∀ (cdv : Value) (A : Around) (o : List Env) (s : Shared) (H : Hp) (E : XK), RoomG k (A.deeper (envOfC qual scope s.heap.objs.size f cdv)) → ∃ te tc tr, SimE K E te (dCall m (daCons (dVar 1) daNil)) ∧ SimT K E tc (dTest (dBin (fIs true) (dVar 2) (dC .non))) ∧ SimS K E tr r ∧
      PSs (cxOf Z P w K mg base [self, b, a] qual scope f cdv A o s H E) body (tSeq (tAsg te (gName 2)) (tSeq (tIfS tc tr tNext) (SlX.sSl K (tVar 0) (tVar 1) g)))) :
    Pm P w K mg base Z (k + 1) f fd [self, b] (spSlotR K C m r) := by
  obtain ⟨p, sc, sl⟩ := sk.ex
  refine fn_ofG F S (fun xs H D E h => ?_) (fun cdv A o s H xs D E hr h => ?_)
  · obtain ⟨x, dx, v, d, ρ, F, μ, rfl, _⟩ := h
    rfl
  · obtain ⟨x, dx, v, d, ρ, F0, μ, rfl, hx, k0, rv, nx, fx, h⟩ := h
    obtain ⟨te, tc, tr, s1, s2, s4, pss⟩ := hb cdv A o s H E hr
    refine ⟨_, pss, ?_⟩
    have s0 : Slots K ρ F0 [none, some d, none] (L2.start [self, b, a] [V.ref x, v]) := by
      refine ⟨rfl, fun i e he => ?_⟩
      match i, he with
      | 0, he => cases he
      | 1, he => cases he; exact ⟨v, rfl, rv⟩
      | 2, he => cases he
      | n + 3, he => cases he
    refine s1 ρ F0 H _ μ _ k0 s0 _ (WpR.mono (show WpR (m [d] μ) _ _ from h) (fun r μ2 q => ?_) fun _ _ q => q.elim)
    rcases q with ⟨rfl, q⟩ | ⟨i, e, μ3, rfl, er, hx⟩
    · intro ρ1 F1 H1 v1 n1 k1 r1
      cases r1
      have s3 : Slots K ρ1 F1 [none, some d, some .non] ((L2.start [self, b, a] [V.ref x, v]).set 2 (some V.non)) := (s0.nx n1).set (d := .non) .non 2
      refine s2 ρ1 F1 H1 [none, some d, some .non] μ2 _ k1 s3 _ (show WpR (R.ok false μ2) _ _ from ?_)
      intro ρ2 F2 H2 n2 k2
      have nn := n1.trans n2
      obtain ⟨_, _, h2⟩ := nn.outF hx nx fx
      refine ⟨v, rfl, .ref x, rfl, x, He.ga K C, dx, p, [], 0, rfl, .inl ⟨h2, rfl⟩, sc, sl, ?_⟩
      exact q ρ2 F2 H2 nn k2
    · intro ρ1 F1 H1 v1 n1 k1 r1
      have s3 : Slots K ρ1 F1 [none, some d, some (.int i)] ((L2.start [self, b, a] [V.ref x, v]).set 2 (some v1)) := (s0.nx n1).set (d := .int i) r1 2
      refine s2 ρ1 F1 H1 [none, some d, some (.int i)] μ2 _ k1 s3 _ (show WpR (R.ok true μ2) _ _ from ?_)
      intro ρ2 F2 H2 n2 k2
      refine s4 ρ2 F2 H2 _ μ2 _ k2 (s3.nx n2) _ ?_
      rw [er]
      exact XP.nx (n1.trans n2) hx
structure MkR (P : Program) (w : World) (K : PySem.W.Frag) (mg : Str → Option Value) (base : Heap) (C : Str) (k : Nat) (ks : List Str) (m : Fn) (r : DS) : Prop where
  ex : ∃ f fd ps, Mk K (He.ga K C) f ∧ mg C = some (.ref (He.ga K C)) ∧ Binds K fd ps [] ∧ KBn K fd ps 1 ks (fun us ws => pick [0, 1] (us ++ ws)) (fun vs zs => pick [0, 1] (vs ++ zs)) ∧ Pm P w K mg base (L2.CX P w) k f fd ps (spSlotR K C m r)
theorem endR_sp {K : PySem.W.Frag} {E : XK} {C : Str} {m : Fn} {r : DS} {ρ ρ1 : List Addr} {F F1 H H1 : Hp} {μ1 : Mu} {v : V} {d : D} {Q : VK} (q : WpR (endR C m r d μ1) (QV K ρ F H Q) (XP K E ρ F H)) (n1 : Nx ρ F H ρ1 F1 H1) (k1 : HpOk K ρ1 μ1 F1 H1) (r1 : Dn K ρ1 F1 v d)
    {x dx : Addr} (hx : H1 x = none) (hdx : H1 dx = none) (hne : dx ≠ x) : spSlotR K C m r [.ref x, v] (upd (upd H1 dx (.own x)) x (.ins (He.ga K C) dx [])) (fun w H2 => w = .non ∧ Q (.ref x) H2) E := by
  have kb := k1.beside (o := .own x) (k1.fresh hdx) (k1.freshF hdx)
  have kb2 := kb.beside (p := x) (o := .ins (He.ga K C) dx []) (k1.fresh hx) (k1.freshF hx)
  refine ⟨x, dx, v, d, ρ1, F1, μ1, rfl, upd_same, kb2, r1, k1.fresh hx, k1.freshF hx, ?_⟩
  have nb : Nx ρ1 F1 H1 ρ1 F1 (upd (upd H1 dx (.own x)) x (.ins (He.ga K C) dx [])) := (Nx.side hdx).trans (Nx.side (by rw [upd_ne (Ne.symm hne)]; exact hx))
  unfold endR at q
  have q := WpR.bind q
  refine (WpR.nox (X' := fun _ _ => False) q).mono (fun a μ2 q2 => ?_) fun _ _ q => q
  split at q2
  · refine .inl ⟨rfl, fun ρ2 F2 H2 n2 k2 => ⟨rfl, ?_⟩⟩
    have odx : upd (upd H1 dx (.own x)) x (.ins (He.ga K C) dx []) dx = some (.own x) := by rw [upd_ne hne, upd_same]
    obtain ⟨a1, a2, a3⟩ := n2.outF odx (k1.fresh hdx) (k1.freshF hdx)
    obtain ⟨b1, b2, b3⟩ := n2.outF upd_same (k1.fresh hx) (k1.freshF hx)
    have k3 := k2.both (o := .xd []) a1 a2
    have k4 := k3.both (p := x) (o := SlX.SlO x (He.ga K C) dx [some v]) b1 (by rw [upd_ne (Ne.symm hne)]; exact b2)
    have nn := Nx.around (vp := SlX.SlO x (He.ga K C) dx [some v]) (vq := .xd []) rfl hx hdx (k1.freshF hx) (k1.freshF hdx) n2
    exact q2 _ _ _ _ (n1.trans nn) k4 (.slt (dx := dx) (vs := [v]) upd_same (by rw [upd_ne hne, upd_same]) (.cons (r1.nx nn) .nil))
  · rename_i i
    refine .inr ⟨i, ?_⟩
    split at q2
    · rename_i e μ3 er
      exact ⟨e, μ3, rfl, er, XP.nx (n1.trans nb) q2⟩
    · exact q2.elim
  · exact q2.elim
theorem sim_makeR {K : PySem.W.Frag} {E : XK} {C : Str} {m : Fn} {r : DS} {ta : TA} {da : DA} (ha : SimA K E ta da) : SimE K E (tMake (He.ga K C) (spSlotR K C m r) [] E ta) (dMakeR C m r da) := by
  intro ρ F H Γ μ σ k s Q h
  refine ha ρ F H Γ μ σ k s _ ((WpR.bind h).mono (fun ds μ1 q => ?_) fun _ _ q => q)
  intro ρ1 F1 H1 vs n1 k1 r1
  split at q
  · rename_i d
    intro x dx hx hdx hne
    cases r1 with
    | cons r1 r2 =>
      cases r2
      exact endR_sp q n1 k1 r1 hx hdx hne
  · exact q.elim
theorem q_makeR {X : Cx} {E : XK} {C : Str} {k : Nat} {ks : List Str} {m : Fn} {r : DS} {p pos : Pos} {e : Expr} {es : List Expr} {da : DA} (G : MkR X.prog X.w X.K X.mg X.base C k ks m r) (hr : RoomG (k + 1) X.A) (hp : Passes (L2.CX X.prog X.w) X E) (ha : QA X E (e :: es) da) (hg : Gl X C := by rfl)
    (hdb : (C == ("__debug__" : Str)) = false := by decide) (he : starEach (e :: es) X.env = (false, eval e X.env) :: starEach es X.env := by rfl) (hpl : (backTo pos (starEach es X.env)).any (·.1) = false := by rfl) :
    QE X E (.Call (.Name C p) (e :: es) [] pos) (dMakeR C m r da) := by
  obtain ⟨f, fd, ps, h1, h2, h3, _, h4⟩ := G.ex
  obtain ⟨ta, a1, a2⟩ := ha.ex
  exact ⟨_, pe_makeG h1 h4 hr hg h2 h3 hp a1 hdb he hpl, sim_makeR a2⟩
section
variable {X : Cx} {CX : CXT} {k n : Nat} {f C : Addr} {fd : FuncData} {ps ks : List Str} {sp : Sp} {E : XK} {x : Str} {p pos : Pos} {kws : List Keyword} {tk : TA} {g : List Value → List Value → List Value} {gV : List V → List V → List V}
theorem pe_makeGK0 (M : Mk X.K C f) (G : Pm X.prog X.w X.K X.mg X.base CX k f fd ps sp) (hr : RoomG (k + 1) X.A) (hg : Gl X x) (hm : X.mg x = some (.ref C)) (hb : KBn X.K fd ps 1 ks g gV) (hx : Passes CX X E) (hkw : PK X kws tk)
    (hall : (backToKw pos (keywordEach kws X.env)).all (·.1.isSome) = true := by rfl) (hks : (backToKw pos (keywordEach kws X.env)).filterMap (·.1) = ks := by rfl) (hdb : (x == ("__debug__" : Str)) = false := by decide)
    (hpl : ((backTo pos (starEach [] X.env)).any (·.1) || (backToKw pos (keywordEach kws X.env)).any (·.1.isNone)) = false := by rfl) :
    PE X (.Call (.Name x p) [] kws pos) (tMakeK C 0 ks.length sp gV E tNil tk) := by
  refine ⟨fun pins s σ H Q I h => ?_⟩
  refine wpAny_Call_Name_kw (ld_glob I hg hm ?_ hdb)
  refine PySem.W.callWith_KW0 (h₀ := X.base) I.ok.mod.kin M.kp hall ?_ hpl
  refine thn (hkw.run pos pins s σ H _ I h) fun ws s2 ⟨zs, H2, I2, rz, l1, l2, q2⟩ => ⟨I2.kIn, ?_⟩
  rw [hks]
  have hq := q2 (s2.heap.objs.size + 1) s2.heap.objs.size (I2.hok.fresh (Nat.le_succ _)) (I2.hok.fresh (Nat.le_refl _)) (Nat.ne_of_lt (Nat.lt_succ_self _))
  have J := Inv.made (C := C) I2
  have r1 : Vals [V.ref (s2.heap.objs.size + 1)] [Value.ref (s2.heap.objs.size + 1)] := .cons rfl .nil
  have r2 := hb.rel r1 rz
  refine wpAny_call (make_map (f := f) I2.kIn M.makes M.init (beq_iff_eq.mp M.fn) (codeAny_mono (G.go _ X.stack _ _ ⟨[Value.ref (s2.heap.objs.size + 1)], ks.zip ws⟩ (g [Value.ref (s2.heap.objs.size + 1)] ws) _ _ E (hr.make C [] (ks.zip ws))
    (J.env0.make C [] (ks.zip ws)) (hb.to _ [Value.ref (s2.heap.objs.size + 1)] ws J.kIn rfl (rz.length.symm.trans l2)) r2 hq) fun r s' hq' => ?_))
  cases r with
  | error e => exact hx pins σ _ _ e s' J hq'
  | ok fl =>
    cases fl with
    | ret u =>
      obtain ⟨v, H', I3, rv, ev, q3⟩ := J.after hq'
      subst ev
      exact ⟨rv, ⟨V.ref (s2.heap.objs.size + 1), H', I3, rfl, q3⟩⟩
    | next => exact False.elim hq'
    | brk => exact False.elim hq'
    | cont => exact False.elim hq'
end
theorem sim_makeRK {K : PySem.W.Frag} {E : XK} {C : Str} {m : Fn} {r : DS} {tk : TA} {dk : DA} (ha : SimA K E tk dk) : SimE K E (tMakeK (He.ga K C) 0 1 (spSlotR K C m r) (fun vs zs => pick [0, 1] (vs ++ zs)) E tNil tk) (dMakeR C m r dk) := by
  intro ρ F H Γ μ σ k s Q h
  refine ha ρ F H Γ μ σ k s _ ((WpR.bind h).mono (fun ds μ1 q => ?_) fun _ _ q => q)
  intro ρ1 F1 H1 vs n1 k1 r1
  split at q
  · rename_i d
    cases r1 with
    | cons r1 r2 =>
      cases r2
      refine ⟨rfl, rfl, fun x dx hx hdx hne => ?_⟩
      exact endR_sp q n1 k1 r1 hx hdx hne
  · exact q.elim
theorem q_makeRK {X : Cx} {E : XK} {C : Str} {k : Nat} {ks : List Str} {m : Fn} {r : DS} {p pos : Pos} {kws : List Keyword} {dk : DA} (G : MkR X.prog X.w X.K X.mg X.base C k ks m r) (hr : RoomG (k + 1) X.A) (hp : Passes (L2.CX X.prog X.w) X E) (hk : QK X E kws dk) (hg : Gl X C := by rfl)
    (hall : (backToKw pos (keywordEach kws X.env)).all (·.1.isSome) = true := by rfl) (hks : (backToKw pos (keywordEach kws X.env)).filterMap (·.1) = ks := by rfl) (hl : ks.length = 1 := by rfl)
    (hdb : (C == ("__debug__" : Str)) = false := by decide) (hpl : ((backTo pos (starEach [] X.env)).any (·.1) || (backToKw pos (keywordEach kws X.env)).any (·.1.isNone)) = false := by rfl) :
    QE X E (.Call (.Name C p) [] kws pos) (dMakeR C m r dk) := by
  obtain ⟨f, fd, ps, h1, h2, _, h3, h4⟩ := G.ex
  obtain ⟨tk, a1, a2⟩ := hk.ex
  refine ⟨_, pe_makeGK0 h1 h4 hr hg h2 h3 hp a1 hall hks hdb hpl, ?_⟩
  rw [hl]
  exact sim_makeRK a2
theorem mkR {P : Program} {w : World} {K : PySem.W.Frag} {mg : Str → Option Value} {base : Heap} {C y qual : Str} {params : Arguments} {body : List Stmt} {scope : Scope} {f : Addr} {fd : FuncData} {ps ks : List Str} {k : Nat} {m : Fn} {r : DS} (F : FunD K y qual params body scope [] [] f fd) (M : Mk K (He.ga K C) f) (g : mg C = some (.ref (He.ga K C)))
    (hb : ∀ (kV doc pm : Value) (an : Option Addr) (cdv ct : Value) (us : List Value), us.length = ps.length → bindArgs (PySem.W.fnOf y qual params body scope Value.none kV doc pm an cdv ct) { pos := us } = pure (ps.zip us))
    (hk : ∀ (kV doc pm' : Value) (an : Option Addr) (cdv ct : Value) (us ws : List Value), us.length = 1 → ws.length = ks.length → bindArgs (PySem.W.fnOf y qual params body scope .none kV doc pm' an cdv ct) ⟨us, ks.zip ws⟩ = pure (ps.zip (pick [0, 1] (us ++ ws))))
    (ok : Pm P w K mg base (L2.CX P w) k f fd ps (spSlotR K C m r)) : MkR P w K mg base C k ks m r := ⟨f, fd, ps, M, g, F.bindsN hb, kbn_of F 1 ks [0, 1] hk, ok⟩
/-! plain rules -/
section
variable [ExW] {Γ : Gam} {μ : Mu} {Q : D → Mu → Prop}
theorem ok_makeR {C : Str} {m : Fn} {r : DS} {e : DE} : Ok (dMakeR C m r (daCons e daNil) Γ μ) Q = Ok (e Γ μ) fun d μ1 => Ok (endR C m r d μ1) Q := by
  unfold dMakeR
  rw [ok_bind, ok_cons]
  rfl
end
end Ar

set_option Elab.async false
set_option linter.all false
set_option maxRecDepth 100000
set_option maxHeartbeats 4000000
/-! Ar54: {"k": i} -/
namespace Ar
open PySem PySem.Spec PyProof.Rows L2
def dDct1 (x : Str) (i : Int) : DE := fun _ μ => .ok (.dK [(.inr x, .int i)]) μ
theorem q_dct1 {X : Cx} {E : XK} {x : Str} {i : Int} {j1 j2 : Nat} {p1 p2 pos : Pos} : QE X E (.Dict [some (.Constant (.str x) j1 p1)] [.Constant (.int i) j2 p2] pos) (dDct1 x i) := by
  refine ⟨_, pe_disp (pps_cons pe_str pe_int pps_nil) rfl rfl (by simp) (by simp), fun ρ F H Γ μ σ k s Q h p hp => ?_⟩
  refine ⟨upd_same, [(.inr x, .int i)], rfl, by simp, ?_⟩
  rw [L2.upd_upd]
  have hm : mergeK [] [((.inr x : Key), V.int i)] = [(.inr x, .int i)] := mergeK_nd _ _ (by simp)
  rw [hm]
  exact h ρ _ _ _ (Nx.newF_ (o := .dK [(.inr x, .int i)]) k hp) (k.newF (o := .dK [(.inr x, .int i)]) hp) (.dK upd_same (.cons (.int i) .nil))
end Ar

set_option Elab.async false
set_option linter.all false
set_option maxRecDepth 100000
set_option maxHeartbeats 4000000
/-! Ar55: == () whatever the items are -/
namespace Ar
open PySem PySem.Spec PyProof.Rows L2
def fEqN : Mu → D → D → Option D := fun _ x y => match x, y with
  | .tup ds, .tup [] => some (.bl ds.isEmpty)
  | _, _ => none
theorem od_eqN {X : Cx} (hu : X.A.units + 64 < cLine) : OpD X (compareOp .Eq) fEqN := by
  refine ⟨fun x y H Q => ∃ a b xs, x = .ref a ∧ y = .ref b ∧ SqT X.K H a xs ∧ SqT X.K H b [] ∧ Q (.bl xs.isEmpty) H, fun pins s σ H x y v u Q I rx ry h => ?_, fun ρ F H μ v w d e z k rv rw' ez Q q => ?_⟩
  · obtain ⟨a, b, xs, rfl, rfl, ha, hb, q⟩ := h
    cases (show v = Value.ref a from rx)
    cases (show u = Value.ref b from ry)
    obtain ⟨us, r1, ⟨o1, p1, c1, n1, d1⟩, _⟩ := I.tuple ha
    obtain ⟨ws, r2, ⟨o2, p2, c2, n2, d2⟩, _⟩ := I.tuple hb
    cases r2
    refine SeqAt.eq_tupleAt (e := fun _ => true) ⟨o1, p1, c1, n1, d1⟩ ⟨o2, p2, c2, n2, d2⟩ (by omega) (fun j h1 h2 => absurd h2 (by simp)) ?_
    refine ⟨.bl xs.isEmpty, H, I, ?_, q⟩
    show _ = Value.bool xs.isEmpty
    cases r1 <;> simp
  · unfold fEqN at ez
    split at ez
    · cases ez
      cases rv with
      | tup h1 h2 =>
        cases rw' with
        | tup h3 h4 =>
          cases h4
          have e : ∀ {vs : List V} {ds : List D}, DnAll X.K ρ F vs ds → vs.isEmpty = ds.isEmpty := fun r => by cases r <;> rfl
          refine ⟨_, _, _, rfl, rfl, k.ex.sqT h1, k.ex.sqT h3, ?_⟩
          rw [e h2]
          exact q ρ F H _ Nx.refl k (.bl _)
    · cases ez
theorem o_eqN {μ : Mu} {ds : List D} {P : D → Prop} : OkO (fEqN μ (.tup ds) (.tup [])) P = P (.bl ds.isEmpty) := rfl
end Ar

set_option Elab.async false
set_option linter.all false
set_option maxRecDepth 100000
set_option maxHeartbeats 4000000
/-! Ar56: repr({"k": i}); two tables are apart -/
namespace Ar
open PySem PySem.Spec PyProof.Rows L2
def dctT (x : Str) (i : Int) : PyData := .dict [(.str x, .int i)]
def fReprD : Mu → List D → Option D := fun _ ds => match ds with
  | [.dK [(.inr x, .int i)]] => if (dctT x i).showable = true ∧ (dctT x i).shown.length ≤ sizeLine then some (.str (dctT x i).shown) else none
  | _ => none
theorem cd_reprD {X : Cx} (hg : X.A.guards = some []) (hu : X.A.units + 64 < cLine) : CallD X (.builtin "repr") fReprD := by
  refine ⟨fun xs H Q => ∃ a x i, xs = [.ref a] ∧ H a = some (.dK [(.inr x, .int i)]) ∧ (dctT x i).showable = true ∧ (dctT x i).shown.length ≤ sizeLine ∧ Q (.str (dctT x i).shown) H, fun pins s σ H xs us Q I r h => ?_, fun ρ F H μ vs ds z k rv ez Q q => ?_⟩
  · obtain ⟨a, x, i, rfl, ha, hs, hl, qq⟩ := h
    obtain ⟨u, rfl, ru⟩ := vals1 r
    cases ru
    have hO : ObjOk X.prog X.w H s.heap a (.dK [(.inr x, .int i)]) := I.hok a _ ha
    obtain ⟨_, hne, vs, hkv, o, es, ep, ho, hx, hd, hk, hp, _⟩ := hO
    unfold KV at hkv
    cases hkv with
    | @cons p q ps qs h1 h2 =>
      cases h2
      obtain ⟨key, val⟩ := q
      obtain ⟨k1, k2⟩ := h1
      have k1 : Sum.inr x = key := k1
      subst k1
      obtain ⟨t, k2⟩ := k2
      generalize he : es.toList = l at hp
      cases hp with
      | @cons e _ es' _ e1 e2 e3 =>
        cases e3
        have e2 : e.val = val := e2
        have ev : e.val = .int i t := by rw [e2]; exact k2
        have e1 : keyIs (Sum.inr x) e.key = true := e1
        rcases keyIs_shape e1 with ⟨j, t2, z, _⟩ | ⟨y, t2, z, ek⟩
        · cases z
        · cases z
          have rd : Reads s.heap (.ref a) (.dict [(.str x, .int i)]) (a :: ([] ++ []) ++ ([] ++ [])) := .dict ho hx.1 hd (by rw [he, List.map_cons, List.map_nil, ek]; exact .cons (.str x t2) .nil) (by rw [he, List.map_cons, List.map_nil, ev]; exact .cons (.int i t) .nil)
          refine repr_of_reads' rd hs (fun _ z => ?_) hg ?_ (fun _ _ e => e) (fun h' u tk k => ⟨.str _, H, I.kept k, ⟨_, rfl⟩, qq⟩) hl
          · have z2 : sysModules = a := by simpa using z
            rw [z2] at hne
            simp at hne
          · show X.A.units + (PyData.depth (.dict [(.str x, .int i)]) + 1) < cLine
            simp [PyData.depth, PyData.depthKv]
            omega
  · unfold fReprD at ez
    split at ez
    · rename_i x i
      split at ez
      · rename_i hh
        cases ez
        rcases rv with _ | ⟨r1, r2⟩
        cases r2
        cases r1 with
        | dK h1 h2 =>
          cases h2 with
          | cons h2 h3 =>
            cases h3
            cases h2
            exact ⟨_, x, i, rfl, k.ex _ _ h1, hh.1, hh.2, q ρ F H _ Nx.refl k (.str _)⟩
      · cases ez
    · cases ez
/-- repr of data, of {} and of {"k": i} -/
abbrev fRpF : Mu → List D → Option D := orC (orC fRepr fReprE) fReprD
theorem SmD.rpF {w : Nat} {d : D} {μ : Mu} (h : SmD 20 w d) (hw : w ≤ 40000) : fRpF μ [d] = some (.str (shw d)) := by
  show (match orC fRepr fReprE μ [d] with | some z => some z | none => fReprD μ [d]) = _
  rw [h.rpE hw]
theorem dict_rpF0 {μ : Mu} : fRpF μ [.dK []] = some (.str "{}") := by
  show (match orC fRepr fReprE μ [.dK []] with | some z => some z | none => fReprD μ [.dK []]) = _
  rw [dict_rpE]
theorem dict_rpF1 {μ : Mu} {x : Str} {i : Int} (h1 : (dctT x i).showable = true) (h2 : (dctT x i).shown.length ≤ sizeLine) : fRpF μ [.dK [(.inr x, .int i)]] = some (.str (dctT x i).shown) := by
  have e1 : fRepr μ [.dK [(.inr x, .int i)]] = none := by
    show (if showD (.dK [(.inr x, .int i)]) = true then some (D.str (shw (.dK [(.inr x, .int i)]))) else none) = _
    have : showD (.dK [(.inr x, .int i)]) = false := rfl
    rw [this]; rfl
  have e : orC fRepr fReprE μ [.dK [(.inr x, .int i)]] = none := by
    unfold orC
    rw [e1]
    rfl
  show (match orC fRepr fReprE μ [.dK [(.inr x, .int i)]] with | some z => some z | none => fReprD μ [.dK [(.inr x, .int i)]]) = _
  rw [e]
  exact if_pos ⟨h1, h2⟩
/-- two tables stand apart -/
def ndB (K : PySem.W.Frag) (x y : Str) : Bool := decide ((He.cT K (x, none)).2 ≠ (He.cT K (y, none)).2)
theorem ndB_ok {K : PySem.W.Frag} {x y : Str} (h : ndB K x y = true) : (He.cT K (x, none)).2 ≠ (He.cT K (y, none)).2 := of_decide_eq_true h
end Ar

set_option Elab.async false
set_option linter.all false
set_option maxRecDepth 100000
set_option maxHeartbeats 4000000
/-! Ar57: == [] and != [] whatever the items are -/
namespace Ar
open PySem PySem.Spec PyProof.Rows L2
def fEqL : Mu → D → D → Option D := fun _ x y => match x, y with
  | .lst ds, .lst [] => some (.bl ds.isEmpty)
  | _, _ => none
def fNeL : Mu → D → D → Option D := fun _ x y => match x, y with
  | .lst ds, .lst [] => some (.bl (!ds.isEmpty))
  | _, _ => none
theorem lst_sim {X : Cx} {r : R2} {f : Mu → D → D → Option D} {g : Bool → Bool} (hf : ∀ μ x y z, f μ x y = some z → ∃ ds, x = .lst ds ∧ y = .lst [] ∧ z = .bl (g ds.isEmpty)) {op : Value → Value → Sem Value}
    (h : OpR X op fun x y H Q => ∃ a b xs, x = .ref a ∧ y = .ref b ∧ SqL X.K H a xs ∧ SqL X.K H b [] ∧ Q (.bl (g xs.isEmpty)) H) : OpD X op f := by
  refine ⟨_, h, fun ρ F H μ v w d e z k rv rw' ez Q q => ?_⟩
  obtain ⟨ds, rfl, rfl, rfl⟩ := hf _ _ _ _ ez
  cases rv with
  | lst h1 h2 =>
    cases rw' with
    | lst h3 h4 =>
      cases h4
      have e : ∀ {vs : List V} {ds : List D}, DnAll X.K ρ F vs ds → vs.isEmpty = ds.isEmpty := fun r => by cases r <;> rfl
      refine ⟨_, _, _, rfl, rfl, .inl (.inl (k.ex _ _ h1)), .inl (.inl (k.ex _ _ h3)), ?_⟩
      rw [e h2]
      exact q ρ F H _ Nx.refl k (.bl _)
theorem od_eqL {X : Cx} (hu : X.A.units + 64 < cLine) : OpD X (compareOp .Eq) fEqL := by
  refine lst_sim (r := fun _ _ _ _ => True) (g := id) (fun μ x y z h => ?_) fun pins s σ H x y v u Q I rx ry h => ?_
  · unfold fEqL at h
    split at h
    · cases h; exact ⟨_, rfl, rfl, rfl⟩
    · cases h
  · obtain ⟨a, b, xs, rfl, rfl, ha, hb, q⟩ := h
    cases (show v = Value.ref a from rx)
    cases (show u = Value.ref b from ry)
    obtain ⟨us, r1, p1, _⟩ := I.list ha
    obtain ⟨ws, r2, p2, _⟩ := I.list hb
    cases r2
    cases r1 with
    | nil => exact SeqAt.RcAt.lists (e := fun _ => true) p1.isList p2.isList rfl (by omega) (fun j h1 h2 => absurd h2 (by simp)) _ _ _ _ ⟨.bl true, H, I, rfl, q⟩
    | cons h t => exact SeqAt.RcAt.lists_lengths p1.isList p2.isList (by simp) (by omega) _ _ _ _ ⟨.bl false, H, I, rfl, q⟩
theorem od_neL {X : Cx} (hu : X.A.units + 64 < cLine) : OpD X (compareOp .NotEq) fNeL := by
  refine lst_sim (r := fun _ _ _ _ => True) (g := not) (fun μ x y z h => ?_) fun pins s σ H x y v u Q I rx ry h => ?_
  · unfold fNeL at h
    split at h
    · cases h; exact ⟨_, rfl, rfl, rfl⟩
    · cases h
  · obtain ⟨a, b, xs, rfl, rfl, ha, hb, q⟩ := h
    cases (show v = Value.ref a from rx)
    cases (show u = Value.ref b from ry)
    obtain ⟨us, r1, p1, _⟩ := I.list ha
    obtain ⟨ws, r2, p2, _⟩ := I.list hb
    cases r2
    cases r1 with
    | nil => exact SeqAt.RcNeAt.lists (e := fun _ => true) p1.isList p2.isList rfl (by omega) (fun j h1 h2 => absurd h2 (by simp)) _ _ _ _ ⟨.bl false, H, I, rfl, q⟩
    | cons h t => exact SeqAt.RcNeAt.lists_lengths p1.isList p2.isList (by simp) (by omega) _ _ _ _ ⟨.bl true, H, I, rfl, q⟩
theorem o_eqL {μ : Mu} {ds : List D} {P : D → Prop} : OkO (fEqL μ (.lst ds) (.lst [])) P = P (.bl ds.isEmpty) := rfl
theorem o_neL {μ : Mu} {ds : List D} {P : D → Prop} : OkO (fNeL μ (.lst ds) (.lst [])) P = P (.bl (!ds.isEmpty)) := rfl
end Ar

set_option Elab.async false
set_option linter.all false
set_option maxRecDepth 100000
set_option maxHeartbeats 4000000
/-! Ar58: C.nm(k = e), x.nm(e), x.nm(k = e) of a class with slots; what they raise flies on -/
namespace Ar
open PySem PySem.Spec PyProof.Rows L2
section
variable {X : Cx} {Z : CXT} {n : Nat} {f : Addr} {fd : FuncData} {ps : List Str} {sp : Sp} {pins : List (Addr × Obj)} {σ : L2.St} {H : Hp} {E : XK} {s : Shared}
theorem ranAtA {A : Around} {D : VK} {ar : Args} {us : List Value} {xs : List V} (G : Pm X.prog X.w X.K X.mg X.base Z n f fd ps sp) (hr : RoomG n A) (e0 : Env0 X.prog X.w X.K X.mg X.base A X.stack s H) (hx : Passes Z X E) (I : Inv X pins σ H s)
    (b : BindsTo s fd ar (ps.zip us)) (r : Vals xs us) (h : sp xs H D E) : codeAny (model X.prog X.w) A (.call (.ref f) ar) (fun r s' => match r with | .ok (.ret v) => EP X pins σ D v s' | .ok _ => False | .error e => X.xe e s') s := by
  refine codeAny_mono (G.go A X.stack s H ar us xs D E hr e0 b r h) fun z s' q => ?_
  match z, q with
  | .error err, q => exact hx pins σ H s err s' I q
  | .ok (.ret u), q => exact I.after q
end
/-- a class method with keywords -/
structure ClsK (P : Program) (w : World) (K : PySem.W.Frag) (mg : Str → Option Value) (base : Heap) (C nm : Str) (k : Nat) (ks : List Str) (m : Fn) : Prop where
  rd : ClX.CRead K (He.ga K C) (.type "type")
  ex : ∃ p g fd ps, ClX.CMet K (He.ga K C) (.type "type") nm p g ∧ KBn K fd ps 1 ks (fun us ws => pick [0, 1] (us ++ ws)) (fun vs zs => pick [0, 1] (vs ++ zs)) ∧ Pm P w K mg base (L2.CX P w) k g fd ps (spM K m)
theorem clsk {P : Program} {w : World} {K : PySem.W.Frag} {mg : Str → Option Value} {base : Heap} {d : WrD} {C nm : Str} {fd : FuncData} {ps ks : List Str} {k : Nat} {m : Fn} (hw : d.w = (C, nm, "classmethod")) (c : d.ok K = true) (F : FunD K d.nm d.ql d.pa d.bo d.sc [] [] (wAd K d.w) fd)
    (hk : ∀ (kV doc pm' : Value) (an : Option Addr) (cdv ct : Value) (us ws : List Value), us.length = 1 → ws.length = ks.length → bindArgs (PySem.W.fnOf d.nm d.ql d.pa d.bo d.sc .none kV doc pm' an cdv ct) ⟨us, ks.zip ws⟩ = pure (ps.zip (pick [0, 1] (us ++ ws))))
    (ok : Pm P w K mg base (L2.CX P w) k (wAd K d.w) fd ps (spM K m)) : ClsK P w K mg base C nm k ks m := by
  obtain ⟨c1, c⟩ := He.ba c
  obtain ⟨c2, c⟩ := He.ba c
  obtain ⟨c3, c⟩ := He.ba c
  have h2 := wrHd_ok c2
  unfold wrRd at c3
  rw [hw] at c3 h2 F ok
  rw [if_neg (show ¬ ("classmethod" = "property") by decide)] at c3
  obtain ⟨g1, c3⟩ := He.ba c3
  obtain ⟨g2, c3⟩ := He.ba c3
  obtain ⟨g3, g4⟩ := He.ba c3
  exact ⟨⟨g1, He.eqO_ok g2⟩, _, _, fd, ps, ⟨cmAt_ok g3, h2, g4⟩, kbn_of F 1 ks [0, 1] hk, ok⟩
def dClsK (C : Str) (m : Fn) (a : DA) : DE := fun Γ μ => (a Γ μ).bind fun ds μ1 => match ds with
  | [d] => m [.glo C, d] μ1
  | _ => .stk
theorem q_clsMK {X : Cx} {E : XK} {C nm : Str} {m : Fn} {k : Nat} {ks : List Str} {kws : List Keyword} {dk : DA} {p apos pos : Pos} {pl : Sem Bool} (G : ClsK X.prog X.w X.K X.mg X.base C nm k ks m) (hr : RoomG k X.A) (hx : Passes (L2.CX X.prog X.w) X E) (gl : X.mg C = some (.ref (He.ga X.K C))) (ha : QK X E kws dk) (hg : Gl X C := by rfl)
    (hd : (C == ("__debug__" : Str)) = false := by decide) (hall : (backToKw pos (keywordEach kws X.env)).all (·.1.isSome) = true := by rfl) (hks : (backToKw pos (keywordEach kws X.env)).filterMap (·.1) = ks := by rfl) (hl : ks.length = 1 := by rfl)
    (hpl : ((backTo pos (starEach [] X.env)).any (·.1) || (backToKw pos (keywordEach kws X.env)).any (·.1.isNone)) = false := by rfl)
    (ht : eval (.Call (.Attribute (.Name C p) nm apos) [] kws pos) X.env = (do
      let ov ← eval (.Name C p) X.env
      standAt apos.atName
      let (f, first) ← holding [ov] (getMethod ov nm pl)
      callWith pos f first (backTo pos (starEach [] X.env)) (backToKw pos (keywordEach kws X.env))) := by rfl) : QE X E (.Call (.Attribute (.Name C p) nm apos) [] kws pos) (dClsK C m dk) := by
  obtain ⟨tk, a1, a2⟩ := ha.ex
  obtain ⟨pp, g, fd, ps, c, hb, h6⟩ := G.ex
  refine ⟨fun σ H Q => tk σ H fun vs H2 => vs.length = 1 ∧ spM X.K m (pick [0, 1] ([.ref (He.ga X.K C)] ++ vs)) H2 Q E, ⟨fun pins s σ H Q I h => ?_⟩, ?_⟩
  · refine PySem.W.methodCall_KW (pl := pl) (ld_glob I hg gl ?_ hd) ht
    refine ClX.getmethcm_ok I G.rd c fun s2 I2 => ?_
    have hq := ClX.pin_at I2
    refine PySem.W.callWith_of (P := PySem.W.MethP X.K s.heap.objs.size g (.ref (He.ga X.K C))) hpl (PySem.W.keeps_M c.fi) (PyProof.Rows.evalArgs_kw2_nil hall ?_)
    refine thn (a1.run pos _ s2 σ H _ I2 h) fun ws s3 ⟨zs, H2, I3, rz, l1, q2⟩ => ⟨⟨ClX.pin_at I3, I3.kIn⟩, ?_⟩
    rw [hks]
    have r2 := hb.rel (vs := [V.ref (He.ga X.K C)]) (us := [Value.ref (He.ga X.K C)]) (.cons rfl .nil) rz
    have z : wpAny (model X.prog X.w) X.A (call (.ref s.heap.objs.size) [] (ks.zip ws)) (EP X ((s.heap.objs.size, PySem.W.methodObj (.ref g) (.ref (He.ga X.K C))) :: pins) σ Q) X.xe s3 := by
      refine wpAny_call (PySem.W.method_call (ClX.pin_at I3) (ranAtA (us := pick [0, 1] ([Value.ref (He.ga X.K C)] ++ ws)) (xs := pick [0, 1] ([V.ref (He.ga X.K C)] ++ zs)) h6 hr I3.env0 hx I3 ?_ r2 q2))
      exact hb.to _ [Value.ref (He.ga X.K C)] ws I3.kIn rfl (by rw [← rz.length, l1, hl])
    exact thn z fun _ _ y => ClX.unpinE y
  · intro ρ F H Γ μ σ kk s Q h
    refine a2 ρ F H Γ μ σ kk s _ ((WpR.bind h).mono (fun ds μ1 q => ?_) fun _ _ q => q)
    intro ρ1 F1 H1 vs n1 k1 r1
    split at q
    · rename_i d
      cases r1 with
      | cons r1 r2 =>
        cases r2
        refine ⟨rfl, ρ1, F1, μ1, [.glo C, d], k1, .cons (.glo C) (.cons r1 .nil), q.mono (fun d μ2 q => QV.nx n1 q) fun _ _ q => XP.nx n1 q⟩
    · exact q.elim
theorem ok_clsK [ExW] {C : Str} {m : Fn} {e : DE} {Γ : Gam} {μ : Mu} {Q : D → Mu → Prop} : Ok (dClsK C m (daCons e daNil) Γ μ) Q = Ok (e Γ μ) fun d μ1 => Ok (m [.glo C, d] μ1) Q := by
  unfold dClsK
  rw [ok_bind, ok_cons]
  rfl
/-- a method of a class with slots, its parameters by position or by name -/
structure MthK (P : Program) (w : World) (K : PySem.W.Frag) (mg : Str → Option Value) (base : Heap) (C nm : Str) (k : Nat) (ks : List Str) (m : Fn) : Prop where
  sc : SlX.SCls K (He.ga K C)
  ex : ∃ g fd ps, L2.Meth K (He.ga K C) nm g ∧ Binds K fd ps [] ∧ KBn K fd ps 1 ks (fun us ws => pick [0, 1] (us ++ ws)) (fun vs zs => pick [0, 1] (vs ++ zs)) ∧ Pm P w K mg base (L2.CX P w) k g fd ps (spM K m)
def dMthO (C : Str) (m : Fn) (o : DE) (a : DA) : DE := fun Γ μ => (o Γ μ).bind fun x μ1 => match x with
  | .slt C' vs => if C' = C then (a Γ μ1).bind fun ds μ2 => match ds with
    | [d] => m [.slt C' vs, d] μ2
    | _ => .stk else .stk
  | _ => .stk
theorem ok_mthO [ExW] {C : Str} {m : Fn} {o e : DE} {Γ : Gam} {μ : Mu} {Q : D → Mu → Prop} : Ok (dMthO C m o (daCons e daNil) Γ μ) Q = Ok (o Γ μ) fun x μ1 => ∃ vs, x = .slt C vs ∧ Ok (e Γ μ1) fun d μ2 => Ok (m [.slt C vs, d] μ2) Q := by
  unfold dMthO
  rw [ok_bind]
  congr 1; funext x μ1
  refine propext ⟨fun h => ?_, fun ⟨vs, e1, h⟩ => ?_⟩
  · split at h
    · split at h
      · rename_i hC
        subst hC
        refine ⟨_, rfl, ?_⟩
        rw [ok_bind, ok_cons] at h
        exact h
      · exact False.elim h
    · exact False.elim h
  · subst e1
    simp only [if_true]
    rw [ok_bind, ok_cons]
    exact h
theorem q_mth {X : Cx} {E : XK} {C nm : Str} {m : Fn} {k : Nat} {ks : List Str} {o e : Expr} {es : List Expr} {do_ : DE} {da : DA} {apos pos : Pos} {pl : Sem Bool} (G : MthK X.prog X.w X.K X.mg X.base C nm k ks m) (hr : RoomG k X.A) (hx : Passes (L2.CX X.prog X.w) X E) (ho : QE X E o do_) (ha : QA X E (e :: es) da)
    (hst : starEach (e :: es) X.env = (false, eval e X.env) :: starEach es X.env := by rfl) (hpl : (backTo pos (starEach es X.env)).any (·.1) = false := by rfl)
    (ht : eval (.Call (.Attribute o nm apos) (e :: es) [] pos) X.env = (do
      let ov ← eval o X.env
      standAt apos.atName
      let (f, first) ← holding [ov] (getMethod ov nm pl)
      callWith pos f first (backTo pos (starEach (e :: es) X.env)) (backToKw pos (keywordEach [] X.env))) := by rfl) : QE X E (.Call (.Attribute o nm apos) (e :: es) [] pos) (dMthO C m do_ da) := by
  obtain ⟨to, o1, o2⟩ := ho.ex
  obtain ⟨ta, a1, a2⟩ := ha.ex
  obtain ⟨g, fd, ps, hm, hb, _, h6⟩ := G.ex
  refine ⟨fun σ H Q => to σ H fun x H1 => ∃ a dx vs, x = .ref a ∧ SlX.Slt H1 a (He.ga X.K C) dx vs ∧ ta σ H1 fun ws H2 => spM X.K m (.ref a :: ws) H2 Q E, ⟨fun pins s σ H Q I h => ?_⟩, ?_⟩
  · refine PySem.W.methodCall_KW (pl := pl) (thn (o1.run pins s σ H _ I h) fun u s1 ⟨x, H1, I1, rx, a, dx, vs, ex, hsl, q⟩ => ?_) ht
    subst ex
    obtain rfl : u = Value.ref a := rx
    refine SlX.getmethsl_ok I1 hsl G.sc hm ?_
    refine PySem.W.callWith_K (first := [.ref a]) (h₀ := X.base) I.ok.mod.kin hm.kp (thn (a1.run pos pins s1 σ H1 _ I1 q) fun us s2 ⟨ws, H2, I2, r, q2⟩ => ⟨I2.kIn, ?_⟩) hst hpl
    refine wpAny_call (ranAt (us := .ref a :: us) (xs := .ref a :: ws) h6 hr I2.env0 hx I2 ?_ (.cons rfl r) q2)
    have b := hb _ (.ref a :: us) I2.kIn (by have h1 := h6.ln _ _ _ _ q2; have h2 := r.length; simp at h1 ⊢; omega)
    rw [List.append_nil] at b
    exact b
  · intro ρ F H Γ μ σ kk s Q h
    refine o2 ρ F H Γ μ σ kk s _ ((WpR.bind h).mono (fun x μ1 q => ?_) fun _ _ q => q)
    intro ρ1 F1 H1 v n1 k1 r1
    split at q
    · rename_i C' vs
      split at q
      · rename_i hC
        subst hC
        cases r1 with
        | @slt a dx _ vs' _ g1 g2 g3 =>
          refine ⟨a, dx, vs'.map some, rfl, .inr ⟨k1.ex _ _ g1, k1.ex _ _ g2⟩, a2 ρ1 F1 H1 Γ μ1 σ k1 (s.nx n1) _ ((WpR.bind q).mono (fun ds μ2 q2 => ?_) fun _ _ q => XP.nx n1 q)⟩
          intro ρ2 F2 H2 ws n2 k2 r2
          split at q2
          · rename_i d
            exact ⟨ρ2, F2, μ2, [.slt C' vs, d], k2, .cons (Dn.nx n2 (.slt g1 g2 g3)) r2, q2.mono (fun d μ2 q => QV.nx (n1.trans n2) q) fun _ _ q => XP.nx (n1.trans n2) q⟩
          · exact q2.elim
      · exact q.elim
    · exact q.elim
theorem q_mthK {X : Cx} {E : XK} {C nm : Str} {m : Fn} {k : Nat} {ks : List Str} {o : Expr} {kws : List Keyword} {do_ : DE} {dk : DA} {apos pos : Pos} {pl : Sem Bool} (G : MthK X.prog X.w X.K X.mg X.base C nm k ks m) (hr : RoomG k X.A) (hx : Passes (L2.CX X.prog X.w) X E) (ho : QE X E o do_) (ha : QK X E kws dk)
    (hall : (backToKw pos (keywordEach kws X.env)).all (·.1.isSome) = true := by rfl) (hks : (backToKw pos (keywordEach kws X.env)).filterMap (·.1) = ks := by rfl) (hl : ks.length = 1 := by rfl)
    (hpl : ((backTo pos (starEach [] X.env)).any (·.1) || (backToKw pos (keywordEach kws X.env)).any (·.1.isNone)) = false := by rfl)
    (ht : eval (.Call (.Attribute o nm apos) [] kws pos) X.env = (do
      let ov ← eval o X.env
      standAt apos.atName
      let (f, first) ← holding [ov] (getMethod ov nm pl)
      callWith pos f first (backTo pos (starEach [] X.env)) (backToKw pos (keywordEach kws X.env))) := by rfl) : QE X E (.Call (.Attribute o nm apos) [] kws pos) (dMthO C m do_ dk) := by
  obtain ⟨to, o1, o2⟩ := ho.ex
  obtain ⟨tk, a1, a2⟩ := ha.ex
  obtain ⟨g, fd, ps, hm, _, hb, h6⟩ := G.ex
  refine ⟨fun σ H Q => to σ H fun x H1 => ∃ a dx vs, x = .ref a ∧ SlX.Slt H1 a (He.ga X.K C) dx vs ∧ tk σ H1 fun ws H2 => ws.length = 1 ∧ spM X.K m (pick [0, 1] ([.ref a] ++ ws)) H2 Q E, ⟨fun pins s σ H Q I h => ?_⟩, ?_⟩
  · refine PySem.W.methodCall_KW (pl := pl) (thn (o1.run pins s σ H _ I h) fun u s1 ⟨x, H1, I1, rx, a, dx, vs, ex, hsl, q⟩ => ?_) ht
    subst ex
    obtain rfl : u = Value.ref a := rx
    refine SlX.getmethsl_ok I1 hsl G.sc hm ?_
    refine PySem.W.callWith_KW0 (first := [.ref a]) (h₀ := X.base) I.ok.mod.kin hm.kp hall (thn (a1.run pos pins s1 σ H1 _ I1 q) fun us s2 ⟨zs, H2, I2, rz, l1, q2⟩ => ⟨I2.kIn, ?_⟩) hpl
    rw [hks]
    have r2 := hb.rel (vs := [V.ref a]) (us := [Value.ref a]) (.cons rfl .nil) rz
    refine wpAny_call (ranAtA (us := pick [0, 1] ([Value.ref a] ++ us)) (xs := pick [0, 1] ([V.ref a] ++ zs)) h6 hr I2.env0 hx I2 ?_ r2 q2)
    exact hb.to _ [Value.ref a] us I2.kIn rfl (by rw [← rz.length, l1, hl])
  · intro ρ F H Γ μ σ kk s Q h
    refine o2 ρ F H Γ μ σ kk s _ ((WpR.bind h).mono (fun x μ1 q => ?_) fun _ _ q => q)
    intro ρ1 F1 H1 v n1 k1 r1
    split at q
    · rename_i C' vs
      split at q
      · rename_i hC
        subst hC
        cases r1 with
        | @slt a dx _ vs' _ g1 g2 g3 =>
          refine ⟨a, dx, vs'.map some, rfl, .inr ⟨k1.ex _ _ g1, k1.ex _ _ g2⟩, a2 ρ1 F1 H1 Γ μ1 σ k1 (s.nx n1) _ ((WpR.bind q).mono (fun ds μ2 q2 => ?_) fun _ _ q => XP.nx n1 q)⟩
          intro ρ2 F2 H2 ws n2 k2 r2
          split at q2
          · rename_i d
            cases r2 with
            | cons r2 r3 =>
              cases r3
              exact ⟨rfl, ρ2, F2, μ2, [.slt C' vs, d], k2, .cons (Dn.nx n2 (.slt g1 g2 g3)) (.cons r2 .nil), q2.mono (fun d μ2 q => QV.nx (n1.trans n2) q) fun _ _ q => XP.nx (n1.trans n2) q⟩
          · exact q2.elim
      · exact q.elim
    · exact q.elim
theorem mthk {P : Program} {w : World} {K : PySem.W.Frag} {mg : Str → Option Value} {base : Heap} {C nm qual : Str} {params : Arguments} {body : List Stmt} {scope : Scope} {f : Addr} {fd : FuncData} {ps ks : List Str} {k : Nat} {m : Fn} (F : FunD K nm qual params body scope [] [] f fd) (sc : SlX.SCls K (He.ga K C))
    (h1 : PySem.W.findIn K (.ref (He.ga K C)) nm = some (some (.ref f))) (h2 : PySem.W.isFn K (.ref f) = true) (h3 : PySem.W.keepIn K (.ref f) = true)
    (hb : ∀ (kV doc pm : Value) (an : Option Addr) (cdv ct : Value) (us : List Value), us.length = ps.length → bindArgs (PySem.W.fnOf nm qual params body scope Value.none kV doc pm an cdv ct) { pos := us } = pure (ps.zip us))
    (hk : ∀ (kV doc pm' : Value) (an : Option Addr) (cdv ct : Value) (us ws : List Value), us.length = 1 → ws.length = ks.length → bindArgs (PySem.W.fnOf nm qual params body scope .none kV doc pm' an cdv ct) ⟨us, ks.zip ws⟩ = pure (ps.zip (pick [0, 1] (us ++ ws))))
    (ok : Pm P w K mg base (L2.CX P w) k f fd ps (spM K m)) : MthK P w K mg base C nm k ks m := ⟨sc, f, fd, ps, ⟨h1, h2, h3⟩, F.bindsN hb, kbn_of F 1 ks [0, 1] hk, ok⟩
end Ar

set_option Elab.async false
set_option linter.all false
set_option maxRecDepth 100000
set_option maxHeartbeats 4000000
/-! Ar59: isinstance(x, T), x of a class with slots, T a built-in class: False -/
namespace Ar
open PySem PySem.Spec PyProof.Rows L2
structure IsiT (K : PySem.W.Frag) (C : Str) (T : String) : Prop where
  s : SlX.SCls K (He.ga K C)
  i : SlX.SIsi K (He.ga K C)
  one : PySem.W.kitOne K (.ref (He.ga K C)) (.type T) = some false
def isiTB (K : PySem.W.Frag) (C : Str) (T : String) : Bool := decide (PySem.W.kitOne K (.ref (He.ga K C)) (.type T) = some false)
theorem isiT_ok {K : PySem.W.Frag} {C : Str} {T : String} (k : IsiK K C) (h : isiTB K C T = true) : IsiT K C T := ⟨k.s, k.i, of_decide_eq_true h⟩
def fIsaT (C : Str) (T : String) : Mu → List D → Option D := fun _ ds => match ds with
  | [.slt C' _, .ty T2] => if C' = C ∧ T2 = T then some (.bl false) else none
  | _ => none
theorem cd_isaT {X : Cx} {C : Str} {T : String} (k : IsiT X.K C T) : CallD X (.builtin "isinstance") (fIsaT C T) := by
  refine ⟨_, SlX.call_isiSl (.type T), fun ρ F H μ vs ds z kk rv ez Q q => ?_⟩
  unfold fIsaT at ez
  split at ez
  · rename_i C' ds T2
    split at ez
    · rename_i hC
      obtain ⟨rfl, rfl⟩ := hC
      cases ez
      cases rv with
      | cons r1 r2 =>
        cases r2 with
        | cons r2 r3 =>
          cases r3
          cases r2
          cases r1 with
          | @slt a dx _ vs _ h1 h2 h3 =>
            exact ⟨a, _, dx, vs.map some, _, false, rfl, rfl, fun w hw => hw, .inr ⟨kk.ex _ _ h1, kk.ex _ _ h2⟩, k.s, k.i, k.one, q ρ F H _ Nx.refl kk (.bl false)⟩
    · cases ez
  · cases ez
end Ar

set_option Elab.async false
set_option linter.all false
set_option maxRecDepth 100000
set_option maxHeartbeats 4000000
/-! Ar60: list + list, the sum a list that changes -/
namespace Ar
open PySem PySem.Spec PyProof.Rows L2
def dAddM (a b : DE) : DE := fun Γ μ => (a Γ μ).bind fun x μ1 => (b Γ μ1).bind fun y μ2 => match seqL μ2 x, seqL μ2 y with
  | some xs, some ys => if xs.length + ys.length ≤ 1000000 then .ok (.loc μ2.length) (μ2 ++ [.lst (xs ++ ys)]) else .stk
  | _, _ => .stk
theorem q_addM {X : Cx} {E : XK} {a b : Expr} {da db : DE} {pos : Pos} (ha : QE X E a da) (hb : QE X E b db) : QE X E (.BinOp a .Add b pos) (dAddM da db) := by
  obtain ⟨ta, a1, a2⟩ := ha.ex
  obtain ⟨tb, b1, b2⟩ := hb.ex
  refine ⟨_, pe_op op_catR a1 b1, ?_⟩
  intro ρ F H Γ μ σ k s Q h
  refine a2 ρ F H Γ μ σ k s _ ((WpR.bind h).mono (fun x μ1 q => ?_) fun _ _ q => q)
  intro ρ1 F1 H1 v n1 k1 r1
  refine b2 ρ1 F1 H1 Γ μ1 σ k1 (s.nx n1) _ ((WpR.bind q).mono (fun y μ2 q => ?_) fun _ _ q => XP.nx n1 q)
  intro ρ2 F2 H2 w n2 k2 r2
  have r1 := r1.nx n2
  split at q
  · rename_i xs ys e1 e2
    split at q
    · rename_i hl
      obtain ⟨la, vs, rfl, h1, h2⟩ := seqL_ok k2 r1 e1
      obtain ⟨lb, ws, rfl, g1, g2⟩ := seqL_ok k2 r2 e2
      refine ⟨_, _, _, _, rfl, rfl, h1, g1, by rw [h2.length, g2.length]; exact le_million hl, fun p hp => ?_⟩
      obtain ⟨n3, k3, r3⟩ := new_lstM k2 (h2.append g2) hp
      exact q _ _ _ _ ((n1.trans n2).trans n3) k3 r3
    · exact q.elim
  · exact q.elim
theorem ok_addM [ExW] {a b : DE} {Γ : Gam} {μ : Mu} {Q : D → Mu → Prop} : Ok (dAddM a b Γ μ) Q = Ok (a Γ μ) fun x μ1 => Ok (b Γ μ1) fun y μ2 => ∃ xs ys, seqL μ2 x = some xs ∧ seqL μ2 y = some ys ∧ xs.length + ys.length ≤ 1000000 ∧ Q (.loc μ2.length) (μ2 ++ [.lst (xs ++ ys)]) := by
  unfold dAddM
  rw [ok_bind]
  congr 1; funext x μ1
  rw [ok_bind]
  congr 1; funext y μ2
  refine propext ⟨fun h => ?_, fun ⟨xs, ys, e1, e2, hl, q⟩ => ?_⟩
  · split at h
    · rename_i xs ys e1 e2
      split at h
      · rename_i hl
        exact ⟨xs, ys, e1, e2, hl, h⟩
      · exact False.elim h
    · exact False.elim h
  · rw [e1, e2]
    simp only [hl, if_true]
    exact q
end Ar

set_option Elab.async false
set_option linter.all false
set_option maxRecDepth 100000
set_option maxHeartbeats 4000000
/-! Ar61: x.replace(y, z), y and z written texts, at the end of a list whose first item is e + text -/
namespace Ar
open PySem PySem.Spec PyProof.Rows L2
structure QAT (X : Cx) (E : XK) (es : List Expr) (da : DA) : Prop where
  ex : ∃ ta, PAT X es ta ∧ SimA X.K E ta da
def dRepl (y z : Str) (o : DE) : DE := fun Γ μ => (o Γ μ).bind fun d μ1 => match d with
  | .str x => if x.length + (x.length + 1) * z.length ≤ 16777216 then .ok (.str (Txt.replace x y z)) μ1 else .stk
  | _ => .stk
section
variable {X : Cx} {E : XK}
theorem pat_cons {e : Expr} {es : List Expr} {te : TE} {t : TA} (ha : PE X e te) (hr : PAT X es t) (hs : starEach (e :: es) X.env = (false, eval e X.env) :: starEach es X.env := by rfl) : PAT X (e :: es) (tCons te t) := by
  intro pos pins s σ H Q h0 I h
  rw [hs]
  show wpAny _ _ (spliced ((false, eval e X.env) :: backTo pos (starEach es X.env))) _ _ s
  refine Calls.spliced_cons (wpAny_with_toks h0 (wpAny_mono (ha.run pins s σ H _ I h) (fun u s1 ⟨x, H1, I1, r1, q1⟩ hk => ?_) fun _ _ z _ => z))
  exact thn (hr pos pins s1 σ H1 _ hk I1 q1) fun us s2 ⟨xs, H2, I2, r2, q2⟩ => ⟨x :: xs, H2, I2, .cons r1 r2, q2⟩
theorem pat_one {e : Expr} {te : TE} (ha : PET X e te) (hs : starEach [e] X.env = (false, eval e X.env) :: starEach [] X.env := by rfl) : PAT X [e] (tCons te tNil) := by
  intro pos pins s σ H Q h0 I h
  rw [hs]
  show wpAny _ _ (spliced ((false, eval e X.env) :: backTo pos (starEach [] X.env))) _ _ s
  refine Calls.spliced_cons (thn (ha pins s σ H _ h0 I h) fun u s1 ⟨x, H1, I1, r1, q1⟩ => ?_)
  exact thn (pa_nil.run pos pins s1 σ H1 _ I1 q1) fun us s2 ⟨xs, H2, I2, r2, q2⟩ => ⟨x :: xs, H2, I2, .cons r1 r2, q2⟩
theorem pa_bump {e : Expr} {es : List Expr} {c : Str} {j : Nat} {cp bp : Pos} {r : R2} {te : TE} {t : TA} (ho : OpR X (binaryOp .Add) r) (ha : PE X e te) (hr : PAT X es t)
    (hs : starEach (.BinOp e .Add (.Constant (.str c) j cp) bp :: es) X.env = (false, eval (.BinOp e .Add (.Constant (.str c) j cp) bp) X.env) :: starEach es X.env := by rfl) :
    PA X (.BinOp e .Add (.Constant (.str c) j cp) bp :: es) (tCons (tOp r te (fun σ H Q => Q (.str c) H)) t) := by
  refine ⟨fun pos pins s σ H Q I h => ?_⟩
  rw [hs]
  show wpAny _ _ (spliced ((false, eval (.BinOp e .Add (.Constant (.str c) j cp) bp) X.env) :: backTo pos (starEach es X.env))) _ _ s
  refine Calls.spliced_cons (wpAny_BinOp (thn (ha.run pins s σ H _ I h) fun v s1 ⟨x, H1, I1, rx, q1⟩ => Calls.Constant_str ?_))
  have I2 := I1.tok (s1.toks + 1)
  refine wpAny_with_toks (n := 1) (by show 1 ≤ s1.toks + 1; omega) (wpAny_mono (ho pins _ σ H1 x (.str c) v (.str c s1.toks) _ I2 rx ⟨_, rfl⟩ q1) (fun u s2 ⟨y, H2, I3, ry, q2⟩ hk => ?_) fun _ _ z _ => z)
  exact thn (hr pos pins s2 σ H2 _ hk I3 q2) fun us s3 ⟨xs, H3, I4, r3, q3⟩ => ⟨y :: xs, H3, I4, .cons ry r3, q3⟩
theorem qat_cons {e : Expr} {es : List Expr} {de : DE} {da : DA} (ha : QE X E e de) (hr : QAT X E es da) (hs : starEach (e :: es) X.env = (false, eval e X.env) :: starEach es X.env := by rfl) : QAT X E (e :: es) (daCons de da) := by
  obtain ⟨te, a1, a2⟩ := ha.ex
  obtain ⟨ta, b1, b2⟩ := hr.ex
  exact ⟨_, pat_cons a1 b1 hs, sim_cons a2 b2⟩
theorem sim_repl {K : PySem.W.Frag} {to : TE} {do_ : DE} {y z : Str} (h : SimE K E to do_) : SimE K E (CwR.tReplC to y z) (dRepl y z do_) := by
  intro ρ F H Γ μ σ k s Q hh
  refine h ρ F H Γ μ σ k s _ ((WpR.bind hh).mono (fun d μ1 q => ?_) fun _ _ q => q)
  intro ρ1 F1 H1 v n1 k1 r1
  split at q
  · rename_i x
    split at q
    · rename_i hl
      cases r1
      exact ⟨x, rfl, hl, q ρ1 F1 H1 _ n1 k1 (.str _)⟩
    · exact q.elim
  · exact q.elim
theorem qat_repl {o : Expr} {do_ : DE} {y z : Str} {j k : Nat} {c0 c1 apos pos : Pos} (ho : QE X E o do_) (hyz : (y == z) = false := by decide)
    (hst : starEach [.Constant (.str y) j c0, .Constant (.str z) k c1] X.env = [(false, eval (.Constant (.str y) j c0) X.env), (false, eval (.Constant (.str z) k c1) X.env)] := by rfl)
    (hbase : attributeBase o "replace" X.env (eval o X.env) = eval o X.env := by rfl) (hline : (apos.endLine == pos.line) = true := by rfl)
    (hs : starEach [.Call (.Attribute o "replace" apos) [.Constant (.str y) j c0, .Constant (.str z) k c1] [] pos] X.env = (false, eval (.Call (.Attribute o "replace" apos) [.Constant (.str y) j c0, .Constant (.str z) k c1] [] pos) X.env) :: starEach [] X.env := by rfl) :
    QAT X E [.Call (.Attribute o "replace" apos) [.Constant (.str y) j c0, .Constant (.str z) k c1] [] pos] (daCons (dRepl y z do_) daNil) := by
  obtain ⟨to, a1, a2⟩ := ho.ex
  exact ⟨_, pat_one (CwR.pet_replC a1 hyz hst hbase hline) hs, sim_cons (sim_repl a2) sim_nil⟩
theorem qa_bump {e : Expr} {es : List Expr} {c : Str} {j : Nat} {cp bp : Pos} {f : Mu → D → D → Option D} {de : DE} {da : DA} (ho : OpD X (binaryOp .Add) f) (ha : QE X E e de) (hr : QAT X E es da)
    (hs : starEach (.BinOp e .Add (.Constant (.str c) j cp) bp :: es) X.env = (false, eval (.BinOp e .Add (.Constant (.str c) j cp) bp) X.env) :: starEach es X.env := by rfl) :
    QA X E (.BinOp e .Add (.Constant (.str c) j cp) bp :: es) (daCons (dBin f de (dC (.str c))) da) := by
  obtain ⟨r, h1, h2⟩ := ho.ex
  obtain ⟨te, a1, a2⟩ := ha.ex
  obtain ⟨ta, b1, b2⟩ := hr.ex
  exact ⟨_, pa_bump h1 a1 b1 hs, sim_cons (sim_bin h2 a2 (sim_c fun _ _ => .str c)) b2⟩
end
theorem ok_repl [ExW] {y z : Str} {o : DE} {Γ : Gam} {μ : Mu} {Q : D → Mu → Prop} : Ok (dRepl y z o Γ μ) Q = Ok (o Γ μ) fun d μ1 => ∃ x, d = .str x ∧ x.length + (x.length + 1) * z.length ≤ 16777216 ∧ Q (.str (Txt.replace x y z)) μ1 := by
  unfold dRepl
  rw [ok_bind]
  congr 1; funext d μ1
  refine propext ⟨fun h => ?_, fun ⟨x, e, hl, q⟩ => ?_⟩
  · split at h
    · split at h
      · rename_i hl
        exact ⟨_, rfl, hl, h⟩
      · exact False.elim h
    · exact False.elim h
  · subst e
    simp only [hl, if_true]
    exact q
end Ar

set_option Elab.async false
set_option linter.all false
set_option maxRecDepth 100000
set_option maxHeartbeats 4000000
/-! Ar62: s.split(sep) as a changing list; == and != of two instances of a class with an own __eq__ alone -/
namespace Ar
open PySem PySem.Spec PyProof.Rows L2
/-- s.split(sep), the list changes later -/
def dSplM (a b : DE) : DE := fun Γ μ => (a Γ μ).bind fun x μ1 => match x with
  | .str a => (b Γ μ1).bind fun y μ2 => match y with
    | .str b => if b.length ≠ 0 ∧ a.length ≤ 1000000 then .ok (.loc μ2.length) (μ2 ++ [.lst ((Txt.split a b).map .str)]) else .stk
    | _ => .stk
  | _ => .stk
section
variable {X : Cx} {E : XK} {o e : Expr} {do_ de : DE} {apos cpos : Pos}
theorem q_splM (ho : QE X E o do_) (he : QE X E e de) (hs : starEach [e] X.env = [(false, eval e X.env)] := by rfl) (hbase : attributeBase o "split" X.env (eval o X.env) = eval o X.env := by rfl) (hline : (apos.endLine == cpos.line) = true := by rfl) :
    QE X E (.Call (.Attribute o "split" apos) [e] [] cpos) (dSplM do_ de) := by
  obtain ⟨to, o1, o2⟩ := ho.ex
  obtain ⟨te, e1, e2⟩ := he.ex
  refine ⟨_, pe_split o1 e1 hs hbase hline, ?_⟩
  intro ρ F H Γ μ σ k s Q h
  refine o2 ρ F H Γ μ σ k s _ ((WpR.bind h).mono (fun x μ1 q => ?_) fun _ _ q => q)
  intro ρ1 F1 H1 v n1 k1 r1
  split at q
  · rename_i a
    cases r1
    refine ⟨⟨a, rfl⟩, ?_⟩
    refine e2 ρ1 F1 H1 Γ μ1 σ k1 (s.nx n1) _ ((WpR.bind q).mono (fun y μ2 q => ?_) fun _ _ q => XP.nx n1 q)
    intro ρ2 F2 H2 w n2 k2 r2
    split at q
    · rename_i b
      split at q
      · rename_i hl
        cases r2
        have := million
        refine ⟨a, b, rfl, rfl, by simp [hl.1], Nat.le_trans (show a.length + 2 ≤ 1000002 by omega) (by decide), fun p hp => ?_⟩
        obtain ⟨n3, k3, r3⟩ := new_lstM k2 (strs_dn (Txt.split a b)) hp
        exact q _ _ _ _ ((n1.trans n2).trans n3) k3 r3
      · exact q.elim
    · exact q.elim
  · exact q.elim
end
theorem ok_splM [ExW] {a b : DE} {Γ : Gam} {μ : Mu} {Q : D → Mu → Prop} : Ok (dSplM a b Γ μ) Q = Ok (a Γ μ) fun x μ1 => ∃ s, x = .str s ∧ Ok (b Γ μ1) fun y μ2 => ∃ t, y = .str t ∧ t.length ≠ 0 ∧ s.length ≤ 1000000 ∧ Q (.loc μ2.length) (μ2 ++ [.lst ((Txt.split s t).map .str)]) := by
  unfold dSplM
  rw [ok_bind]
  congr 1; funext x μ1
  refine propext ⟨fun h => ?_, fun ⟨s, e1, q⟩ => ?_⟩
  · split at h
    · rename_i s
      refine ⟨s, rfl, ?_⟩
      rw [ok_bind] at h
      refine h.mono fun y μ2 h => ?_
      split at h
      · split at h
        · rename_i hl
          exact ⟨_, rfl, hl.1, hl.2, h⟩
        · exact False.elim h
      · exact False.elim h
    · exact False.elim h
  · subst e1
    show Ok (R.bind _ _) Q
    rw [ok_bind]
    refine q.mono fun y μ2 ⟨t, e2, h1, h2, q⟩ => ?_
    subst e2
    simp only [h1, h2, ne_eq, not_false_eq_true, and_self, if_true]
    exact q
/-! ### own == and != -/
section
variable {M : Model} {prog : Program} {w : World} {A : Around} {E : Value → Shared → Prop} {s : Shared} {K : PySem.W.Frag} {x C f L : Addr} {ox : Obj} {od : Option Obj} {h₀ : Heap} {m : Str → Option Value} {b tb : Value}
theorem ifBound_objNe {args : List Value} {Q : Option Value → Shared → Prop} (X : K.In s.heap) (I : PySem.W.InstAt s.heap x ox C od) (hs : PySem.W.findIn K (.ref C) "__ne__" = some (some (.builtin "object.__ne__")))
    (h : wpAny M A (call (.builtin "object.__ne__") (.ref x :: args)) (fun v => Q (some v)) E s) : wpAny M A (callSpecialIfBound? (.ref x) "__ne__" args) Q E s := by
  simp only [callSpecialIfBound?, bindSpecialIfBound?]
  refine wpAny_holding (wpAny_bind (wpAny_bind (wpAny_bind (I.type.here ((PySem.W.looks_findIn X hs).here ?_)))))
  refine wpAny_bind (wpAny_askSetting (wpAny_ite ?_))
  have fin : wpAny M A (call (.builtin "object.__ne__") ([.ref x] ++ args) >>= fun v => pure (some v)) Q E s := wpAny_bind (wpAny_mono h (fun v s' h' => wpAny_pure h') fun _ _ h' => h')
  split
  · exact wpAny_bind (wpAny_of_eq (F.cmp_object.ne.bind _) (wpAny_pure (by exact fin)))
  · exact wpAny_tryCatch (wpAny_bind (wpAny_of_eq (F.cmp_object.ne.bind _) (wpAny_pure (by exact fin))))
theorem entry_objNe (X : K.In s.heap) (I : PySem.W.InstAt s.heap x ox C od) (he : PySem.W.findIn K (.ref C) "__eq__" = some (some (.ref f))) (hf : PySem.W.isFn K (.ref f) = true) (hu : A.units < cLine) {Q : PySem.Fin → Shared → Prop}
    (h : wpAny (model prog w) A (call (.ref f) [.ref x, b]) (fun v s' => ∃ c, v = .bool c ∧ Q (.done (.ret (.bool (!c)))) s') E s) : wpAny (model prog w) A (Builtin.«object.__ne__» ⟨[.ref x, b], []⟩) Q E s := by
  unfold Builtin.«object.__ne__»
  repeat (first
    | with_reducible refine wpAny_cRoomFor hu ?_
    | (refine wpAny_bind (m := callSpecialIfBound? (.ref x) (Str.ofString "__eq__") [b])
        (PySem.W.ifBound_K X I he hf (wpAny_mono h (fun r s' hr => by
          obtain ⟨c, rfl, hq⟩ := hr
          repeat (first | exact hq | exact wpAny_pure hq | exact wpAny_truthy_bool hq | (refine wpAny_bind (m := truthy (.bool _)) (wpAny_truthy_bool ?_)) | wp_step)) fun _ _ e => e)))
    | wp_step)
theorem ne_K {Q : Value → Shared → Prop} (hu : A.units + 1 < cLine) (X : K.In s.heap) (I : PySem.W.InstAt s.heap x ox C od) (hb : PySem.W.Looks (model prog w) s.heap (typeOf b) tb) (hn : PySem.W.notFirst K C tb = true)
    (hs : PySem.W.findIn K (.ref C) "__ne__" = some (some (.builtin "object.__ne__"))) (hm : PySem.W.mroIn K C (.type "object") = some true)
    (he : PySem.W.findIn K (.ref C) "__eq__" = some (some (.ref f))) (hf : PySem.W.isFn K (.ref f) = true)
    (h : wpAny (model prog w) A.in1 (call (.ref f) [.ref x, b]) (fun v s' => ∃ c, v = .bool c ∧ Q (.bool (!c)) s') E s) : wpAny (model prog w) A (compareOp .NotEq (.ref x) b) Q E s := by
  have one : wpAny (model prog w) A (tryCompare (.ref x) "__ne__" b) (fun r s' => ∃ v, r = some v ∧ Q v s') E s := by
    unfold tryCompare
    refine wpAny_bind (ifBound_objNe X I hs (wpAny_call (codeAny_call_builtin F.cmp_object.ne.plain F.cmpEntry_ne (PySem.W.check_slot F.cmpKind_ne F.cmpSplit_ne (I.type.andThen (PySem.W.looks_mroIn X hm)) (F.cmpArgs_ne _ _)
      (entry_objNe (A := A.in1) X I he hf hu (wpAny_mono h (fun v s' hv => ?_) fun _ _ e => e))))))
    obtain ⟨c, rfl, hq⟩ := hv
    exact ⟨c, rfl, wpAny_pure ⟨_, rfl, hq⟩⟩
  unfold compareOp richCompare
  simp only [oneThing_ref, cmpInfo_NotEq]
  refine wpAny_holding (wpAny_bind (wpAny_cRoomFor (Nat.lt_of_succ_lt hu) ?_))
  refine wpAny_bind (I.type.here (wpAny_bind (hb.here ?_)))
  split
  · rename_i q
    have e : PySem.W.subIn K tb (.ref C) = some false := by
      rcases Bool.or_eq_true_iff.mp hn with e | e
      · rw [beq_iff_eq.mp e] at q; simp at q
      · exact beq_iff_eq.mp e
    refine wpAny_bind ((PySem.W.looks_subIn X e).here ?_)
    simp only [Bool.false_eq_true, if_false]
    refine wpAny_bind (wpAny_mono one (fun r s' z => ?_) fun _ _ e => e)
    obtain ⟨v, rfl, hq⟩ := z
    exact wpAny_pure hq
  · refine wpAny_bind (wpAny_pure ?_)
    simp only [Bool.false_eq_true, if_false]
    refine wpAny_bind (wpAny_mono one (fun r s' z => ?_) fun _ _ e => e)
    obtain ⟨v, rfl, hq⟩ := z
    exact wpAny_pure hq
end
end Ar

set_option Elab.async false
set_option linter.all false
set_option maxRecDepth 100000
set_option maxHeartbeats 4000000
/-! Ar63: x == y and x != y, x an instance of a class with an own __eq__ alone -/
namespace Ar
open PySem PySem.Spec PyProof.Rows L2
/-- what y is, in x == y, x of the class C -/
inductive TyC (K : PySem.W.Frag) (H : Hp) (C : Str) : V → Prop where
  | own {b dy : Addr} {ws : List (Option V)} (h : SlX.Slt H b (He.ga K C) dy ws) : TyC K H C (.ref b)
  | oth {y : V} {t : String} (h : TyX K H y (.type t)) (ht : t ∈ tyOk) : TyC K H C y
theorem sub_tyOk {K : PySem.W.Frag} {C : Addr} {t : String} (h : t ∈ tyOk) : PySem.W.subIn K (.type t) (.ref C) = some false := by
  have e : ∀ t ∈ tyOk, ∃ l : List String, fastBuiltinMro t = some (l.map Value.type) := by
    have d : (tyOk.all fun t => match fastBuiltinMro t with
      | some l => l.all fun v => match v with
        | .type _ => true
        | _ => false
      | none => false) = true := by decide +kernel
    intro t ht
    have := List.all_eq_true.mp d t ht
    split at this
    · rename_i l e
      have key : ∀ l : List Value, (l.all fun v => match v with
        | .type _ => true
        | _ => false) = true → ∃ k : List String, l = k.map Value.type := by
        intro l
        induction l with
        | nil => exact fun _ => ⟨[], rfl⟩
        | cons v l ih =>
          intro h
          rw [List.all_cons, Bool.and_eq_true] at h
          obtain ⟨k, rfl⟩ := ih h.2
          cases v <;> simp at h
          rename_i n
          exact ⟨n :: k, rfl⟩
      obtain ⟨k, rfl⟩ := key l this
      exact ⟨k, e⟩
    · cases this
  obtain ⟨l, e⟩ := e t h
  show (fastBuiltinMro t).map (·.contains (.ref C)) = some false
  rw [e]
  simp
structure NeK (K : PySem.W.Frag) (C : Str) : Prop where
  ne : PySem.W.findIn K (.ref (He.ga K C)) "__ne__" = some (some (.builtin "object.__ne__"))
  mr : PySem.W.mroIn K (He.ga K C) (.type "object") = some true
def neB (K : PySem.W.Frag) (C : Str) : Bool := decide (PySem.W.findIn K (.ref (He.ga K C)) "__ne__" = some (some (.builtin "object.__ne__"))) && decide (PySem.W.mroIn K (He.ga K C) (.type "object") = some true)
theorem neB_ok {K : PySem.W.Frag} {C : Str} (h : neB K C = true) : NeK K C := by
  unfold neB at h
  rw [Bool.and_eq_true] at h
  exact ⟨of_decide_eq_true h.1, of_decide_eq_true h.2⟩
def rOwnC (neg : Bool) (K : PySem.W.Frag) (C : Str) (m : Fn) (E : XK) : R2 := fun x y H Q => ∃ a dx vs, x = .ref a ∧ SlX.Slt H a (He.ga K C) dx vs ∧ TyC K H C y ∧ spM K m [.ref a, y] H (fun z H' => ∃ c, z = .bl c ∧ Q (.bl (c != neg)) H') E
section
variable {X : Cx} {C : Str} {m : Fn} {k : Nat} {E : XK} {pins : List (Addr × Obj)} {σ : L2.St} {H : Hp} {s : Shared}
theorem tyc_looks {y : V} {u : Value} (I : Inv X pins σ H s) (r : RelV y u) (h : TyC X.K H C y) : ∃ tb, PySem.W.Looks (model X.prog X.w) s.heap (typeOf u) tb ∧ PySem.W.notFirst X.K (He.ga X.K C) tb = true := by
  cases h with
  | @own b dy ws h =>
    cases (show u = Value.ref b from r)
    obtain ⟨sl, od, _, J, _⟩ := SlX.slt_inst I h
    exact ⟨_, J.type, by unfold PySem.W.notFirst; simp⟩
  | oth h ht =>
    obtain ⟨P, Z, p, _⟩ := kit_of I r h
    exact ⟨_, Z.ty _ _ I.kIn p, by unfold PySem.W.notFirst; rw [sub_tyOk ht]; simp⟩
theorem op_ownEq (G : MethG X.prog X.w X.K X.mg X.base C "__eq__" k m) (hr : RoomG k X.A) (hx : Passes (L2.CX X.prog X.w) X E) : OpR X (compareOp .Eq) (rOwnC false X.K C m E) := by
  intro pins s σ H x y v u Q I rx ry h
  obtain ⟨a, dx, vs, rfl, ha, hy, q⟩ := h
  cases (show v = Value.ref a from rx)
  obtain ⟨sl, od, _, J, _⟩ := SlX.slt_inst I ha
  obtain ⟨tb, hb, hn⟩ := tyc_looks I ry hy
  obtain ⟨f, fd, ps, h1, h2, h3, h4, h5⟩ := G.ex
  obtain ⟨m, hF⟩ := I.fr
  show wpAny _ _ (richCompare .Eq (.ref a) u) _ _ _
  refine PySem.W.cmp_K (op := .Eq) (tb := tb) hr.un1 hF I.ok.mod.kin J hb hn h1 h2 ?_
  refine wpAny_mono (wpAny_call (ranAt (us := [.ref a, u]) (xs := [.ref a, y]) h5 hr I.env0 hx I ?_ (.cons rfl (.cons ry .nil)) q)) (fun w s' z => ?_) fun _ _ x => x
  · exact h4 s [.ref a, u] I.kIn (by have := h5.ln _ _ _ _ q; simpa using this)
  · obtain ⟨z', H', I', rz, c, ez, qz⟩ := z
    subst ez
    rw [Bool.bne_false] at qz
    exact SlX.cmpback rz ⟨.bl c, H', I', rz, qz⟩
theorem op_ownNe (G : MethG X.prog X.w X.K X.mg X.base C "__eq__" k m) (N : NeK X.K C) (hr : RoomG (k + 1) X.A) (hx : Passes (L2.CX X.prog X.w) X E) : OpR X (compareOp .NotEq) (rOwnC true X.K C m E) := by
  intro pins s σ H x y v u Q I rx ry h
  obtain ⟨a, dx, vs, rfl, ha, hy, q⟩ := h
  cases (show v = Value.ref a from rx)
  obtain ⟨sl, od, _, J, _⟩ := SlX.slt_inst I ha
  obtain ⟨tb, hb, hn⟩ := tyc_looks I ry hy
  obtain ⟨f, fd, ps, h1, h2, h3, h4, h5⟩ := G.ex
  refine ne_K (tb := tb) hr.in1.un1 I.kIn J hb hn N.ne N.mr h1 h2 ?_
  refine wpAny_mono (wpAny_call (ranAt (us := [.ref a, u]) (xs := [.ref a, y]) h5 hr.in1 I.env0.in1 hx I ?_ (.cons rfl (.cons ry .nil)) q)) (fun w s' z => ?_) fun _ _ x => x
  · exact h4 s [.ref a, u] I.kIn (by have := h5.ln _ _ _ _ q; simpa using this)
  · obtain ⟨z', H', I', rz, c, ez, qz⟩ := z
    subst ez
    cases (show w = Value.bool c from rz)
    refine ⟨c, rfl, .bl (c != true), H', I', ?_, qz⟩
    cases c <;> rfl
end
/-- y is of the class C, or of a built-in type -/
def cmpOk (C : Str) (μ : Mu) (y : D) : Bool := match y with
  | .slt C2 _ => decide (C2 = C)
  | y => (tyN μ y).isSome
/-- x == y (neg: x != y), x of the class C, m its __eq__ -/
def dOwnQ (neg : Bool) (C : Str) (m : Fn) (a b : DE) : DE := fun Γ μ => (a Γ μ).bind fun x μ1 => (b Γ μ1).bind fun y μ2 => match x with
  | .slt C1 ds => if C1 = C ∧ cmpOk C μ2 y = true then (m [.slt C1 ds, y] μ2).bind fun z μ3 => match z with
      | .bl c => .ok (.bl (c != neg)) μ3
      | _ => .stk
    else .stk
  | _ => .stk
section
variable {X : Cx} {E : XK} {K : PySem.W.Frag} {C : Str} {m : Fn} {a b : Expr} {da db : DE} {pos : Pos} {neg : Bool}
theorem sim_ownQ {ta tb : TE} (ha : SimE K E ta da) (hb : SimE K E tb db) : SimE K E (tOp (rOwnC neg K C m E) ta tb) (dOwnQ neg C m da db) := by
  intro ρ F H Γ μ σ k s Q h
  refine ha ρ F H Γ μ σ k s _ ((WpR.bind h).mono (fun x μ1 qa => ?_) fun _ _ q => q)
  intro ρ1 F1 H1 v n1 k1 r1
  refine hb ρ1 F1 H1 Γ μ1 σ k1 (s.nx n1) _ ((WpR.bind qa).mono (fun y μ2 q => ?_) fun _ _ q => XP.nx n1 q)
  intro ρ2 F2 H2 w n2 k2 r2
  have r1 := r1.nx n2
  clear qa
  split at q
  · rename_i C1 ds _
    split at q
    · rename_i hc
      obtain ⟨hC, hy⟩ := hc
      subst hC
      cases r1 with
      | @slt a dx _ vs _ g1 g2 g3 =>
        refine ⟨a, dx, vs.map some, rfl, .inr ⟨k2.ex _ _ g1, k2.ex _ _ g2⟩, ?_, ρ2, F2, μ2, [.slt C1 ds, y], k2, .cons (.slt g1 g2 g3) (.cons r2 .nil), ?_⟩
        · unfold cmpOk at hy
          split at hy
          · rename_i C2 es
            obtain rfl := of_decide_eq_true hy
            cases r2 with
            | @slt b dy _ ws _ p1 p2 p3 => exact .own (ws := ws.map some) (.inr ⟨k2.ex _ _ p1, k2.ex _ _ p2⟩)
          · obtain ⟨t, ht⟩ := Option.isSome_iff_exists.mp hy
            exact .oth (tyN_ok k2 r2 ht) (tyN_mem ht)
        · refine (WpR.bind q).mono (fun r μ3 q2 => ?_) fun _ _ q => XP.nx (n1.trans n2) q
          intro ρ3 F3 H3 v3 n3 k3 r3
          split at q2
          · rename_i c
            cases r3
            exact ⟨_, rfl, q2 ρ3 F3 H3 _ ((n1.trans n2).trans n3) k3 (.bl _)⟩
          · exact q2.elim
    · exact q.elim
  · exact q.elim
theorem q_ownEq {k : Nat} (G : MethG X.prog X.w X.K X.mg X.base C "__eq__" k m) (hr : RoomG k X.A) (hx : Passes (L2.CX X.prog X.w) X E) (ha : QE X E a da) (hb : QE X E b db) (hm : behindInMarks .Eq b = false := by first | exact nomark _ | rfl) : QE X E (.Compare a [.Eq] [b] pos) (dOwnQ false C m da db) := by
  obtain ⟨ta, a1, a2⟩ := ha.ex
  obtain ⟨tb, b1, b2⟩ := hb.ex
  exact ⟨_, pe_cmpR (op_ownEq G hr hx) a1 b1 hm, sim_ownQ a2 b2⟩
theorem q_ownNe {k : Nat} (G : MethG X.prog X.w X.K X.mg X.base C "__eq__" k m) (N : NeK X.K C) (hr : RoomG (k + 1) X.A) (hx : Passes (L2.CX X.prog X.w) X E) (ha : QE X E a da) (hb : QE X E b db) (hm : behindInMarks .NotEq b = false := by first | exact nomark _ | rfl) : QE X E (.Compare a [.NotEq] [b] pos) (dOwnQ true C m da db) := by
  obtain ⟨ta, a1, a2⟩ := ha.ex
  obtain ⟨tb, b1, b2⟩ := hb.ex
  exact ⟨_, pe_cmpR (op_ownNe G N hr hx) a1 b1 hm, sim_ownQ a2 b2⟩
theorem qt_ownEq {k : Nat} (G : MethG X.prog X.w X.K X.mg X.base C "__eq__" k m) (hr : RoomG k X.A) (hx : Passes (L2.CX X.prog X.w) X E) (ha : QE X E a da) (hb : QE X E b db) (hm : behindInMarks .Eq b = false := by first | exact nomark _ | rfl) : QT X E (.Compare a [.Eq] [b] pos) (dTest (dOwnQ false C m da db)) := by
  obtain ⟨ta, a1, a2⟩ := ha.ex
  obtain ⟨tb, b1, b2⟩ := hb.ex
  exact ⟨_, pt_cmpR (op_ownEq G hr hx) a1 b1 hm, sim_test (sim_ownQ a2 b2)⟩
theorem qt_ownNe {k : Nat} (G : MethG X.prog X.w X.K X.mg X.base C "__eq__" k m) (N : NeK X.K C) (hr : RoomG (k + 1) X.A) (hx : Passes (L2.CX X.prog X.w) X E) (ha : QE X E a da) (hb : QE X E b db) (hm : behindInMarks .NotEq b = false := by first | exact nomark _ | rfl) : QT X E (.Compare a [.NotEq] [b] pos) (dTest (dOwnQ true C m da db)) := by
  obtain ⟨ta, a1, a2⟩ := ha.ex
  obtain ⟨tb, b1, b2⟩ := hb.ex
  exact ⟨_, pt_cmpR (op_ownNe G N hr hx) a1 b1 hm, sim_test (sim_ownQ a2 b2)⟩
end
/-! the rule of Ok -/
theorem ok_ownQ [ExW] {neg : Bool} {C : Str} {m : Fn} {a b : DE} {Γ : Gam} {μ : Mu} {Q : D → Mu → Prop} : Ok (dOwnQ neg C m a b Γ μ) Q = Ok (a Γ μ) fun x μ1 => Ok (b Γ μ1) fun y μ2 => ∃ ds, x = .slt C ds ∧ cmpOk C μ2 y = true ∧ Ok (m [.slt C ds, y] μ2) fun z μ3 => ∃ c, z = .bl c ∧ Q (.bl (c != neg)) μ3 := by
  unfold dOwnQ
  rw [ok_bind]
  congr 1; funext x μ1
  rw [ok_bind]
  congr 1; funext y μ2
  refine propext ⟨fun h => ?_, fun ⟨ds, e1, e2, q⟩ => ?_⟩
  · split at h
    · rename_i C1 ds
      split at h
      · rename_i hc
        obtain ⟨rfl, hy⟩ := hc
        refine ⟨ds, rfl, hy, ?_⟩
        rw [ok_bind] at h
        refine h.mono fun z μ3 h => ?_
        split at h
        · exact ⟨_, rfl, h⟩
        · exact False.elim h
      · exact False.elim h
    · exact False.elim h
  · subst e1
    show Ok (if _ then _ else _) Q
    rw [if_pos ⟨rfl, e2⟩, ok_bind]
    refine q.mono fun z μ3 ⟨c, e, q⟩ => ?_
    subst e
    exact q
end Ar

set_option Elab.async false
set_option linter.all false
set_option maxRecDepth 100000
set_option maxHeartbeats 4000000
/-! Ar64: t[::-1] of a tuple -/
namespace HT
open PySem PySem.Spec PyProof.Rows
section
variable {prog : Program} {w : World} {A : Around} {E : Value → Shared → Prop} {s : Shared}
theorem adjust_rev (n : Nat) : Builtin.Slice.sliceAdjust none none (-1) (n : Int) = ((n : Int) - 1, -1) := by
  unfold Builtin.Slice.sliceAdjust
  simp
theorem places_rev (n : Nat) : Builtin.Slice.slicePlaces ((n : Int) - 1) (-1) (-1) = n := by
  unfold Builtin.Slice.slicePlaces
  have h1 : ¬ ((-1 : Int) > 0) := by omega
  simp only [h1, if_false]
  split
  · rw [show -(-1 : Int) = 1 from rfl, Int.ediv_one]; omega
  · omega
theorem sliceApplied_rev {sl : Addr} {vs : Value} {n : Nat} {Q : Int × Int × Nat → Shared → Prop} (hs : s.heap.IsSliceOf sl .none .none vs) (ps : IsPart vs (some (-1)))
    (h : Q ((n : Int) - 1, -1, n) s) : wpAny (model prog w) A (Builtin.Slice.sliceApplied (.ref sl) (pure (n : Int))) Q E s := by
  obtain ⟨os, hos, hcs, hds⟩ := id hs
  unfold Builtin.Slice.sliceApplied Builtin.Slice.sliceFields
  refine wpAny_bind (wpAny_bind (wpAny_field hos hds (x := .none) rfl (wpAny_bind (wpAny_field hos hds (x := .none) rfl (wpAny_bind (wpAny_field hos hds (x := vs) rfl (wpAny_pure ?_)))))))
  refine wpAny_bind (slicePart_ ps ?_)
  show wpAny _ _ (if ((-1 : Int) == 0) = true then _ else _) _ _ s
  rw [if_neg (by decide)]
  refine wpAny_bind (slicePart_none (wpAny_bind (slicePart_none (wpAny_bind (wpAny_pure ?_)))))
  show wpAny _ _ (match Builtin.Slice.sliceAdjust none none (-1) (n : Int) with | (lo, hi) => pure (lo, (-1 : Int), Builtin.Slice.slicePlaces lo hi (-1))) _ _ s
  rw [adjust_rev n]
  show wpAny _ _ (pure ((n : Int) - 1, (-1 : Int), Builtin.Slice.slicePlaces ((n : Int) - 1) (-1) (-1))) _ _ s
  rw [places_rev]
  exact wpAny_pure h
theorem pick_rev (xs : List Value) : ((List.range xs.length).filterMap fun (k : Nat) => xs.toArray[((xs.length : Int) - 1 + (k : Int) * -1).toNat]?) = xs.reverse := by
  refine List.ext_getElem? fun i => ?_
  have e : ∀ l : List Nat, (∀ k ∈ l, k < xs.length) → l.filterMap (fun (k : Nat) => xs.toArray[((xs.length : Int) - 1 + (k : Int) * -1).toNat]?) = l.map fun k => xs.reverse[k]! := by
    intro l
    induction l with
    | nil => exact fun _ => rfl
    | cons k l ih =>
      intro h
      have hk := h k List.mem_cons_self
      have e1 : xs.toArray[((xs.length : Int) - 1 + (k : Int) * -1).toNat]? = some (xs.reverse[k]!) := by
        have a : ((xs.length : Int) - 1 + (k : Int) * -1).toNat = xs.length - 1 - k := by omega
        rw [a, List.getElem?_toArray, getElem!_pos _ _ (by rw [List.length_reverse]; exact hk), List.getElem_reverse, List.getElem?_eq_getElem]
      rw [List.filterMap_cons, e1, ih fun k hk => h k (List.mem_cons_of_mem _ hk)]
      rfl
  rw [e _ fun k hk => List.mem_range.mp hk, List.getElem?_map]
  by_cases hi : i < xs.length
  · rw [List.getElem?_range hi]
    show some (xs.reverse[i]!) = _
    rw [getElem!_pos _ _ (by rw [List.length_reverse]; exact hi), List.getElem?_eq_getElem]
  · rw [List.getElem?_eq_none (by rw [List.length_range]; omega), List.getElem?_eq_none (by rw [List.length_reverse]; omega)]
    rfl
theorem getItem_tuple_rev {t sl : Addr} {its : List Value} {vs : Value} {Q : Value → Shared → Prop} (ht : IsTup s.heap t its.toArray) (hs : s.heap.IsSliceOf sl .none .none vs) (ps : IsPart vs (some (-1)))
    (h : Q (.ref s.heap.objs.size) { s with heap := s.heap.push { cls := .type "tuple", data := .seq its.reverse.toArray } })
    (hsz : its.length ≤ sizeLine) : wpAny (model prog w) A (getItem (.ref t) (.ref sl)) Q E s := by
  have htake : sizeOk (.seq its.reverse.toArray) := by
    show its.reverse.toArray.size ≤ sizeLine
    rw [List.size_toArray, List.length_reverse]
    exact hsz
  obtain ⟨os, hos, hcs, hds⟩ := id hs
  have hTs : s.TypeIs (.ref sl) "slice" := ⟨os, hos, hcs⟩
  unfold getItem
  try with_reducible refine wpAny_holding ?_
  first | refine wpAny_bind (wpAny_pure ?_) | skip
  refine wpAny_bind (wpAny_sequenceKey ht.typeIs (by decide) ?_)
  refine wpAny_bind (wpAny_callSpecial?_slot (name := Str.ofString "__getitem__") ht.typeIs PyProof.Rows.slot_tuple_getitem
    (wpAny_call_entry PyProof.Rows.slot_tuple_getitem ht.typeIs entry_tuple_getitem ?_ (args_tuple_getitem _ _)))
  show wpAny _ _ (Builtin.Tuple.tupleItemsOf (.ref t) >>= _) _ _ s
  refine wpAny_bind (tupleItemsOf_ ht ?_)
  refine wpAny_bind (wpAny_typeOf hTs ?_)
  rw [if_pos (by decide)]
  refine wpAny_bind (sliceApplied_rev (n := its.toArray.size) hs ps ?_)
  have hno : ¬ (((((its.toArray.size : Nat) : Int) - 1) == 0 && (-1 : Int) == 1 && its.toArray.size == its.toArray.size) = true) := by
    intro q
    rw [Bool.and_eq_true, Bool.and_eq_true] at q
    exact absurd q.1.2 (by decide)
  show wpAny _ _ (if ((((its.toArray.size : Nat) : Int) - 1) == 0 && (-1 : Int) == 1 && its.toArray.size == its.toArray.size) = true then _ else _) _ _ s
  rw [if_neg hno, List.size_toArray, pick_rev]
  first
    | exact wpAny_bind (m := Builtin.Tuple.tupleExact _) (wpAny_newObj_type (wpAny_pure ⟨_, rfl, wpAny_pure h⟩) htake)
    | exact wpAny_bind (m := Builtin.Tuple.tupleExact _) (wpAny_newObj_type (wpAny_bind (wpAny_pure (wpAny_pure ⟨_, rfl, wpAny_pure h⟩))) htake)
    | exact wpAny_bind (wpAny_bind (m := Builtin.Tuple.tupleExact _) (wpAny_newObj_type (wpAny_pure (wpAny_pure ⟨_, rfl, wpAny_pure h⟩)) htake))
    | exact wpAny_bind (wpAny_bind (m := Builtin.Tuple.tupleExact _) (wpAny_newObj_type (wpAny_pure ⟨_, rfl, wpAny_pure h⟩) htake))
end
end HT
namespace Ar
open PySem PySem.Spec PyProof.Rows L2
section
variable {X : Cx}
def tRevT (K : PySem.W.Frag) (te : TE) : TE := fun σ H Q => te σ H fun x H1 => ∃ a xs, x = .ref a ∧ SqT K H1 a xs ∧ ∀ p, H1 p = none → Q (.ref p) (upd H1 p (.tup xs.reverse))
theorem pe_revT {e : Expr} {te : TE} {k : Nat} {p1 p2 p3 pos : Pos} (he : PE X e te) : PE X (.Subscript e (.Slice none none (some (.UnaryOp .USub (.Constant (.int 1) k p1) p2)) p3) pos) (tRevT X.K te) := by
  refine ⟨fun pins s σ H Q I h => ?_⟩
  refine Subscript_ (thn (he.run pins s σ H _ I h) fun v s1 ⟨x, H1, I1, r1, q1⟩ => ?_)
  obtain ⟨a, xs, ex, hx, q⟩ := q1
  subst ex
  cases r1
  have hst : PO X (some (.UnaryOp .USub (.Constant (.int 1) k p1) p2)) (tPart (tUn (rU fun i => .int (-i)) (tC (.int 1)))) := po_some (pe_un un_neg pe_int)
  refine wpAny_Slice (thn (po_none.run pins s1 σ H1 (fun o H2 => o = none ∧ H2 = H1) I1 ⟨rfl, rfl⟩) fun vl s2 ⟨l, H2, I2, pl, el, e2⟩ => ?_)
  subst el e2
  refine thn (po_none.run pins s2 σ H2 (fun o H3 => o = none ∧ H3 = H2) I2 ⟨rfl, rfl⟩) fun vu s3 ⟨u, H3, I3, pu, eu, e3⟩ => ?_
  subst eu e3
  refine thn (hst.run pins s3 σ H3 (fun o H4 => o = some (-1) ∧ H4 = H3) I3 ⟨1, rfl, -1, rfl, rfl, rfl⟩) fun vs s4 ⟨o, H4, I4, ps, eo, e4⟩ => ?_
  subst eo e4
  cases pl
  cases pu
  have I5 : Inv X pins σ H4 { s4 with heap := s4.heap.push { cls := .type "slice", data := .fields #[.none, .none, vs] } } := I4.kept (t' := s4.toks) fun b ob q => Heap.get?_push_of_some _ q
  obtain ⟨its, r, ht, hz⟩ := I5.tuple hx
  have hlen := r.length
  show wpAny (model X.prog X.w) X.A (subscriptTail e (.Slice none none (some (.UnaryOp .USub (.Constant (.int 1) k p1) p2)) p3) (.ref a) (.ref s4.heap.objs.size)) (EP X pins σ Q) X.xe { s4 with heap := s4.heap.push { cls := .type "slice", data := .fields #[.none, .none, vs] } }
  refine tail_any (ops := [.ref a, .ref s4.heap.objs.size]) ht.typeIs (PyProof.Rows.slot_tuple_getitem.lookup) ?_ (by with_unfolding_all rfl)
  refine HT.getItem_tuple_rev ht (Heap.IsSliceOf.new _ _ _ vs) ps ?_ (by omega)
  refine ⟨.ref _, _, I5.laid (t' := s4.toks) (o := .tup xs.reverse) (fun b ob q => Heap.get?_push_of_some _ q) (Nat.le_refl _) ?_, rfl, q _ (I5.hok.fresh (Nat.le_refl _))⟩
  exact ⟨by rw [List.length_reverse]; exact hz, _, r.reverse, IsTup.new _ _⟩
end
/-- xs[::-1] of a tuple -/
def dRevT (e : DE) : DE := fun Γ μ => (e Γ μ).bind fun x μ1 => match x with
  | .tup ds => .ok (.tup ds.reverse) μ1
  | _ => .stk
theorem q_revT {X : Cx} {E : XK} {e : Expr} {de : DE} {k : Nat} {p1 p2 p3 pos : Pos} (he : QE X E e de) : QE X E (.Subscript e (.Slice none none (some (.UnaryOp .USub (.Constant (.int 1) k p1) p2)) p3) pos) (dRevT de) := by
  obtain ⟨te, a1, a2⟩ := he.ex
  refine ⟨_, pe_revT a1, ?_⟩
  intro ρ F H Γ μ σ k s Q h
  refine a2 ρ F H Γ μ σ k s _ ((WpR.bind h).mono (fun x μ1 q => ?_) fun _ _ q => q)
  intro ρ1 F1 H1 v n1 k1 r1
  cases r1 with
  | @tup a vs ds h1 h2 =>
    refine ⟨a, vs, rfl, k1.ex.sqT h1, fun p hp => ?_⟩
    exact q ρ1 _ _ _ (n1.trans (Nx.newF_ k1 hp)) (k1.newF hp) (.tup (SqT.of upd_same) (dn_rev (h2.nx (Nx.newF_ (o := .tup vs.reverse) k1 hp))))
  | _ => exact q.elim
theorem ok_revT [ExW] {e : DE} {Γ : Gam} {μ : Mu} {Q : D → Mu → Prop} : Ok (dRevT e Γ μ) Q = Ok (e Γ μ) fun x μ1 => ∃ ds, x = .tup ds ∧ Q (.tup ds.reverse) μ1 := by
  unfold dRevT
  rw [ok_bind]
  congr 1; funext x μ1
  refine propext ⟨fun h => ?_, fun ⟨ds, e, q⟩ => by subst e; exact q⟩
  split at h
  · exact ⟨_, rfl, h⟩
  · exact False.elim h
end Ar

set_option Elab.async false
set_option linter.all false
set_option maxRecDepth 100000
set_option maxHeartbeats 4000000
/-! Ar65: C(k=e) of a class with one slot whose __init__ raises nothing -/
namespace Ar
open PySem PySem.Spec PyProof.Rows L2
structure MkSK (P : Program) (w : World) (K : PySem.W.Frag) (mg : Str → Option Value) (base : Heap) (C : Str) (k : Nat) (ks : List Str) (m : Fn) : Prop where
  ex : ∃ f fd ps, Mk K (He.ga K C) f ∧ mg C = some (.ref (He.ga K C)) ∧ KBn K fd ps 1 ks (fun us ws => pick [0, 1] (us ++ ws)) (fun vs zs => pick [0, 1] (vs ++ zs)) ∧ Pm P w K mg base (L2.CX P w) k f fd ps (spSlot K C m)
theorem sim_makeSK {K : PySem.W.Frag} {E : XK} {C : Str} {m : Fn} {tk : TA} {dk : DA} (ha : SimA K E tk dk) : SimE K E (tMakeK (He.ga K C) 0 1 (spSlot K C m) (fun vs zs => pick [0, 1] (vs ++ zs)) E tNil tk) (dMakeS C m dk) := by
  intro ρ F H Γ μ σ k s Q h
  refine ha ρ F H Γ μ σ k s _ ((WpR.bind h).mono (fun ds μ1 q => ?_) fun _ _ q => q)
  intro ρ1 F1 H1 vs n1 k1 r1
  split at q
  · rename_i d
    cases r1 with
    | cons r1 r2 =>
      cases r2
      rename_i v
      refine ⟨rfl, rfl, fun x dx hx hdx hne => ?_⟩
      have kb := k1.beside (o := .own x) (k1.fresh hdx) (k1.freshF hdx)
      have kb2 := kb.beside (p := x) (o := .ins (He.ga K C) dx []) (k1.fresh hx) (k1.freshF hx)
      refine ⟨x, dx, v, d, ρ1, F1, μ1, rfl, upd_same, kb2, r1, k1.fresh hx, k1.freshF hx, ?_⟩
      have q := WpR.bind q
      refine (WpR.nox (X' := fun _ _ => False) q).mono (fun r μ2 q2 => ?_) fun _ _ q => q
      · split at q2
        · refine ⟨rfl, fun ρ2 F2 H2 n2 k2 => ⟨rfl, ?_⟩⟩
          have odx : upd (upd H1 dx (.own x)) x (.ins (He.ga K C) dx []) dx = some (.own x) := by rw [upd_ne hne, upd_same]
          obtain ⟨a1, a2, a3⟩ := n2.outF odx (k1.fresh hdx) (k1.freshF hdx)
          obtain ⟨b1, b2, b3⟩ := n2.outF upd_same (k1.fresh hx) (k1.freshF hx)
          have k3 := k2.both (o := .xd []) a1 a2
          have k4 := k3.both (p := x) (o := SlX.SlO x (He.ga K C) dx [some v]) b1 (by rw [upd_ne (Ne.symm hne)]; exact b2)
          have nn := Nx.around (vp := SlX.SlO x (He.ga K C) dx [some v]) (vq := .xd []) rfl hx hdx (k1.freshF hx) (k1.freshF hdx) n2
          refine q2 _ _ _ _ (n1.trans nn) k4 (.slt (dx := dx) (vs := [v]) upd_same (by rw [upd_ne hne, upd_same]) (.cons (r1.nx nn) .nil))
        · exact q2.elim
  · exact q.elim
theorem q_makeSK {X : Cx} {E : XK} {C : Str} {k : Nat} {ks : List Str} {m : Fn} {p pos : Pos} {kws : List Keyword} {dk : DA} (G : MkSK X.prog X.w X.K X.mg X.base C k ks m) (hr : RoomG (k + 1) X.A) (hp : Passes (L2.CX X.prog X.w) X E) (hk : QK X E kws dk) (hg : Gl X C := by rfl)
    (hall : (backToKw pos (keywordEach kws X.env)).all (·.1.isSome) = true := by rfl) (hks : (backToKw pos (keywordEach kws X.env)).filterMap (·.1) = ks := by rfl) (hl : ks.length = 1 := by rfl)
    (hdb : (C == ("__debug__" : Str)) = false := by decide) (hpl : ((backTo pos (starEach [] X.env)).any (·.1) || (backToKw pos (keywordEach kws X.env)).any (·.1.isNone)) = false := by rfl) :
    QE X E (.Call (.Name C p) [] kws pos) (dMakeS C m dk) := by
  obtain ⟨f, fd, ps, h1, h2, h3, h4⟩ := G.ex
  obtain ⟨tk, a1, a2⟩ := hk.ex
  refine ⟨_, pe_makeGK0 h1 h4 hr hg h2 h3 hp a1 hall hks hdb hpl, ?_⟩
  rw [hl]
  exact sim_makeSK a2
theorem mkSK {P : Program} {w : World} {K : PySem.W.Frag} {mg : Str → Option Value} {base : Heap} {C y qual : Str} {params : Arguments} {body : List Stmt} {scope : Scope} {f : Addr} {fd : FuncData} {ps ks : List Str} {k : Nat} {m : Fn} (F : FunD K y qual params body scope [] [] f fd) (M : Mk K (He.ga K C) f) (g : mg C = some (.ref (He.ga K C)))
    (hk : ∀ (kV doc pm' : Value) (an : Option Addr) (cdv ct : Value) (us ws : List Value), us.length = 1 → ws.length = ks.length → bindArgs (PySem.W.fnOf y qual params body scope .none kV doc pm' an cdv ct) ⟨us, ks.zip ws⟩ = pure (ps.zip (pick [0, 1] (us ++ ws))))
    (ok : Pm P w K mg base (L2.CX P w) k f fd ps (spSlot K C m)) : MkSK P w K mg base C k ks m := ⟨f, fd, ps, M, g, kbn_of F 1 ks [0, 1] hk, ok⟩
end Ar

set_option Elab.async false
set_option linter.all false
set_option maxRecDepth 100000
set_option maxHeartbeats 4000000
/-! Ar66: f"a{x}b" of three parts; bool(x) of an instance with an own __len__ -/
namespace Ar
open PySem PySem.Spec PyProof.Rows L2
section
variable {prog : Program} {w : World} {A : Around} {E : Value → Shared → Prop} {s : Shared} {K : PySem.W.Frag} {x C f : Addr} {ox : Obj} {odd : Option Obj}
theorem truthy_lenR {Q : Bool → Shared → Prop} (X : K.In s.heap) (I : PySem.W.InstAt s.heap x ox C odd) (hb : PySem.W.findIn K (.ref C) "__bool__" = some none) (hs : PySem.W.findIn K (.ref C) "__len__" = some (some (.ref f))) (hf : PySem.W.isFn K (.ref f) = true)
    (h : wpAny (model prog w) A.in1 (call (.ref f) [.ref x]) (fun r s₁ => ∃ (n : Int) (u : Nat), r = Value.int n u ∧ 0 ≤ n ∧ n < 2 ^ 62 ∧ Q (n != 0) { s₁ with toks := s₁.toks + 1 }) E s) : wpAny (model prog w) A (truthy (.ref x)) Q E s := by
  have key : wpAny (model prog w) A (runValue (.builtin "len" ⟨[.ref x], []⟩)) (fun r s' => ∃ (n : Int) (t : Tok), r = .int n t ∧ Q (n != 0) s') E s := by
    refine wpAny_runValue (codeAny_builtin entry_len ?_)
    rw [Around.under_plainId plain_len _]
    unfold Builtin.«len»
    refine wpAny_bind (m := oneArg "len" _) (wpAny_pure ?_)
    refine wpAny_bind (m := callSpecial? (.ref x) (PySem.Str.ofString "__len__")) (PySem.W.special_fn X I hs (beq_iff_eq.mp hf) (wpAny_mono h (fun r s' hr => ?_) fun _ _ y => y))
    obtain ⟨n, u, rfl, h0, h1, hq⟩ := hr
    refine wpAny_bind (wpAny_holding (wpAny_pure ?_))
    refine wpAny_bind (wpAny_letGo ?_)
    show wpAny _ _ (if n < 0 then _ else _) _ _ _
    rw [if_neg (by omega)]
    show wpAny _ _ (if n ≥ 2 ^ 63 then _ else _) _ _ _
    rw [if_neg (by omega)]
    exact wpAny_bind (wpAny_mkInt (wpAny_pure ⟨n, _, rfl, hq⟩))
  unfold truthy
  refine wpAny_bind (m := callSpecial? (.ref x) (Str.ofString "__bool__")) (wpAny_bind (wpAny_bind (I.type.here ((PySem.W.looks_findIn X hb).here (wpAny_pure ?_)))))
  refine wpAny_bind (wpAny_bind (I.type.here ((PySem.W.looks_findIn X hs).here ?_)))
  show wpAny _ _ (if (some (Value.ref f)).isNone = true then _ else _) _ _ _
  rw [if_neg (by simp)]
  first
    | exact wpAny_bind (wpAny_mono key (fun r s' h' => by obtain ⟨n, t, rfl, hq⟩ := h'; exact wpAny_pure hq) fun _ _ e => e)
    | exact wpAny_bind (wpAny_pure (wpAny_bind (wpAny_mono key (fun r s' h' => by obtain ⟨n, t, rfl, hq⟩ := h'; exact wpAny_pure hq) fun _ _ e => e)))
theorem bool_ownR {Q : Value → Shared → Prop} (X : K.In s.heap) (I : PySem.W.InstAt s.heap x ox C odd) (hb : PySem.W.findIn K (.ref C) "__bool__" = some none) (hs : PySem.W.findIn K (.ref C) "__len__" = some (some (.ref f))) (hf : PySem.W.isFn K (.ref f) = true)
    (h : wpAny (model prog w) A.in1.in1.in1 (call (.ref f) [.ref x]) (fun r s₁ => ∃ (n : Int) (u : Nat), r = Value.int n u ∧ 0 ≤ n ∧ n < 2 ^ 62 ∧ Q (.bool (n != 0)) { s₁ with toks := s₁.toks + 1 }) E s) : wpAny (model prog w) A (call (.type "bool") [.ref x]) Q E s := by
  refine callType_codes (T := "bool") (Bi := Builtin.«object.__init__») (Q₁ := fun r s₁ => ∃ b, r = .bool b ∧ Q r s₁) PySem.F.called_bool (PySem.F.typeCall_bool_1 _) PySem.F.entry_object_init ?_ ?_
  · refine codeAny_of_tree ?_
    show wpAny _ A.in1.in1 (do checkBuiltinCall "bool.__new__" ⟨[.type "bool", .ref x], []⟩; again (.builtin "bool.__new__" ⟨[.type "bool", .ref x], []⟩)) _ _ s
    refine wpAny_bind (wpAny_of_eq (PySem.F.newCall_bool_1 _) (wpAny_pure ⟨plainId_quiet (by decide +kernel) _, codeAny_builtin PySem.F.entry_bool_new ?_⟩))
    rw [Around.under_plainId (by decide +kernel) _]
    have f1 := F.conv_sub_bool
    have key : wpAny (model prog w) A.in1.in1 (truthy (.ref x)) (fun b s₁ => Q (.bool b) s₁) E s := truthy_lenR X I hb hs hf h
    unfold Builtin.«bool.__new__»
    repeat (any_goals (first | assumption | (refine wpAny_bind (m := truthy (.ref x)) (wpAny_mono key (fun b s₁ hq => ?_) fun _ _ y => y)) | wp_step))
    all_goals first | exact ⟨_, rfl, ⟨_, rfl, hq⟩⟩ | exact ⟨_, rfl, hq⟩ | exact ⟨_, rfl, _, rfl, hq⟩ | skip
  · rintro obj s₁ ⟨b, rfl, hq⟩
    exact ⟨rfl, PySem.F.args_object_init_2 _ _, object_init_meets PySem.F.called_bool.init.lookup PySem.F.called_bool.made (by decide) prog w A.in1 _ s₁ ⟨rfl, rfl, hq⟩⟩
end
structure NbK (K : PySem.W.Frag) (C : Str) : Prop where
  nb : PySem.W.findIn K (.ref (He.ga K C)) "__bool__" = some none
def nbB (K : PySem.W.Frag) (C : Str) : Bool := decide (PySem.W.findIn K (.ref (He.ga K C)) "__bool__" = some none)
theorem nbB_ok {K : PySem.W.Frag} {C : Str} (h : nbB K C = true) : NbK K C := ⟨of_decide_eq_true h⟩
def rBoolOwn (K : PySem.W.Frag) (C : Str) (m : Fn) (E : XK) : List V → Hp → VK → Prop := fun xs H Q => ∃ a dx vs, xs = [V.ref a] ∧ SlX.Slt H a (He.ga K C) dx vs ∧ spM K m [.ref a] H (fun z H' => ∃ i : Int, z = .int i ∧ 0 ≤ i ∧ i < 2 ^ 62 ∧ Q (.bl (i != 0)) H') E
theorem call_boolOwn {X : Cx} {C : Str} {m : Fn} {k : Nat} {E : XK} (G : MethG X.prog X.w X.K X.mg X.base C "__len__" k m) (N : NbK X.K C) (hr : RoomG (k + 3) X.A) (hx : Passes (L2.CX X.prog X.w) X E) : CallR X (.type "bool") (rBoolOwn X.K C m E) := by
  intro pins s σ H xs us Q I r h
  obtain ⟨a, dx, vs, rfl, hsl, q⟩ := h
  obtain ⟨u, rfl, ru⟩ := r.one
  cases (show u = Value.ref a from ru)
  obtain ⟨sl, od, _, J, _⟩ := SlX.slt_inst I hsl
  obtain ⟨f, fd, ps, h1, h2, h3, h4, h5⟩ := G.ex
  refine bool_ownR I.kIn J N.nb h1 h2 (wpAny_mono (wpAny_call (ranAt (us := [.ref a]) (xs := [.ref a]) h5 hr.in1.in1.in1 I.env0.in1.in1.in1 hx I ?_ (.cons rfl .nil) q)) (fun w s' z => ?_) fun _ _ x => x)
  · exact h4 s [.ref a] I.kIn (by have := h5.ln _ _ _ _ q; simpa using this)
  · obtain ⟨z', H', I', rz, i, ei, i0, i1, qz⟩ := z
    subst ei
    obtain ⟨t, e⟩ := (show ∃ t, w = Value.int i t from rz)
    cases e
    exact ⟨i, t, rfl, i0, i1, .bl (i != 0), H', I'.tok _, rfl, qz⟩
/-- bool(x), x of the class C, m its __len__ -/
def dBoolO (C : Str) (m : Fn) (e : DE) : DE := fun Γ μ => (e Γ μ).bind fun d μ1 => match d with
  | .slt C' ds => if C' = C then (m [.slt C' ds] μ1).bind fun r μ2 => (match r with
      | .int i => if 0 ≤ i ∧ i < 2 ^ 62 then .ok (.bl (i != 0)) μ2 else .stk
      | _ => .stk) else .stk
  | _ => .stk
theorem q_boolO {X : Cx} {E : XK} {C : Str} {m : Fn} {k : Nat} {e : Expr} {de : DE} {p pos : Pos} (G : MethG X.prog X.w X.K X.mg X.base C "__len__" k m) (N : NbK X.K C) (hr : RoomG (k + 3) X.A) (hx : Passes (L2.CX X.prog X.w) X E) (hm : X.mg "bool" = none) (he : QE X E e de) (hg : Gl X "bool" := by rfl)
    (h1 : starEach [e] X.env = (false, eval e X.env) :: starEach [] X.env := by rfl) (hpl : (backTo pos (starEach [] X.env)).any (·.1) = false := by rfl) : QE X E (.Call (.Name "bool" p) [e] [] pos) (dBoolO C m de) := by
  obtain ⟨te, a1, a2⟩ := he.ex
  refine ⟨_, pe_callTy (call_boolOwn G N hr hx) hg hm PyProof.Rows.Boot.«bool» (pa_cons a1 pa_nil h1) (by decide) (by decide) h1 hpl, ?_⟩
  intro ρ F H Γ μ σ kk s Q h
  unfold dBoolO at h
  refine a2 ρ F H Γ μ σ kk s _ ((WpR.bind h).mono (fun d μ1 q => ?_) fun _ _ q => q)
  intro ρ1 F1 H1 v n1 k1 r1
  split at q
  · rename_i C' ds
    split at q
    · rename_i hC
      subst hC
      cases r1 with
      | @slt a dx _ vs _ g1 g2 g3 =>
        refine ⟨a, dx, vs.map some, rfl, .inr ⟨k1.ex _ _ g1, k1.ex _ _ g2⟩, ρ1, F1, μ1, [.slt C' ds], k1, .cons (.slt g1 g2 g3) .nil, (WpR.bind q).mono (fun r μ2 q2 => ?_) fun _ _ q => XP.nx n1 q⟩
        intro ρ2 F2 H2 v2 n2 k2 r2
        split at q2
        · split at q2
          · rename_i hi
            cases r2
            exact ⟨_, rfl, hi.1, hi.2, q2 ρ2 F2 H2 _ (n1.trans n2) k2 (.bl _)⟩
          · exact q2.elim
        · exact q2.elim
    · exact q.elim
  · exact q.elim
theorem ok_boolO [ExW] {Γ : Gam} {μ : Mu} {Q : D → Mu → Prop} {C : Str} {m : Fn} {e : DE} : Ok (dBoolO C m e Γ μ) Q = Ok (e Γ μ) fun d μ1 => ∃ ds, d = .slt C ds ∧ Ok (m [.slt C ds] μ1) fun r μ2 => ∃ i : Int, r = .int i ∧ 0 ≤ i ∧ i < 2 ^ 62 ∧ Q (.bl (i != 0)) μ2 := by
  unfold dBoolO
  rw [ok_bind]
  congr 1; funext d μ1
  refine propext ⟨fun h => ?_, fun ⟨ds, e, q⟩ => ?_⟩
  · split at h
    · rename_i C' ds
      split at h
      · rename_i hC
        subst hC
        refine ⟨ds, rfl, ?_⟩
        rw [ok_bind] at h
        refine h.mono fun r μ2 h => ?_
        split at h
        · split at h
          · rename_i hi
            exact ⟨_, rfl, hi.1, hi.2, h⟩
          · exact False.elim h
        · exact False.elim h
      · exact False.elim h
    · exact False.elim h
  · subst e
    show Ok (if _ then _ else _) Q
    rw [if_pos rfl, ok_bind]
    refine q.mono fun r μ2 ⟨i, e, h0, h1, q⟩ => ?_
    subst e
    show Ok (if _ then _ else _) Q
    rw [if_pos ⟨h0, h1⟩]
    exact q
/-! ### f-strings -/
/-- {x}, x an int -/
def dFmt (e : DE) : DE := fun Γ μ => (e Γ μ).bind fun d μ1 => match d with
  | .int i => if i.natAbs.log2 < 1920 then .ok (.str (toString i)) μ1 else .stk
  | _ => .stk
/-- three parts -/
def dJs3 (a b c : DE) : DE := fun Γ μ => (a Γ μ).bind fun x μ1 => match x with
  | .str x => if (Str.empty ++ x).length ≤ 1000000 then (b Γ μ1).bind fun y μ2 => match y with
    | .str y => if (Str.empty ++ x ++ y).length ≤ 1000000 then (c Γ μ2).bind fun z μ3 => match z with
      | .str z => if (Str.empty ++ x ++ y ++ z).length ≤ 1000000 then .ok (.str (Str.empty ++ x ++ y ++ z)) μ3 else .stk
      | _ => .stk else .stk
    | _ => .stk else .stk
  | _ => .stk
section
variable {X : Cx} {E : XK} {a b c : Expr} {da db dc : DE} {pos : Pos}
theorem q_fmt (ha : QE X E a da) : QE X E (.FormattedValue a (-1) none pos) (dFmt da) := by
  obtain ⟨ta, a1, a2⟩ := ha.ex
  refine ⟨_, pe_fmt a1, ?_⟩
  intro ρ F H Γ μ σ k s Q h
  refine a2 ρ F H Γ μ σ k s _ ((WpR.bind h).mono (fun x μ1 q => ?_) fun _ _ q => q)
  intro ρ1 F1 H1 v n1 k1 r1
  split at q
  · split at q
    · rename_i hl
      cases r1
      exact .inr ⟨_, rfl, hl, q ρ1 F1 H1 _ n1 k1 (.str _)⟩
    · exact q.elim
  · exact q.elim
theorem q_js3 (ha : QE X E a da) (hb : QE X E b db) (hc : QE X E c dc) : QE X E (.JoinedStr [a, b, c] pos) (dJs3 da db dc) := by
  obtain ⟨ta, a1, a2⟩ := ha.ex
  obtain ⟨tb, b1, b2⟩ := hb.ex
  obtain ⟨tc, c1, c2⟩ := hc.ex
  refine ⟨_, pe_joined (.cons a1 (.cons b1 (.cons c1 .nil))), ?_⟩
  intro ρ F H Γ μ σ k s Q h
  refine a2 ρ F H Γ μ σ k s _ ((WpR.bind h).mono (fun x μ1 q => ?_) fun _ _ q => q)
  intro ρ1 F1 H1 v n1 k1 r1
  split at q
  · split at q
    · rename_i h1
      cases r1
      refine ⟨_, rfl, le_million h1, ?_⟩
      refine b2 ρ1 F1 H1 Γ μ1 σ k1 (s.nx n1) _ ((WpR.bind q).mono (fun y μ2 q2 => ?_) fun _ _ q => XP.nx n1 q)
      intro ρ2 F2 H2 v2 n2 k2 r2
      clear q
      split at q2
      · split at q2
        · rename_i h2
          cases r2
          refine ⟨_, rfl, le_million h2, ?_⟩
          refine c2 ρ2 F2 H2 Γ μ2 σ k2 (s.nx (n1.trans n2)) _ ((WpR.bind q2).mono (fun z μ3 q3 => ?_) fun _ _ q => XP.nx (n1.trans n2) q)
          intro ρ3 F3 H3 v3 n3 k3 r3
          clear q2
          split at q3
          · split at q3
            · rename_i h3
              cases r3
              exact ⟨_, rfl, le_million h3, q3 ρ3 F3 H3 _ ((n1.trans n2).trans n3) k3 (.str _)⟩
            · exact q3.elim
          · exact q3.elim
        · exact q2.elim
      · exact q2.elim
    · exact q.elim
  · exact q.elim
end
end Ar

set_option Elab.async false
set_option linter.all false
set_option maxRecDepth 100000
set_option maxHeartbeats 4000000
/-! Ar67: u == x, x an instance with an own __eq__ and u of a built-in type; isinstance(u, C) of such -/
namespace Ar
open PySem PySem.Spec PyProof.Rows L2
section
variable {M : Model} {prog : Program} {w : World} {A : Around} {E : Value → Shared → Prop} {s : Shared} {K : PySem.W.Frag} {x C dx : Addr} {sl : Array (Option Value)} {od : Option Obj} {u : Value}
theorem isinst_no {T : String} {Q : Bool → Shared → Prop} {ox : Obj} (X : K.In s.heap) (I : PySem.W.InstAt s.heap x ox C od) (hm : PySem.W.subIn K (.ref C) (.type T) = some false) (q : Q false s) : wpAny M A (isInstance (.ref x) (.type T)) Q E s := by
  unfold isInstance
  exact wpAny_bind (I.type.here ((PySem.W.looks_subIn X hm).here q))
abbrev InstS (h : Heap) (x C dx : Addr) (sl : Array (Option Value)) (od : Option Obj) : Prop := PySem.W.InstAt h x { PySem.W.instObj C dx with slots := sl } C od
theorem dec_tuple {Q : PySem.Fin → Shared → Prop} (X : K.In s.heap) (I : InstS s.heap x C dx sl od) (hm : PySem.W.subIn K (.ref C) (.type "tuple") = some false) (q : Q (.done (.ret .notImplemented)) s) : wpAny M A (Builtin.«tuple.__eq__» ⟨[u, .ref x], []⟩) Q E s := by
  unfold Builtin.«tuple.__eq__»
  repeat (first | (refine wpAny_bind (m := isInstance (.ref x) (.type "tuple")) (isinst_no X I hm ?_)) | wp_step)
  exact q
theorem dec_list {Q : PySem.Fin → Shared → Prop} (X : K.In s.heap) (I : InstS s.heap x C dx sl od) (hm : PySem.W.subIn K (.ref C) (.type "list") = some false) (q : Q (.done (.ret .notImplemented)) s) : wpAny M A (Builtin.«list.__eq__» ⟨[u, .ref x], []⟩) Q E s := by
  unfold Builtin.«list.__eq__»
  repeat (first | (refine wpAny_bind (m := isInstance (.ref x) (.type "list")) (isinst_no X I hm ?_)) | wp_step)
  exact q
theorem dec_dict {Q : PySem.Fin → Shared → Prop} (X : K.In s.heap) (I : InstS s.heap x C dx sl od) (hm : PySem.W.subIn K (.ref C) (.type "dict") = some false) (q : Q (.done (.ret .notImplemented)) s) : wpAny M A (Builtin.«dict.__eq__» ⟨[u, .ref x], []⟩) Q E s := by
  unfold Builtin.«dict.__eq__»
  repeat (first | (refine wpAny_bind (m := isInstance (.ref x) (.type "dict")) (isinst_no X I hm ?_)) | wp_step)
  exact q
theorem asStr_no {Q : Option Str → Shared → Prop} (I : InstS s.heap x C dx sl od) (q : Q none s) : wpAny M A (asStr? (.ref x)) Q E s := by
  unfold asStr?
  refine wpAny_bind (wpAny_load I.at_ ?_)
  exact wpAny_pure q
theorem asInt_no {Q : Option Int → Shared → Prop} (I : InstS s.heap x C dx sl od) (q : Q none s) : wpAny M A (asInt? (.ref x)) Q E s := by
  unfold asInt?
  refine wpAny_bind (wpAny_load I.at_ ?_)
  exact wpAny_pure q
theorem dec_str {y : Str} {t : Tok} {Q : PySem.Fin → Shared → Prop} (I : InstS s.heap x C dx sl od) (q : Q (.done (.ret .notImplemented)) s) : wpAny M A (Builtin.«str.__eq__» ⟨[.str y t, .ref x], []⟩) Q E s := by
  unfold Builtin.«str.__eq__»
  repeat (first | (refine wpAny_bind (m := asStr? (.ref x)) (asStr_no I ?_)) | wp_step)
  exact q
theorem dec_int {n : Int} {t : Tok} {Q : PySem.Fin → Shared → Prop} (I : InstS s.heap x C dx sl od) (q : Q (.done (.ret .notImplemented)) s) : wpAny M A (Builtin.«int.__eq__» ⟨[.int n t, .ref x], []⟩) Q E s := by
  unfold Builtin.«int.__eq__»
  repeat (first | (refine wpAny_bind (m := asInt? (.ref x)) (asInt_no I ?_)) | wp_step)
  exact q
theorem dec_bool {b : Bool} {Q : PySem.Fin → Shared → Prop} (I : InstS s.heap x C dx sl od) (q : Q (.done (.ret .notImplemented)) s) : wpAny M A (Builtin.«int.__eq__» ⟨[.bool b, .ref x], []⟩) Q E s := by
  unfold Builtin.«int.__eq__»
  repeat (first | (refine wpAny_bind (m := asInt? (.ref x)) (asInt_no I ?_)) | wp_step)
  exact q
variable {T : String}
theorem tc_of {id : String} {B : Builtin} {Q : Option Value → Shared → Prop} (hT : s.TypeIs u T) (slot : Slot T "__eq__" id) (entry : entryFor table id = some B) (args : argsOk id ⟨[u, .ref x], []⟩)
    (h : ∀ Q' : PySem.Fin → Shared → Prop, Q' (.done (.ret .notImplemented)) s → wpAny (model prog w) A.in1 (B ⟨[u, .ref x], []⟩) Q' E s) (q : Q none s) : wpAny (model prog w) A (tryCompare u "__eq__" (.ref x)) Q E s :=
  wpAny_tryCompare_declines hT slot (wpAny_call_entry slot hT entry (h _ ⟨_, rfl, rfl, q⟩) args)
structure OthS (K : PySem.W.Frag) (C : Addr) : Prop where
  sub : ∀ t ∈ tyOk, PySem.W.subIn K (.ref C) (.type t) = some false
  kit : ∀ t ∈ tyOk, PySem.W.kitOne K (.type t) (.ref C) = some false
def othB (K : PySem.W.Frag) (C : Str) : Bool := (tyOk.all fun t => decide (PySem.W.subIn K (.ref (He.ga K C)) (.type t) = some false)) && (tyOk.all fun t => decide (PySem.W.kitOne K (.type t) (.ref (He.ga K C)) = some false))
theorem othB_ok {C : Str} (h : othB K C = true) : OthS K (He.ga K C) := by
  unfold othB at h
  rw [Bool.and_eq_true] at h
  exact ⟨fun t ht => of_decide_eq_true (List.all_eq_true.mp h.1 t ht), fun t ht => of_decide_eq_true (List.all_eq_true.mp h.2 t ht)⟩
/-- u == x: u of a built-in type passes, x is asked -/
theorem eq_refl {f : Addr} {Q : Value → Shared → Prop} (hu : A.units < cLine) (X : K.In s.heap) (I : InstS s.heap x C dx sl od) (O : OthS K C) (hT : s.TypeIs u T) (ht : T ∈ tyOk)
    (tc : ∀ Q : Option Value → Shared → Prop, Q none s → wpAny (model prog w) A (tryCompare u "__eq__" (.ref x)) Q E s)
    (he : PySem.W.findIn K (.ref C) "__eq__" = some (some (.ref f))) (hf : PySem.W.isFn K (.ref f) = true)
    (h : wpAny (model prog w) A (call (.ref f) [.ref x, u]) (PySem.W.CmpBack Q) E s) : wpAny (model prog w) A (compareOp .Eq u (.ref x)) Q E s := by
  have two : wpAny (model prog w) A (tryCompare (.ref x) "__eq__" u) (fun r s' => ∃ v, r = some v ∧ Q v s') E s := by
    unfold tryCompare
    refine wpAny_bind (PySem.W.ifBound_K X I he hf (wpAny_mono h (fun v s' hv => ?_) fun _ _ e => e))
    cases v <;> first | exact hv.elim | exact wpAny_pure ⟨_, rfl, hv⟩
  show wpAny _ _ (richCompare .Eq u (.ref x)) _ _ _
  unfold richCompare
  rw [hT.oneThing_none]
  refine wpAny_holding (wpAny_bind (wpAny_cRoomFor hu ?_))
  simp only [cmpInfo_Eq]
  refine wpAny_bind (wpAny_typeOf hT (wpAny_bind (I.type.here ?_)))
  have hne : (Value.type T != Value.ref C) = true := by simp
  rw [if_pos hne]
  refine wpAny_bind ((PySem.W.looks_subIn X (O.sub T ht)).here ?_)
  simp only [Bool.false_eq_true, if_false, Bool.not_false, if_true]
  refine wpAny_bind (tc _ ?_)
  refine wpAny_bind (wpAny_mono two (fun r s' z => ?_) fun _ _ e => e)
  obtain ⟨v, rfl, hq⟩ := z
  exact wpAny_pure hq
end
section
variable {X : Cx} {pins : List (Addr × Obj)} {σ : L2.St} {H : Hp} {s : Shared}
/-- a value of a built-in type declines -/
theorem tc_any {z : V} {u : Value} {t : String} {x C dx : Addr} {sl : Array (Option Value)} {od : Option Obj} (I : Inv X pins σ H s) (rx : RelV z u) (ty : TyX X.K H z (.type t)) (ht : t ∈ tyOk) (J : InstS s.heap x C dx sl od) (O : OthS X.K C) :
    s.TypeIs u t ∧ ∀ (A : Around) (E : Value → Shared → Prop) (Q : Option Value → Shared → Prop), Q none s → wpAny (model X.prog X.w) A (tryCompare u "__eq__" (.ref x)) Q E s := by
  have tup : s.TypeIs u "tuple" → s.TypeIs u "tuple" ∧ ∀ (A : Around) (E : Value → Shared → Prop) (Q : Option Value → Shared → Prop), Q none s → wpAny (model X.prog X.w) A (tryCompare u "__eq__" (.ref x)) Q E s := fun hT =>
    ⟨hT, fun A E Q q => tc_of hT PySem.F.slot_tuple_eq PySem.F.entry_tuple_eq (PySem.F.args_tuple_eq_2 _ _) (fun Q' q' => dec_tuple I.kIn J (O.sub "tuple" (by decide)) q') q⟩
  have lst : s.TypeIs u "list" → s.TypeIs u "list" ∧ ∀ (A : Around) (E : Value → Shared → Prop) (Q : Option Value → Shared → Prop), Q none s → wpAny (model X.prog X.w) A (tryCompare u "__eq__" (.ref x)) Q E s := fun hT =>
    ⟨hT, fun A E Q q => tc_of hT PySem.F.slot_list_eq PySem.F.entry_list_eq (PySem.F.args_list_eq_2 _ _) (fun Q' q' => dec_list I.kIn J (O.sub "list" (by decide)) q') q⟩
  have dct : s.TypeIs u "dict" → s.TypeIs u "dict" ∧ ∀ (A : Around) (E : Value → Shared → Prop) (Q : Option Value → Shared → Prop), Q none s → wpAny (model X.prog X.w) A (tryCompare u "__eq__" (.ref x)) Q E s := fun hT =>
    ⟨hT, fun A E Q q => tc_of hT PySem.F.slot_dict_eq PySem.F.entry_dict_eq (PySem.F.args_dict_eq_2 _ _) (fun Q' q' => dec_dict I.kIn J (O.sub "dict" (by decide)) q') q⟩
  cases ty with
  | base b =>
    cases b with
    | non =>
      cases (show u = Value.none from rx)
      exact ⟨rfl, fun A E Q q => wpAny_tryCompare_declines (T := "NoneType") rfl PySem.F.slot_NoneType_eq (call_gives PySem.F.slot_NoneType_eq rfl PySem.F.entry_NoneType_eq (PySem.F.args_NoneType_eq_2 _ _) (PySem.SeqAt.NoneType___eq___none_ref_0 x) ⟨rfl, q⟩)⟩
    | bl y =>
      cases (show u = Value.bool y from rx)
      exact ⟨rfl, fun A E Q q => tc_of (T := "bool") rfl PySem.F.slot_bool_eq PySem.F.entry_int_eq (PySem.F.args_int_eq_2 _ _) (fun Q' q' => dec_bool J q') q⟩
    | int i =>
      obtain ⟨t, e⟩ := (show ∃ t, u = Value.int i t from rx)
      cases e
      exact ⟨rfl, fun A E Q q => tc_of (T := "int") rfl PySem.F.slot_int_eq PySem.F.entry_int_eq (PySem.F.args_int_eq_2 _ _) (fun Q' q' => dec_int J q') q⟩
    | str y =>
      obtain ⟨t, e⟩ := (show ∃ t, u = Value.str y t from rx)
      cases e
      exact ⟨rfl, fun A E Q q => tc_of (T := "str") rfl PySem.F.slot_str_eq PySem.F.entry_str_eq (PySem.F.args_str_eq_2 _ _) (fun Q' q' => dec_str J q') q⟩
    | flt y => exact absurd ht (by decide)
    | @lst a xs ea =>
      cases (show u = Value.ref a from rx)
      obtain ⟨_, _, n, _, h1⟩ := (show ObjOk X.prog X.w H s.heap a (.lst xs) from I.hok a _ ea)
      exact lst ⟨_, h1, rfl⟩
    | @frz a ob xs ea =>
      cases (show u = Value.ref a from rx)
      obtain ⟨_, _, _, n, _, h1⟩ := (show ObjOk X.prog X.w H s.heap a (.frz ob (.lst xs)) from I.hok a _ ea)
      exact lst ⟨_, h1, rfl⟩
    | @tup a xs ea =>
      cases (show u = Value.ref a from rx)
      obtain ⟨_, _, _, o, h1, h2, _⟩ := (show ObjOk X.prog X.w H s.heap a (.tup xs) from I.hok a _ ea)
      exact tup ⟨o, h1, h2⟩
    | @dK a kvs ea =>
      cases (show u = Value.ref a from rx)
      obtain ⟨_, _, vs, _, o, es, ep, h1, h2, _⟩ := (show ObjOk X.prog X.w H s.heap a (.dK kvs) from I.hok a _ ea)
      exact dct ⟨o, h1, h2.1⟩
    | @dT a kvs ea =>
      cases (show u = Value.ref a from rx)
      obtain ⟨_, _, xs, _, o, es, ep, h1, h2, _⟩ := (show ObjOk X.prog X.w H s.heap a (.dT kvs) from I.hok a _ ea)
      exact dct ⟨o, h1, h2.1⟩
  | byt y => exact absurd ht (by decide)
  | set e => exact absurd ht (by decide)
  | @kList a o e c =>
    cases (show u = Value.ref a from rx)
    exact lst ⟨o, I.kIn a o e, c⟩
  | @kTuple a o e c =>
    cases (show u = Value.ref a from rx)
    exact tup ⟨o, I.kIn a o e, c⟩
  | @kDict a o e c =>
    cases (show u = Value.ref a from rx)
    exact dct ⟨o, I.kIn a o e, c⟩
  | @fTuple a ob xs ea =>
    cases (show u = Value.ref a from rx)
    obtain ⟨_, _, _, _, o, h1, h2, _⟩ := (show ObjOk X.prog X.w H s.heap a (.frz ob (.tup xs)) from I.hok a _ ea)
    exact tup ⟨o, h1, h2⟩
  | @fDict a ob kvs ea =>
    cases (show u = Value.ref a from rx)
    obtain ⟨_, _, _, vs, _, o, es, ep, h1, h2, _⟩ := (show ObjOk X.prog X.w H s.heap a (.frz ob (.dK kvs)) from I.hok a _ ea)
    exact dct ⟨o, h1, h2.1⟩
def rOwnR (K : PySem.W.Frag) (C : Str) (m : Fn) (E : XK) : R2 := fun x y H Q => ∃ t b dy ws, TyX K H x (.type t) ∧ t ∈ tyOk ∧ y = .ref b ∧ SlX.Slt H b (He.ga K C) dy ws ∧ spM K m [.ref b, x] H (fun z H' => ∃ c, z = .bl c ∧ Q (.bl c) H') E
theorem op_ownEqR {C : Str} {m : Fn} {k : Nat} {E : XK} (G : MethG X.prog X.w X.K X.mg X.base C "__eq__" k m) (O : OthS X.K (He.ga X.K C)) (hr : RoomG k X.A) (hx : Passes (L2.CX X.prog X.w) X E) : OpR X (compareOp .Eq) (rOwnR X.K C m E) := by
  intro pins s σ H x y v u Q I rx ry h
  obtain ⟨t, b, dy, ws, ty, ht, rfl, hb, q⟩ := h
  cases (show u = Value.ref b from ry)
  obtain ⟨sl, od, _, J, _⟩ := SlX.slt_inst I hb
  obtain ⟨hT, tc⟩ := tc_any I rx ty ht J O
  obtain ⟨f, fd, ps, h1, h2, h3, h4, h5⟩ := G.ex
  refine eq_refl hr.un1 I.kIn J O hT ht (fun Q q => tc _ _ Q q) h1 h2 ?_
  refine wpAny_mono (wpAny_call (ranAt (us := [.ref b, v]) (xs := [.ref b, x]) h5 hr I.env0 hx I ?_ (.cons rfl (.cons rx .nil)) q)) (fun w s' z => ?_) fun _ _ x => x
  · exact h4 s [.ref b, v] I.kIn (by have := h5.ln _ _ _ _ q; simpa using this)
  · obtain ⟨z', H', I', rz, c, ez, qz⟩ := z
    subst ez
    exact SlX.cmpback rz ⟨.bl c, H', I', rz, qz⟩
end
/-- a == b, b of the class C, a of a built-in type -/
def dOwnR (C : Str) (m : Fn) (a b : DE) : DE := fun Γ μ => (a Γ μ).bind fun x μ1 => (b Γ μ1).bind fun y μ2 => match y with
  | .slt C1 ds => if C1 = C ∧ (tyN μ2 x).isSome = true then (m [.slt C1 ds, x] μ2).bind fun z μ3 => match z with
      | .bl c => .ok (.bl c) μ3
      | _ => .stk
    else .stk
  | _ => .stk
section
variable {X : Cx} {E : XK} {K : PySem.W.Frag} {C : Str} {m : Fn} {a b : Expr} {da db : DE} {pos : Pos}
theorem sim_ownR {ta tb : TE} (ha : SimE K E ta da) (hb : SimE K E tb db) : SimE K E (tOp (rOwnR K C m E) ta tb) (dOwnR C m da db) := by
  intro ρ F H Γ μ σ k s Q h
  refine ha ρ F H Γ μ σ k s _ ((WpR.bind h).mono (fun x μ1 qa => ?_) fun _ _ q => q)
  intro ρ1 F1 H1 v n1 k1 r1
  refine hb ρ1 F1 H1 Γ μ1 σ k1 (s.nx n1) _ ((WpR.bind qa).mono (fun y μ2 q => ?_) fun _ _ q => XP.nx n1 q)
  intro ρ2 F2 H2 w n2 k2 r2
  have r1 := r1.nx n2
  clear qa
  split at q
  · rename_i C1 ds
    split at q
    · rename_i hc
      obtain ⟨hC, hy⟩ := hc
      subst hC
      obtain ⟨t, ht⟩ := Option.isSome_iff_exists.mp hy
      have ty := tyN_ok k2 r1 ht
      cases r2 with
      | @slt b dx _ vs _ g1 g2 g3 =>
        refine ⟨t, b, dx, vs.map some, ty, tyN_mem ht, rfl, .inr ⟨k2.ex _ _ g1, k2.ex _ _ g2⟩, ρ2, F2, μ2, [.slt C1 ds, x], k2, .cons (.slt g1 g2 g3) (.cons r1 .nil), ?_⟩
        refine (WpR.bind q).mono (fun r μ3 q2 => ?_) fun _ _ q => XP.nx (n1.trans n2) q
        intro ρ3 F3 H3 v3 n3 k3 r3
        split at q2
        · rename_i c
          cases r3
          exact ⟨_, rfl, q2 ρ3 F3 H3 _ ((n1.trans n2).trans n3) k3 (.bl _)⟩
        · exact q2.elim
    · exact q.elim
  · exact q.elim
theorem qt_ownR {k : Nat} (G : MethG X.prog X.w X.K X.mg X.base C "__eq__" k m) (O : OthS X.K (He.ga X.K C)) (hr : RoomG k X.A) (hx : Passes (L2.CX X.prog X.w) X E) (ha : QE X E a da) (hb : QE X E b db) (hm : behindInMarks .Eq b = false := by first | exact nomark _ | rfl) : QT X E (.Compare a [.Eq] [b] pos) (dTest (dOwnR C m da db)) := by
  obtain ⟨ta, a1, a2⟩ := ha.ex
  obtain ⟨tb, b1, b2⟩ := hb.ex
  exact ⟨_, pt_cmpR (op_ownEqR G O hr hx) a1 b1 hm, sim_test (sim_ownR a2 b2)⟩
end
theorem ok_ownR [ExW] {C : Str} {m : Fn} {a b : DE} {Γ : Gam} {μ : Mu} {Q : D → Mu → Prop} : Ok (dOwnR C m a b Γ μ) Q = Ok (a Γ μ) fun x μ1 => Ok (b Γ μ1) fun y μ2 => ∃ ds, y = .slt C ds ∧ (tyN μ2 x).isSome = true ∧ Ok (m [.slt C ds, x] μ2) fun z μ3 => ∃ c, z = .bl c ∧ Q (.bl c) μ3 := by
  unfold dOwnR
  rw [ok_bind]
  congr 1; funext x μ1
  rw [ok_bind]
  congr 1; funext y μ2
  refine propext ⟨fun h => ?_, fun ⟨ds, e1, e2, q⟩ => ?_⟩
  · split at h
    · rename_i C1 ds
      split at h
      · rename_i hc
        obtain ⟨rfl, hy⟩ := hc
        refine ⟨ds, rfl, hy, ?_⟩
        rw [ok_bind] at h
        refine h.mono fun z μ3 h => ?_
        split at h
        · exact ⟨_, rfl, h⟩
        · exact False.elim h
      · exact False.elim h
    · exact False.elim h
  · subst e1
    show Ok (if _ then _ else _) Q
    rw [if_pos ⟨rfl, e2⟩, ok_bind]
    refine q.mono fun z μ3 ⟨c, e, q⟩ => ?_
    subst e
    exact q
/-- isinstance(u, C), u of a built-in type -/
def fIsaCN (C : Str) : Mu → List D → Option D := fun μ ds => match ds with
  | [x, .glo C2] => if C2 = C ∧ (tyN μ x).isSome = true then some (.bl false) else none
  | _ => none
theorem cd_isaCN {X : Cx} {C : Str} (O : OthS X.K (He.ga X.K C)) : CallD X (.builtin "isinstance") (fIsaCN C) := by
  refine ⟨_, call_isi, fun ρ F H μ vs ds z k rv ez Q q => ?_⟩
  unfold fIsaCN at ez
  split at ez
  · rename_i x C2
    split at ez
    · rename_i hc
      obtain ⟨rfl, hy⟩ := hc
      cases ez
      obtain ⟨t, ht⟩ := Option.isSome_iff_exists.mp hy
      cases rv with
      | cons r1 r2 =>
        cases r2 with
        | cons r2 r3 =>
          cases r3
          cases r2
          exact ⟨_, _, _, _, _, rfl, .own _, tyN_ok k r1 ht, O.kit t (tyN_mem ht), q ρ F H _ Nx.refl k (.bl _)⟩
    · cases ez
  · cases ez
end Ar

set_option linter.all false
/-! FM: moves as a group, rows of numbers, what presses come to: no program in sight -/
namespace FM
abbrev Vc := Nat → Int
def vz : Vc := fun _ => 0
def va (v w : Vc) (c : Int) : Vc := fun i => v i + c * w i
structure Md (P : Vc → Prop) : Prop where
  z : P vz
  a : ∀ v w c, P v → P w → P (va v w c)
def Sp (R : List Vc) (v : Vc) : Prop := ∀ P, Md P → (∀ r ∈ R, P r) → P v
theorem Sp.md (R : List Vc) : Md (Sp R) := ⟨fun P m _ => m.z, fun v w c a b P m h => m.a v w c (a P m h) (b P m h)⟩
theorem Sp.of {R : List Vc} {r : Vc} (h : r ∈ R) : Sp R r := fun P _ q => q r h
theorem Sp.le {R : List Vc} {P : Vc → Prop} {v : Vc} (m : Md P) (h : ∀ r ∈ R, P r) (s : Sp R v) : P v := s P m h
theorem va_assoc (v w u : Vc) (c d : Int) : va (va v w c) u d = va (va v u d) w c := by funext i; simp only [va]; omega
theorem Sp.nil {v : Vc} (h : Sp [] v) : v = vz := h (fun v => v = vz) ⟨rfl, fun v w c a b => by subst a; subst b; funext i; simp [va, vz]⟩ (fun r h => by cases h)
theorem Sp.cons {r : Vc} {R : List Vc} {v : Vc} (h : Sp (r :: R) v) : ∃ c w, Sp R w ∧ v = va w r c := by
  refine h (fun v => ∃ c w, Sp R w ∧ v = va w r c) ⟨⟨0, vz, (Sp.md R).z, by funext i; simp [va, vz]⟩, ?_⟩ ?_
  · rintro v w c ⟨a, p, hp, rfl⟩ ⟨b, q, hq, rfl⟩
    exact ⟨a + c * b, va p q c, (Sp.md R).a p q c hp hq, by funext i; simp only [va]; grind⟩
  · intro q hq
    rcases List.mem_cons.mp hq with rfl | hq
    · exact ⟨1, vz, (Sp.md R).z, by funext i; simp [va, vz]⟩
    · exact ⟨0, q, Sp.of hq, by funext i; simp [va]⟩
theorem Sp.mono {R R' : List Vc} {v : Vc} (h : ∀ r ∈ R, Sp R' r) (s : Sp R v) : Sp R' v := Sp.le (Sp.md R') h s
def SpEq (R R' : List Vc) : Prop := (∀ r ∈ R, Sp R' r) ∧ ∀ r ∈ R', Sp R r
theorem SpEq.refl (R : List Vc) : SpEq R R := ⟨fun _ h => Sp.of h, fun _ h => Sp.of h⟩
theorem SpEq.trans {A B C : List Vc} (h : SpEq A B) (k : SpEq B C) : SpEq A C := ⟨fun r hr => (h.1 r hr).mono k.1, fun r hr => (k.2 r hr).mono h.2⟩
theorem SpEq.symm {A B : List Vc} (h : SpEq A B) : SpEq B A := ⟨h.2, h.1⟩
theorem SpEq.sp {A B : List Vc} (h : SpEq A B) {v : Vc} : Sp A v ↔ Sp B v := ⟨Sp.mono h.1, Sp.mono h.2⟩
theorem Sp.mem_app {R S : List Vc} {v : Vc} (h : Sp R v) : Sp (R ++ S) v := h.mono fun r hr => Sp.of (List.mem_append_left _ hr)
theorem SpEq.app {A B C D : List Vc} (h : SpEq A B) (k : SpEq C D) : SpEq (A ++ C) (B ++ D) := by
  constructor
  · intro r hr
    rcases List.mem_append.mp hr with q | q
    · exact (h.1 r q).mono fun x hx => Sp.of (List.mem_append_left _ hx)
    · exact (k.1 r q).mono fun x hx => Sp.of (List.mem_append_right _ hx)
  · intro r hr
    rcases List.mem_append.mp hr with q | q
    · exact (h.2 r q).mono fun x hx => Sp.of (List.mem_append_left _ hx)
    · exact (k.2 r q).mono fun x hx => Sp.of (List.mem_append_right _ hx)
theorem SpEq.perm {A B : List Vc} (h : ∀ r, r ∈ A ↔ r ∈ B) : SpEq A B := ⟨fun r q => Sp.of ((h r).mp q), fun r q => Sp.of ((h r).mpr q)⟩
/-- one Euclid step: (a, b) to (b, a + c b) -/
theorem SpEq.step (a b : Vc) (c : Int) : SpEq [a, b] [b, va a b c] := by
  constructor
  · intro r hr
    simp only [List.mem_cons, List.not_mem_nil, or_false] at hr
    rcases hr with rfl | rfl
    · have : r = va (va r b c) b (-c) := by funext i; simp only [va]; grind
      rw [this]
      exact (Sp.md _).a _ _ _ (Sp.of (by simp [← this])) (Sp.of (by simp))
    · exact Sp.of (by simp)
  · intro r hr
    simp only [List.mem_cons, List.not_mem_nil, or_false] at hr
    rcases hr with rfl | rfl
    · exact Sp.of (by simp)
    · exact (Sp.md _).a _ _ _ (Sp.of (by simp)) (Sp.of (by simp))
/-- a row turned round -/
theorem SpEq.neg (a : Vc) : SpEq [a] [va vz a (-1)] := by
  constructor
  · intro r hr
    simp only [List.mem_cons, List.not_mem_nil, or_false] at hr
    subst hr
    have : r = va vz (va vz r (-1)) (-1) := by funext i; simp [va, vz]
    have h := (Sp.md [va vz r (-1)]).a vz (va vz r (-1)) (-1) (Sp.md _).z (Sp.of (by simp))
    rw [← this] at h
    exact h
  · intro r hr
    simp only [List.mem_cons, List.not_mem_nil, or_false] at hr
    subst hr
    exact (Sp.md _).a _ _ _ (Sp.md _).z (Sp.of (by simp))
/-- a row with another one so many times more -/
theorem SpEq.more (a b : Vc) (c : Int) : SpEq [a, b] [va a b c, b] := by
  refine (SpEq.step a b c).trans (SpEq.perm fun r => ?_)
  simp only [List.mem_cons, List.not_mem_nil, or_false]
  exact Or.comm

/-! ### moves -/
structure Mv where
  x : Int
  y : Int
  s : Int
  deriving DecidableEq, Inhabited
@[ext] theorem Mv.ext' {a b : Mv} (h1 : a.x = b.x) (h2 : a.y = b.y) (h3 : a.s = b.s) : a = b := by
  cases a; cases b; simp_all
def mul (a b : Mv) : Mv := ⟨a.x + b.x, a.y + b.y, a.s + b.s + a.x * b.y⟩
def one : Mv := ⟨0, 0, 0⟩
def inv (a : Mv) : Mv := ⟨-a.x, -a.y, a.x * a.y - a.s⟩
def tri (n : Int) : Int := (n * (n - 1)).fdiv 2
theorem tri2 (n : Int) : 2 * tri n = n * (n - 1) := by
  unfold tri
  have h : n * (n - 1) % 2 = 0 := by
    rcases Int.emod_two_eq n with h | h
    · rw [Int.mul_emod, h]; simp
    · rw [Int.mul_emod, Int.sub_emod, h]; simp
  rw [Int.fdiv_eq_ediv_of_nonneg _ (by decide)]
  omega
def pow (b : Mv) (n : Int) : Mv := ⟨n * b.x, n * b.y, n * b.s + tri n * b.x * b.y⟩
theorem tri_add (m n : Int) : tri (m + n) = tri m + tri n + m * n := by
  have h1 := tri2 (m + n)
  have h2 := tri2 m
  have h3 := tri2 n
  grind
theorem pow_add (b : Mv) (m n : Int) : pow b (m + n) = mul (pow b m) (pow b n) := by
  have h := tri_add m n
  ext <;> simp only [pow, mul] <;> grind
theorem pow_zero (b : Mv) : pow b 0 = one := by ext <;> simp [pow, one, tri]
theorem pow_one (b : Mv) : pow b 1 = b := by ext <;> simp [pow, tri]
theorem mul_assoc (a b c : Mv) : mul (mul a b) c = mul a (mul b c) := by ext <;> simp only [mul] <;> grind
theorem one_mul (a : Mv) : mul one a = a := by ext <;> simp [mul, one]
theorem mul_one (a : Mv) : mul a one = a := by ext <;> simp [mul, one]
theorem mul_inv (a : Mv) : mul a (inv a) = one := by ext <;> simp only [mul, one, inv] <;> grind
theorem inv_mul (a : Mv) : mul (inv a) a = one := by ext <;> simp only [mul, one, inv] <;> grind
def gap (a b : Mv) : Int := a.x * b.y - b.x * a.y
structure Grp (S : Mv → Prop) : Prop where
  o : S one
  m : ∀ a b, S a → S b → S (mul a b)
  i : ∀ a, S a → S (inv a)
def Gen (ms : List Mv) (m : Mv) : Prop := ∀ S, Grp S → (∀ b ∈ ms, S b) → S m
theorem Gen.grp (ms : List Mv) : Grp (Gen ms) := ⟨fun S g _ => g.o, fun a b ha hb S g h => g.m a b (ha S g h) (hb S g h), fun a ha S g h => g.i a (ha S g h)⟩
theorem Gen.of {ms : List Mv} {b : Mv} (h : b ∈ ms) : Gen ms b := fun S _ q => q b h
theorem Gen.le {ms : List Mv} {S : Mv → Prop} {m : Mv} (g : Grp S) (h : ∀ b ∈ ms, S b) (q : Gen ms m) : S m := q S g h
theorem Grp.pown {S : Mv → Prop} (g : Grp S) {b : Mv} (h : S b) : ∀ n : Nat, S (pow b n)
  | 0 => by rw [show ((0 : Nat) : Int) = 0 from rfl, pow_zero]; exact g.o
  | n + 1 => by
    rw [show ((n + 1 : Nat) : Int) = (n : Int) + 1 by omega, pow_add, pow_one]
    exact g.m _ _ (g.pown h n) h
theorem inv_uniq {a b : Mv} (h : mul a b = one) : b = inv a := by
  have := congrArg (mul (inv a)) h
  rw [← mul_assoc, inv_mul, one_mul, mul_one] at this
  exact this
theorem Grp.pow {S : Mv → Prop} (g : Grp S) {b : Mv} (h : S b) (n : Int) : S (pow b n) := by
  rcases Int.le_total 0 n with q | q
  · obtain ⟨k, rfl⟩ := Int.eq_ofNat_of_zero_le q
    exact g.pown h k
  · obtain ⟨k, hk⟩ := Int.eq_ofNat_of_zero_le (show 0 ≤ -n by omega)
    have e : mul (FM.pow b k) (FM.pow b n) = one := by rw [← pow_add, show (k : Int) + n = 0 by omega, pow_zero]
    rw [inv_uniq e]
    exact g.i _ (g.pown h k)

/-! ### presses -/
def press : List Mv → Vc → Mv
  | [], _ => one
  | b :: ms, sh => mul (pow b (sh 0)) (press ms fun j => sh (j + 1))
def smx : List Mv → Vc → Int
  | [], _ => 0
  | b :: ms, sh => sh 0 * b.x + smx ms fun j => sh (j + 1)
def smy : List Mv → Vc → Int
  | [], _ => 0
  | b :: ms, sh => sh 0 * b.y + smy ms fun j => sh (j + 1)
theorem press_x : ∀ (ms : List Mv) (sh : Vc), (press ms sh).x = smx ms sh
  | [], _ => rfl
  | b :: ms, sh => by simp only [press, mul, pow, smx, press_x ms]
theorem press_y : ∀ (ms : List Mv) (sh : Vc), (press ms sh).y = smy ms sh
  | [], _ => rfl
  | b :: ms, sh => by simp only [press, mul, pow, smy, press_y ms]
theorem smx_va : ∀ (ms : List Mv) (v w : Vc) (c : Int), smx ms (va v w c) = smx ms v + c * smx ms w
  | [], v, w, c => by simp [smx]
  | b :: ms, v, w, c => by
    have := smx_va ms (fun j => v (j + 1)) (fun j => w (j + 1)) c
    have e : (fun j => va v w c (j + 1)) = va (fun j => v (j + 1)) (fun j => w (j + 1)) c := rfl
    have ha : va v w c 0 = v 0 + c * w 0 := rfl
    simp only [smx, e, this, ha]
    grind
theorem smy_va : ∀ (ms : List Mv) (v w : Vc) (c : Int), smy ms (va v w c) = smy ms v + c * smy ms w
  | [], v, w, c => by simp [smy]
  | b :: ms, v, w, c => by
    have := smy_va ms (fun j => v (j + 1)) (fun j => w (j + 1)) c
    have e : (fun j => va v w c (j + 1)) = va (fun j => v (j + 1)) (fun j => w (j + 1)) c := rfl
    have ha : va v w c 0 = v 0 + c * w 0 := rfl
    simp only [smy, e, this, ha]
    grind
theorem press_gen (ms : List Mv) : ∀ sh, Gen ms (press ms sh) := by
  have : ∀ (l : List Mv), (∀ b ∈ l, b ∈ ms) → ∀ sh, Gen ms (press l sh) := by
    intro l
    induction l with
    | nil => intro _ _; exact (Gen.grp ms).o
    | cons b l ih =>
      intro h sh
      exact (Gen.grp ms).m _ _ ((Gen.grp ms).pow (Gen.of (h b (by simp))) _) (ih (fun c hc => h c (by simp [hc])) _)
  exact this ms fun _ h => h
theorem gap_press {g : Int} {b : Mv} : ∀ {ms : List Mv}, (∀ c ∈ ms, g ∣ gap b c) → ∀ sh, g ∣ b.x * smy ms sh - smx ms sh * b.y
  | [], _, sh => by simp [smx, smy]
  | c :: ms, h, sh => by
    obtain ⟨p, hp⟩ := h c (by simp)
    obtain ⟨q, hq⟩ := gap_press (ms := ms) (fun c hc => h c (by simp [hc])) fun j => sh (j + 1)
    refine ⟨sh 0 * p + q, ?_⟩
    simp only [smx, smy]
    unfold gap at hp
    grind
/-- presses added are presses one behind the other, up to gaps -/
theorem press_add {g : Int} : ∀ {ms : List Mv}, (∀ b ∈ ms, ∀ c ∈ ms, g ∣ gap b c) → ∀ (v w : Vc), g ∣ (press ms (va v w 1)).s - ((press ms v).s + (press ms w).s + smx ms v * smy ms w)
  | [], _, v, w => by simp [press, one, smx]
  | b :: ms, h, v, w => by
    obtain ⟨p, hp⟩ := press_add (ms := ms) (fun b hb c hc => h b (by simp [hb]) c (by simp [hc])) (fun j => v (j + 1)) (fun j => w (j + 1))
    obtain ⟨q, hq⟩ := gap_press (g := g) (b := b) (ms := ms) (fun c hc => h b (by simp) c (by simp [hc])) fun j => v (j + 1)
    refine ⟨p + w 0 * q, ?_⟩
    have e : (fun j => va v w 1 (j + 1)) = va (fun j => v (j + 1)) (fun j => w (j + 1)) 1 := rfl
    have ha : va v w 1 0 = v 0 + w 0 := by simp [va]
    have ht := tri_add (v 0) (w 0)
    have hy := smy_va ms (fun j => v (j + 1)) (fun j => w (j + 1)) 1
    simp only [press, mul, pow, smx, smy, e, ha, press_y, hy, ht]
    grind
theorem press_zero : ∀ ms : List Mv, press ms vz = one
  | [] => rfl
  | b :: ms => by
    show mul (pow b 0) (press ms vz) = one
    rw [press_zero ms, pow_zero, one_mul]

/-! ### rows of moves -/
def tl (v : Vc) : Vc := fun j => v (j + 2)
def row (o : Nat) (b : Mv) : Vc := fun i => if i = 0 then b.x else if i = 1 then b.y else if i = o + 2 then 1 else 0
def rowsFrom (o : Nat) : List Mv → List Vc
  | [] => []
  | b :: ms => row o b :: rowsFrom (o + 1) ms
def LinV (ms : List Mv) (v : Vc) : Prop := v 0 = smx ms (tl v) ∧ v 1 = smy ms (tl v) ∧ ∀ j, ms.length ≤ j → v (j + 2) = 0
theorem tl_va (v w : Vc) (c : Int) : tl (va v w c) = va (tl v) (tl w) c := rfl
theorem smx_vz : ∀ ms, smx ms vz = 0
  | [] => rfl
  | b :: ms => by
    have := smx_vz ms
    show 0 * b.x + smx ms vz = 0
    rw [this]; simp
theorem smy_vz : ∀ ms, smy ms vz = 0
  | [] => rfl
  | b :: ms => by
    have := smy_vz ms
    show 0 * b.y + smy ms vz = 0
    rw [this]; simp
theorem LinV.md (ms : List Mv) : Md (LinV ms) := by
  refine ⟨⟨(smx_vz ms).symm, (smy_vz ms).symm, fun _ _ => rfl⟩, ?_⟩
  rintro v w c ⟨a1, a2, a3⟩ ⟨b1, b2, b3⟩
  refine ⟨?_, ?_, fun j hj => ?_⟩
  · rw [tl_va, smx_va, ← a1, ← b1]; rfl
  · rw [tl_va, smy_va, ← a2, ← b2]; rfl
  · show v (j + 2) + c * w (j + 2) = 0
    rw [a3 j hj, b3 j hj]; simp
def dl (j : Nat) : Vc := fun i => if i = j then 1 else 0
theorem dl_succ (j : Nat) : (fun i => dl (j + 1) (i + 1)) = dl j := by funext i; simp [dl]
theorem dl_zero : (fun i => dl 0 (i + 1)) = vz := by funext i; simp [dl, vz]
theorem smx_dl : ∀ (ms : List Mv) (j : Nat) (b : Mv), ms[j]? = some b → smx ms (dl j) = b.x
  | [], j, b, h => by simp at h
  | c :: ms, 0, b, h => by
    simp at h; subst h
    simp only [smx, dl_zero, smx_vz]
    simp [dl]
  | c :: ms, j + 1, b, h => by
    have := smx_dl ms j b (by simpa using h)
    simp only [smx, dl_succ, this]
    simp [dl]
theorem smy_dl : ∀ (ms : List Mv) (j : Nat) (b : Mv), ms[j]? = some b → smy ms (dl j) = b.y
  | [], j, b, h => by simp at h
  | c :: ms, 0, b, h => by
    simp at h; subst h
    simp only [smy, dl_zero, smy_vz]
    simp [dl]
  | c :: ms, j + 1, b, h => by
    have := smy_dl ms j b (by simpa using h)
    simp only [smy, dl_succ, this]
    simp [dl]
theorem press_dl : ∀ (ms : List Mv) (j : Nat) (b : Mv), ms[j]? = some b → press ms (dl j) = b
  | [], j, b, h => by simp at h
  | c :: ms, 0, b, h => by
    simp at h; subst h
    simp only [press, dl_zero, press_zero]
    rw [mul_one]
    simp [dl, pow_one]
  | c :: ms, j + 1, b, h => by
    have := press_dl ms j b (by simpa using h)
    simp only [press, dl_succ, this]
    have e : dl (j + 1) 0 = 0 := by simp [dl]
    rw [e, pow_zero, one_mul]
theorem rows_mem {ms : List Mv} : ∀ {o : Nat} {r : Vc}, r ∈ rowsFrom o ms → ∃ j b, ms[j]? = some b ∧ r = row (o + j) b := by
  induction ms with
  | nil => intro o r h; cases h
  | cons c ms ih =>
    intro o r h
    rcases List.mem_cons.mp h with rfl | h
    · exact ⟨0, c, rfl, rfl⟩
    · obtain ⟨j, b, e, rfl⟩ := ih h
      exact ⟨j + 1, b, by simpa using e, by rw [show o + 1 + j = o + (j + 1) by omega]⟩
theorem row_lin {ms : List Mv} {r : Vc} (h : r ∈ rowsFrom 0 ms) : LinV ms r := by
  obtain ⟨j, b, e, rfl⟩ := rows_mem h
  have hl := (List.getElem?_eq_some_iff.mp e).1
  have et : tl (row (0 + j) b) = dl j := by
    funext i
    simp only [tl, row, dl]
    by_cases h : i = j <;> simp [h]
  refine ⟨?_, ?_, fun k hk => ?_⟩
  · rw [et, smx_dl ms j b e]; rfl
  · rw [et, smy_dl ms j b e]; rfl
  · show (if k + 2 = 0 then _ else if k + 2 = 1 then _ else if k + 2 = 0 + j + 2 then 1 else 0) = 0
    rw [if_neg (by omega), if_neg (by omega), if_neg (by omega)]
theorem lin_sp : ∀ (ms : List Mv) (o : Nat) (v : Vc), v 0 = smx ms (fun j => v (j + o + 2)) → v 1 = smy ms (fun j => v (j + o + 2)) → (∀ j, (j < o ∨ o + ms.length ≤ j) → v (j + 2) = 0) → Sp (rowsFrom o ms) v
  | [], o, v, h0, h1, h2 => by
    have : v = vz := by
      funext i
      match i with
      | 0 => exact h0
      | 1 => exact h1
      | i + 2 => exact h2 i (by simp; omega)
    rw [this]
    exact (Sp.md _).z
  | b :: ms, o, v, h0, h1, h2 => by
    have hr : ∀ j, j ≠ o → row o b (j + 2) = 0 := fun j hj => by
      show (if j + 2 = 0 then _ else if j + 2 = 1 then _ else if j + 2 = o + 2 then 1 else 0) = 0
      rw [if_neg (by omega), if_neg (by omega), if_neg (by omega)]
    have ho : row o b (o + 2) = 1 := by
      show (if o + 2 = 0 then _ else if o + 2 = 1 then _ else if o + 2 = o + 2 then 1 else 0) = (1 : Int)
      rw [if_neg (by omega), if_neg (by omega), if_pos rfl]
    have es : (fun j => va v (row o b) (-v (o + 2)) (j + (o + 1) + 2)) = fun j => v (j + 1 + o + 2) := by
      funext j
      have := hr (j + (o + 1)) (by omega)
      show v (j + (o + 1) + 2) + _ * row o b (j + (o + 1) + 2) = _
      rw [this, show j + (o + 1) + 2 = j + 1 + o + 2 by omega]
      simp
    have h0' : v 0 = v (o + 2) * b.x + smx ms fun j => v (j + 1 + o + 2) := by
      have := h0
      simp only [smx, Nat.zero_add] at this
      exact this
    have h1' : v 1 = v (o + 2) * b.y + smy ms fun j => v (j + 1 + o + 2) := by
      have := h1
      simp only [smy, Nat.zero_add] at this
      exact this
    have ih := lin_sp ms (o + 1) (va v (row o b) (-v (o + 2))) (by
        rw [es]
        show v 0 + _ * b.x = _
        rw [h0']; grind) (by
        rw [es]
        show v 1 + _ * b.y = _
        rw [h1']; grind) (fun j hj => by
        show v (j + 2) + _ * row o b (j + 2) = 0
        by_cases e : j = o
        · subst e
          rw [ho]; omega
        · rw [hr j e, h2 j (by simp; omega)]; simp)
    have e2 : v = va (va v (row o b) (-v (o + 2))) (row o b) (v (o + 2)) := by funext i; simp only [va]; grind
    rw [e2]
    exact (Sp.md _).a _ _ _ (ih.mono fun r hr => Sp.of (List.mem_cons_of_mem _ hr)) (Sp.of (List.mem_cons_self ..))
theorem lin_iff {ms : List Mv} {v : Vc} : LinV ms v ↔ Sp (rowsFrom 0 ms) v :=
  ⟨fun h => lin_sp ms 0 v h.1 h.2.1 fun j hj => h.2.2 j (by simp at hj; exact hj), fun h => Sp.le (LinV.md ms) (fun _ => row_lin) h⟩

/-! ### what presses make, up to a step -/
def SS (ms : List Mv) (g : Int) (m : Mv) : Prop := ∃ sh : Vc, smx ms sh = m.x ∧ smy ms sh = m.y ∧ g ∣ m.s - (press ms sh).s ∧ ∀ j, ms.length ≤ j → sh j = 0
def GapOk (ms : List Mv) (g : Int) : Prop := ∀ b ∈ ms, ∀ c ∈ ms, g ∣ gap b c
theorem SS.grp {ms : List Mv} {g : Int} (hg : GapOk ms g) : Grp (SS ms g) := by
  have hm : ∀ a b, SS ms g a → SS ms g b → SS ms g (mul a b) := by
    rintro a b ⟨v, v1, v2, ⟨p, hp⟩, v4⟩ ⟨w, w1, w2, ⟨q, hq⟩, w4⟩
    obtain ⟨r, hr⟩ := press_add hg v w
    refine ⟨va v w 1, ?_, ?_, ⟨p + q - r, ?_⟩, fun j hj => ?_⟩
    · rw [smx_va, v1, w1]; simp [mul]
    · rw [smy_va, v2, w2]; simp [mul]
    · simp only [mul]
      rw [v1, w2] at hr
      grind
    · show v j + 1 * w j = 0
      rw [v4 j hj, w4 j hj]; rfl
  refine ⟨⟨vz, smx_vz ms, smy_vz ms, by rw [press_zero]; exact ⟨0, by simp [one]⟩, fun _ _ => rfl⟩, hm, ?_⟩
  rintro a ⟨v, v1, v2, ⟨p, hp⟩, v4⟩
  have e : va v (va vz v (-1)) 1 = vz := by funext i; simp [va, vz]; omega
  obtain ⟨r, hr⟩ := press_add hg v (va vz v (-1))
  rw [e, press_zero, v1, smy_va, smy_vz, v2] at hr
  refine ⟨va vz v (-1), ?_, ?_, ⟨r - p, ?_⟩, fun j hj => ?_⟩
  · rw [smx_va, smx_vz, v1]; simp [inv]
  · rw [smy_va, smy_vz, v2]; simp [inv]
  · simp only [inv, one] at hr ⊢
    grind
  · show 0 + -1 * v j = 0
    rw [v4 j hj]; rfl
theorem SS.of {ms : List Mv} {g : Int} {b : Mv} (h : b ∈ ms) : SS ms g b := by
  obtain ⟨j, hj⟩ := List.mem_iff_getElem?.mp h
  have hl := (List.getElem?_eq_some_iff.mp hj).1
  refine ⟨dl j, smx_dl ms j b hj, smy_dl ms j b hj, by rw [press_dl ms j b hj]; exact ⟨0, by simp⟩, fun i hi => ?_⟩
  simp only [dl]
  rw [if_neg (by omega)]
theorem SS.press {ms : List Mv} {g : Int} {sh : Vc} (h : ∀ j, ms.length ≤ j → sh j = 0) : SS ms g (FM.press ms sh) := ⟨sh, (press_x ms sh).symm, (press_y ms sh).symm, ⟨0, by simp⟩, h⟩
theorem SS.shift {ms : List Mv} {g : Int} {m m' : Mv} (h : SS ms g m) (hx : m'.x = m.x) (hy : m'.y = m.y) (hs : g ∣ m'.s - m.s) : SS ms g m' := by
  obtain ⟨sh, h1, h2, ⟨p, hp⟩, h4⟩ := h
  obtain ⟨q, hq⟩ := hs
  exact ⟨sh, h1.trans hx.symm, h2.trans hy.symm, ⟨p + q, by grind⟩, h4⟩
theorem SS.gen {ms : List Mv} {g : Int} {m : Mv} (hg : Gen ms ⟨0, 0, g⟩) (h : SS ms g m) : Gen ms m := by
  obtain ⟨sh, h1, h2, ⟨p, hp⟩, h4⟩ := h
  have G := Gen.grp ms
  have e : m = mul (FM.press ms sh) (FM.pow ⟨0, 0, g⟩ p) := by
    ext
    · simp [mul, FM.pow, press_x, h1]
    · simp [mul, FM.pow, press_y, h2]
    · simp only [mul, FM.pow]; grind
  rw [e]
  exact G.m _ _ (press_gen ms sh) (G.pow hg p)
theorem gen_iff {ms : List Mv} {g : Int} {m : Mv} (hk : GapOk ms g) (hg : Gen ms ⟨0, 0, g⟩) : Gen ms m ↔ SS ms g m := ⟨fun h => Gen.le (SS.grp hk) (fun _ hb => SS.of hb) h, SS.gen hg⟩

/-! ### forms -/
/-- what a shape is: rows of the east and of the north, if any, the rests; with the rows of the moves they make the same -/
structure Shp (ms : List Mv) (E N : Option Vc) (rs : List Vc) : Prop where
  sp : SpEq (E.toList ++ (N.toList ++ rs)) (rowsFrom 0 ms)
  e0 : ∀ e, E = some e → 0 < e 0
  n0 : ∀ n, N = some n → n 0 = 0 ∧ 0 < n 1
  r0 : ∀ r ∈ rs, r 0 = 0 ∧ r 1 = 0
theorem md_of {P : Vc → Prop} (z : P vz) (a : ∀ v w, P v → P w → P (va v w 1)) (b : ∀ v w, P v → P w → P (va v w (-1))) : Md P := by
  refine ⟨z, fun v w c hv hw => ?_⟩
  have up : ∀ n : Nat, P (va v w n) := by
    intro n
    induction n with
    | zero =>
      have : va v w ((0 : Nat) : Int) = v := by funext i; simp [va]
      rw [this]; exact hv
    | succ n ih =>
      have : va v w ((n + 1 : Nat) : Int) = va (va v w n) w 1 := by funext i; simp only [va]; grind
      rw [this]; exact a _ _ ih hw
  have dn : ∀ n : Nat, P (va v w (-(n : Int))) := by
    intro n
    induction n with
    | zero =>
      have : va v w (-((0 : Nat) : Int)) = v := by funext i; simp [va]
      rw [this]; exact hv
    | succ n ih =>
      have : va v w (-((n + 1 : Nat) : Int)) = va (va v w (-(n : Int))) w (-1) := by funext i; simp only [va]; grind
      rw [this]; exact b _ _ ih hw
  rcases Int.le_total 0 c with h | h
  · obtain ⟨k, rfl⟩ := Int.eq_ofNat_of_zero_le h
    exact up k
  · obtain ⟨k, hk⟩ := Int.eq_ofNat_of_zero_le (show 0 ≤ -c by omega)
    have : c = -(k : Int) := by omega
    rw [this]; exact dn k
theorem sp_opt {E : Option Vc} {R : List Vc} {v : Vc} (h : Sp (E.toList ++ R) v) : ∃ a w, Sp R w ∧ v = va w (E.getD vz) a := by
  cases E with
  | none => exact ⟨0, v, h, by funext i; simp [va]⟩
  | some e => exact Sp.cons h
/-- presses that come to no steps come to multiples of the step -/
theorem Shp.ker {ms : List Mv} {E N : Option Vc} {rs : List Vc} {g : Int} (S : Shp ms E N rs) (hk : GapOk ms g) (hr : ∀ r ∈ rs, g ∣ (FM.press ms (tl r)).s) {m : Mv} (h : SS ms g m) (hx : m.x = 0) (hy : m.y = 0) : g ∣ m.s := by
  obtain ⟨sh, h1, h2, h3, h4⟩ := h
  let v : Vc := fun i => match i with
    | 0 => 0
    | 1 => 0
    | i + 2 => sh i
  have etl : tl v = sh := rfl
  have lv : LinV ms v := ⟨by rw [etl, h1, hx], by rw [etl, h2, hy], h4⟩
  have sv := S.sp.sp.mpr (lin_iff.mp lv)
  obtain ⟨a, w, sw, ev⟩ := sp_opt sv
  obtain ⟨b, u, su, ew⟩ := sp_opt sw
  have mdr : Md fun q : Vc => q 0 = 0 ∧ q 1 = 0 := ⟨⟨rfl, rfl⟩, fun p q c hp hq => ⟨by simp [va, hp.1, hq.1], by simp [va, hp.2, hq.2]⟩⟩
  have u0 := Sp.le mdr S.r0 su
  have n00 : (N.getD vz) 0 = 0 := by
    cases N with
    | none => rfl
    | some n => exact (S.n0 n rfl).1
  have v0 : a * (E.getD vz) 0 = 0 := by
    have := congrFun ev 0
    have e0 : v 0 = 0 := rfl
    rw [e0, ew] at this
    simp only [va, u0.1, n00] at this
    omega
  have aE : va w (E.getD vz) a = w := by
    cases E with
    | none => funext i; simp [va, vz]
    | some e =>
      have := S.e0 e rfl
      have : a = 0 := by
        rcases Int.mul_eq_zero.mp v0 with q | q
        · exact q
        · simp at q; omega
      subst this
      funext i; simp [va]
  rw [aE] at ev
  have v1 : b * (N.getD vz) 1 = 0 := by
    have := congrFun ev 1
    have e0 : v 1 = 0 := rfl
    rw [e0, ew] at this
    simp only [va, u0.2] at this
    omega
  have bN : va u (N.getD vz) b = u := by
    cases N with
    | none => funext i; simp [va, vz]
    | some n =>
      have := (S.n0 n rfl).2
      have : b = 0 := by
        rcases Int.mul_eq_zero.mp v1 with q | q
        · exact q
        · simp at q; omega
      subst this
      funext i; simp [va]
  rw [bN] at ew
  rw [ew] at ev
  have mdp : Md fun q : Vc => LinV ms q ∧ (q 0 = 0 ∧ q 1 = 0) ∧ g ∣ (FM.press ms (tl q)).s := by
    have key : ∀ p q : Vc, LinV ms p → LinV ms q → p 0 = 0 → q 1 = 0 → g ∣ (FM.press ms (tl (va p q 1))).s - ((FM.press ms (tl p)).s + (FM.press ms (tl q)).s) := by
      intro p q lp lq p0 q1
      have := press_add hk (tl p) (tl q)
      rw [← lp.1, p0, ← lq.2.1, q1, Int.mul_zero, Int.add_zero] at this
      exact this
    refine md_of ⟨(LinV.md ms).z, ⟨rfl, rfl⟩, ?_⟩ ?_ ?_
    · have : tl vz = vz := rfl
      rw [this, press_zero]; exact ⟨0, by simp [one]⟩
    · rintro p q ⟨lp, ⟨p0, p1⟩, ⟨x, hx⟩⟩ ⟨lq, ⟨q0, q1⟩, ⟨y, hy⟩⟩
      obtain ⟨z, hz⟩ := key p q lp lq p0 q1
      exact ⟨(LinV.md ms).a _ _ _ lp lq, ⟨by simp [va, p0, q0], by simp [va, p1, q1]⟩, ⟨x + y + z, by grind⟩⟩
    · rintro p q ⟨lp, ⟨p0, p1⟩, ⟨x, hx⟩⟩ ⟨lq, ⟨q0, q1⟩, ⟨y, hy⟩⟩
      have lr := (LinV.md ms).a p q (-1) lp lq
      obtain ⟨z, hz⟩ := key (va p q (-1)) q lr lq (by simp [va, p0, q0]) q1
      have e : va (va p q (-1)) q 1 = p := by funext i; simp only [va]; grind
      rw [e] at hz
      exact ⟨lr, ⟨by simp [va, p0, q0], by simp [va, p1, q1]⟩, ⟨x - y - z, by grind⟩⟩
  have fin := Sp.le mdp (fun r hr' => ⟨lin_iff.mpr (S.sp.sp.mp (Sp.of (List.mem_append_right _ (List.mem_append_right _ hr')))), S.r0 r hr', hr r hr'⟩) su
  rw [← ev, etl] at fin
  obtain ⟨p, hp⟩ := fin.2.2
  obtain ⟨q, hq⟩ := h3
  exact ⟨p + q, by grind⟩
/-- two made moves of the same steps: their areas differ by the step -/
theorem Shp.same {ms : List Mv} {E N : Option Vc} {rs : List Vc} {g : Int} (S : Shp ms E N rs) (hk : GapOk ms g) (hr : ∀ r ∈ rs, g ∣ (FM.press ms (tl r)).s) {m m' : Mv} (h : SS ms g m) (h' : SS ms g m') (hx : m.x = m'.x) (hy : m.y = m'.y) : g ∣ m.s - m'.s := by
  have G := SS.grp hk
  have q := S.ker hk hr (G.m _ _ h (G.i _ h')) (by simp [mul, inv, hx]; omega) (by simp [mul, inv, hy]; omega)
  have e : (mul m (inv m')).s = m.s - m'.s := by simp only [mul, inv]; rw [hx]; grind
  rw [e] at q
  exact q
/-- the move of a row, its area made less by a multiple of the step -/
def Bnd (ms : List Mv) (g : Int) (E : Option Vc) (e : Option Mv) : Prop := match E, e with
  | none, none => True
  | some v, some m => m.x = v 0 ∧ m.y = v 1 ∧ g ∣ m.s - (FM.press ms (tl v)).s
  | _, _ => False
theorem Bnd.ss {ms : List Mv} {E N : Option Vc} {rs : List Vc} {g : Int} {v : Vc} {m : Mv} (lv : LinV ms v) (h : Bnd ms g (some v) (some m)) : SS ms g m := by
  obtain ⟨h1, h2, h3⟩ := h
  exact ⟨tl v, by rw [← lv.1, h1], by rw [← lv.2.1, h2], h3, lv.2.2⟩
def led (e n : Option Mv) (a b : Int) : Mv := mul (FM.pow (e.getD one) a) (FM.pow (n.getD one) b)
theorem Shp.told {ms : List Mv} {E N : Option Vc} {rs : List Vc} {g : Int} {e n : Option Mv} (S : Shp ms E N rs) (hk : GapOk ms g) (hr : ∀ r ∈ rs, g ∣ (FM.press ms (tl r)).s) (he : Bnd ms g E e) (hn : Bnd ms g N n) (m : Mv) :
    SS ms g m ↔ ∃ a b, m.x = (led e n a b).x ∧ m.y = (led e n a b).y ∧ g ∣ m.s - (led e n a b).s := by
  have G := SS.grp hk
  have lin : ∀ v, v ∈ E.toList ++ (N.toList ++ rs) → LinV ms v := fun v hv => lin_iff.mpr (S.sp.sp.mp (Sp.of hv))
  have se : SS ms g (e.getD one) := by
    cases e with
    | none => exact G.o
    | some m =>
      cases E with
      | none => exact he.elim
      | some v => exact Bnd.ss (E := none) (N := none) (rs := []) (lin v (by simp)) he
  have sn : SS ms g (n.getD one) := by
    cases n with
    | none => exact G.o
    | some m =>
      cases N with
      | none => exact hn.elim
      | some v => exact Bnd.ss (E := none) (N := none) (rs := []) (lin v (by simp)) hn
  have sl : ∀ a b, SS ms g (led e n a b) := fun a b => G.m _ _ (G.pow se a) (G.pow sn b)
  constructor
  · intro h
    obtain ⟨sh, h1, h2, h3, h4⟩ := id h
    let v : Vc := fun i => match i with
      | 0 => m.x
      | 1 => m.y
      | i + 2 => sh i
    have lv : LinV ms v := ⟨h1.symm, h2.symm, h4⟩
    have sv := S.sp.sp.mpr (lin_iff.mp lv)
    obtain ⟨a, w, sw, ev⟩ := sp_opt sv
    obtain ⟨b, u, su, ew⟩ := sp_opt sw
    have mdr : Md fun q : Vc => q 0 = 0 ∧ q 1 = 0 := ⟨⟨rfl, rfl⟩, fun p q c hp hq => ⟨by simp [va, hp.1, hq.1], by simp [va, hp.2, hq.2]⟩⟩
    have u0 := Sp.le mdr S.r0 su
    have ex : (e.getD one).x = (E.getD vz) 0 ∧ (e.getD one).y = (E.getD vz) 1 := by
      cases e with
      | none =>
        cases E with
        | none => exact ⟨rfl, rfl⟩
        | some v => exact he.elim
      | some m =>
        cases E with
        | none => exact he.elim
        | some v => exact ⟨he.1, he.2.1⟩
    have nx : (n.getD one).x = (N.getD vz) 0 ∧ (n.getD one).y = (N.getD vz) 1 := by
      cases n with
      | none =>
        cases N with
        | none => exact ⟨rfl, rfl⟩
        | some v => exact hn.elim
      | some m =>
        cases N with
        | none => exact hn.elim
        | some v => exact ⟨hn.1, hn.2.1⟩
    have x1 : m.x = (led e n a b).x := by
      have := congrFun ev 0
      rw [ew] at this
      simp only [va, u0.1] at this
      simp only [led, mul, FM.pow, ex.1, nx.1]
      show v 0 = _
      rw [this]; omega
    have y1 : m.y = (led e n a b).y := by
      have := congrFun ev 1
      rw [ew] at this
      simp only [va, u0.2] at this
      simp only [led, mul, FM.pow, ex.2, nx.2]
      show v 1 = _
      rw [this]; omega
    exact ⟨a, b, x1, y1, S.same hk hr h (sl a b) x1 y1⟩
  · rintro ⟨a, b, hx, hy, hs⟩
    exact (sl a b).shift hx hy hs

/-! ### Euclid -/
/-- one turn of Euclid's loop, of any signs: b is not 0 -/
theorem eu_pos {a b : Int} (hb : 0 < b) : (a + -(a.fdiv b) * b).natAbs < b.natAbs ∧ 0 ≤ (a + -(a.fdiv b) * b) * b ∧ (a.fdiv b).natAbs * b.natAbs ≤ a.natAbs + (a + -(a.fdiv b) * b).natAbs ∧ (0 ≤ a * b → (a.fdiv b).natAbs * b.natAbs + (a + -(a.fdiv b) * b).natAbs = a.natAbs) := by
  rw [Int.fdiv_eq_ediv_of_nonneg _ (by omega)]
  have h1 := Int.emod_nonneg a (show b ≠ 0 by omega)
  have h2 := Int.emod_lt_of_pos a hb
  have h3 := Int.mul_ediv_add_emod a b
  have e : a + -(a / b) * b = a % b := by grind
  rw [e]
  have m : (a / b).natAbs * b.natAbs = (a / b * b).natAbs := (Int.natAbs_mul _ _).symm
  rw [m]
  have e2 : a / b * b = a - a % b := by grind
  rw [e2]
  refine ⟨by omega, Int.mul_nonneg h1 (by omega), by omega, fun h => ?_⟩
  have ha : 0 ≤ a := by
    rcases Int.lt_or_le a 0 with q | q
    · have := Int.mul_neg_of_neg_of_pos q hb
      omega
    · exact q
  have hle : 0 ≤ a / b * b := Int.mul_nonneg (Int.ediv_nonneg ha (by omega)) (by omega)
  omega
theorem eu {a b : Int} (hb : b ≠ 0) : (a + -(a.fdiv b) * b).natAbs < b.natAbs ∧ 0 ≤ (a + -(a.fdiv b) * b) * b ∧ (a.fdiv b).natAbs * b.natAbs ≤ a.natAbs + (a + -(a.fdiv b) * b).natAbs ∧ (0 ≤ a * b → (a.fdiv b).natAbs * b.natAbs + (a + -(a.fdiv b) * b).natAbs = a.natAbs) := by
  rcases Int.lt_or_gt_of_ne hb with h | h
  · have q := eu_pos (a := -a) (b := -b) (by omega)
    rw [Int.neg_fdiv_neg] at q
    have e : -a + -(a.fdiv b) * -b = -(a + -(a.fdiv b) * b) := by grind
    rw [e, Int.natAbs_neg, Int.natAbs_neg, Int.natAbs_neg, Int.neg_mul_neg, Int.neg_mul_neg] at q
    exact q
  · exact eu_pos h
/-- sizes through the loop: f, s: the numbers at hand, mf, ms: how great the rows may be -/
structure Eu (W A : Nat) (f s : Int) (mf ms : Nat) : Prop where
  ff : f ≠ 0
  fa : f.natAbs ≤ A
  sa : s.natAbs ≤ A
  sg : 0 ≤ f * s ∨ mf * s.natAbs + ms * f.natAbs + 2 * (ms * s.natAbs) ≤ W
  w : mf * s.natAbs + ms * f.natAbs ≤ W
  mf : mf ≤ W
theorem Eu.step {W A : Nat} {f s : Int} {mf ms : Nat} (h : Eu W A f s mf ms) (hs : s ≠ 0) : Eu W A s (f + -(f.fdiv s) * s) ms (mf + (f.fdiv s).natAbs * ms) ∧ (f + -(f.fdiv s) * s).natAbs < s.natAbs ∧ (f.fdiv s).natAbs ≤ 2 * A := by
  obtain ⟨e1, e2, e3, e4⟩ := eu (a := f) hs
  have hf := h.ff
  have hfa := h.fa
  have hsa := h.sa
  have hw := h.w
  have hsg := h.sg
  generalize f + -(f.fdiv s) * s = r at *
  generalize (f.fdiv s).natAbs = q at *
  have s1 : 1 ≤ s.natAbs := by omega
  have f1 : 1 ≤ f.natAbs := by omega
  have hq : q ≤ 2 * A := by
    have : q * 1 ≤ q * s.natAbs := Nat.mul_le_mul_left q s1
    omega
  have mq : (mf + q * ms) * s.natAbs = mf * s.natAbs + ms * (q * s.natAbs) := by grind
  refine ⟨⟨hs, hsa, by omega, .inl (by rw [Int.mul_comm]; exact e2), ?_, ?_⟩, e1, hq⟩
  · rw [mq]
    rcases hsg with g | g
    · have := e4 g
      have e : ms * r.natAbs + (mf * s.natAbs + ms * (q * s.natAbs)) = mf * s.natAbs + ms * (q * s.natAbs + r.natAbs) := by grind
      rw [e, this]; exact hw
    · have h1 : ms * (q * s.natAbs) ≤ ms * (f.natAbs + r.natAbs) := Nat.mul_le_mul_left ms e3
      have h2 : ms * r.natAbs ≤ ms * s.natAbs := Nat.mul_le_mul_left ms (by omega)
      have h3 : ms * (f.natAbs + r.natAbs) = ms * f.natAbs + ms * r.natAbs := Nat.mul_add ..
      omega
  · have : ms * 1 ≤ ms * f.natAbs := Nat.mul_le_mul_left ms f1
    omega
theorem Eu.start {A m : Nat} {f s : Int} (hf : f ≠ 0) (hA : f.natAbs ≤ A) (hB : s.natAbs ≤ A) (ha : 1 ≤ A) : Eu (4 * (m * A)) A f s m m := by
  have h1 : m * s.natAbs ≤ m * A := Nat.mul_le_mul_left m hB
  have h2 : m * f.natAbs ≤ m * A := Nat.mul_le_mul_left m hA
  have h3 : m * 1 ≤ m * A := Nat.mul_le_mul_left m ha
  exact ⟨hf, hA, hB, .inr (by omega), by omega, by omega⟩
/-- behind the loop -/
theorem Eu.ms {W A : Nat} {f s : Int} {mf ms : Nat} (h : Eu W A f s mf ms) : ms ≤ W := by
  have f1 : 1 ≤ f.natAbs := by have := h.ff; omega
  have := h.w
  have h3 : ms * 1 ≤ ms * f.natAbs := Nat.mul_le_mul_left ms f1
  omega
/-! ### forms are told apart by what they tell -/
structure Canon (S : Mv → Prop) (e n : Option Mv) (g : Nat) : Prop where
  gen : ∀ m, S m ↔ ∃ a b, m.x = (led e n a b).x ∧ m.y = (led e n a b).y ∧ (g : Int) ∣ m.s - (led e n a b).s
  eo : ∀ m, e = some m → 0 < m.x ∧ (g ≠ 0 → 0 ≤ m.s ∧ m.s < g)
  no : ∀ m, n = some m → m.x = 0 ∧ 0 < m.y ∧ (g ≠ 0 → 0 ≤ m.s ∧ m.s < g)
  eno : ∀ m k, e = some m → n = some k → 0 ≤ m.y ∧ m.y < k.y
theorem led_x {e n : Option Mv} {a b : Int} : (led e n a b).x = a * (e.getD one).x + b * (n.getD one).x := rfl
theorem led_y {e n : Option Mv} {a b : Int} : (led e n a b).y = a * (e.getD one).y + b * (n.getD one).y := rfl
theorem Canon.n0 {S : Mv → Prop} {e n : Option Mv} {g : Nat} (h : Canon S e n g) : (n.getD one).x = 0 := by
  cases n with
  | none => rfl
  | some k => exact (h.no k rfl).1
theorem led_a0 {e n : Option Mv} {b : Int} : led e n 0 b = pow (n.getD one) b := by
  unfold led; rw [pow_zero, one_mul]
theorem led_10 {e n : Option Mv} : led e n 1 0 = e.getD one := by
  unfold led; rw [pow_one, pow_zero, mul_one]
theorem led_01 {e n : Option Mv} : led e n 0 1 = n.getD one := by
  rw [led_a0, pow_one]
theorem pow_one_ (b : Int) : pow one b = one := by
  refine Mv.ext' ?_ ?_ ?_ <;> simp [pow, one]
theorem Canon.led_in {S : Mv → Prop} {e n : Option Mv} {g : Nat} (h : Canon S e n g) (a b : Int) : S (led e n a b) := (h.gen _).mpr ⟨a, b, rfl, rfl, ⟨0, by simp⟩⟩
/-- moves without steps east -/
theorem Canon.x0 {S : Mv → Prop} {e n : Option Mv} {g : Nat} (h : Canon S e n g) {m : Mv} (hm : S m) (hx : m.x = 0) : ∃ b, m.y = b * (n.getD one).y ∧ (g : Int) ∣ m.s - (pow (n.getD one) b).s := by
  obtain ⟨a, b, h1, h2, h3⟩ := (h.gen m).mp hm
  rw [led_x, h.n0, hx] at h1
  have a0 : led e n a b = led e n 0 b := by
    cases e with
    | none =>
      unfold led
      show mul (pow one a) _ = mul (pow one 0) _
      rw [pow_one_, pow_one_]
    | some k =>
      have k0 := (h.eo k rfl).1
      have : a * k.x = 0 := by simpa using h1.symm
      rcases Int.mul_eq_zero.mp this with q | q
      · rw [q]
      · omega
  rw [a0] at h2 h3
  rw [led_a0] at h2 h3
  exact ⟨b, h2, h3⟩
theorem Canon.z {S : Mv → Prop} {e n : Option Mv} {g : Nat} (h : Canon S e n g) (s : Int) : S ⟨0, 0, s⟩ ↔ (g : Int) ∣ s := by
  constructor
  · intro hm
    obtain ⟨b, h2, h3⟩ := h.x0 hm rfl
    have : pow (n.getD one) b = one := by
      cases n with
      | none => exact pow_one_ b
      | some k =>
        have k0 := (h.no k rfl).2.1
        have : b * k.y = 0 := h2.symm
        rcases Int.mul_eq_zero.mp this with q | q
        · rw [q, pow_zero]
        · omega
    rw [this] at h3
    simpa [one] using h3
  · intro hs
    exact (h.gen _).mpr ⟨0, 0, by rw [led_a0, pow_zero]; rfl, by rw [led_a0, pow_zero]; rfl, by rw [led_a0, pow_zero]; simpa [one] using hs⟩
theorem red_eq {g : Nat} {s t : Int} (hd : (g : Int) ∣ s - t) (hs : g ≠ 0 → 0 ≤ s ∧ s < g) (ht : g ≠ 0 → 0 ≤ t ∧ t < g) : s = t := by
  obtain ⟨k, hk⟩ := hd
  by_cases h : g = 0
  · subst h; simp at hk; omega
  · obtain ⟨s0, s1⟩ := hs h
    obtain ⟨t0, t1⟩ := ht h
    have hk0 : k = 0 := by
      rcases Int.lt_trichotomy k 0 with q | q | q
      · have : (g : Int) * k ≤ (g : Int) * (-1) := Int.mul_le_mul_of_nonneg_left (by omega) (by omega)
        omega
      · exact q
      · have : (g : Int) * 1 ≤ (g : Int) * k := Int.mul_le_mul_of_nonneg_left (by omega) (by omega)
        omega
    subst hk0
    omega
theorem dvd_pos_eq {x y a b : Int} (hx : 0 < x) (hy : 0 < y) (h : x = a * y) (h' : y = b * x) : a = 1 := by
  have ha : 0 < a := by
    rcases Int.lt_or_le 0 a with q | q
    · exact q
    · have := Int.mul_nonpos_of_nonpos_of_nonneg q (Int.le_of_lt hy)
      omega
  have hb : 0 < b := by
    rcases Int.lt_or_le 0 b with q | q
    · exact q
    · have := Int.mul_nonpos_of_nonpos_of_nonneg q (Int.le_of_lt hx)
      omega
  have h1 : 1 * y ≤ a * y := Int.mul_le_mul_of_nonneg_right (by omega) (by omega)
  have h2 : 1 * x ≤ b * x := Int.mul_le_mul_of_nonneg_right (by omega) (by omega)
  have : x = y := by omega
  rw [this] at h
  have h3 : (a - 1) * y = 0 := by grind
  rcases Int.mul_eq_zero.mp h3 with q | q
  · omega
  · omega
theorem Canon.g_eq {S : Mv → Prop} {e n e' n' : Option Mv} {g g' : Nat} (h : Canon S e n g) (h' : Canon S e' n' g') : g = g' := by
  have h1 := (h'.z g).mp ((h.z g).mpr ⟨1, by simp⟩)
  have h2 := (h.z g').mp ((h'.z g').mpr ⟨1, by simp⟩)
  exact Nat.dvd_antisymm (Int.natCast_dvd_natCast.mp h2) (Int.natCast_dvd_natCast.mp h1)
theorem Canon.n_some {S : Mv → Prop} {e n e' n' : Option Mv} {g g' : Nat} (h : Canon S e n g) (h' : Canon S e' n' g') {k : Mv} (hk : n = some k) : ∃ k' b, n' = some k' ∧ k.y = b * k'.y ∧ (g' : Int) ∣ k.s - (pow k' b).s := by
  subst hk
  have sk : S k := by have := h.led_in 0 1; rw [led_01] at this; exact this
  have k0 := h.no k rfl
  obtain ⟨b, h1, h2⟩ := h'.x0 sk k0.1
  cases n' with
  | none => simp [one] at h1; omega
  | some k' => exact ⟨k', b, rfl, h1, h2⟩
theorem Canon.n_eq {S : Mv → Prop} {e n e' n' : Option Mv} {g g' : Nat} (h : Canon S e n g) (h' : Canon S e' n' g') : n = n' := by
  have eg := h.g_eq h'
  subst eg
  cases n with
  | none =>
    cases n' with
    | none => rfl
    | some k' =>
      obtain ⟨k, _, e, _⟩ := h'.n_some h rfl
      cases e
  | some k =>
    obtain ⟨k', b, e1, y1, s1⟩ := h.n_some h' rfl
    subst e1
    obtain ⟨k2, b2, e2, y2, s2⟩ := h'.n_some h rfl
    cases e2
    have p := h.no k rfl
    have p' := h'.no k' rfl
    have b1 := dvd_pos_eq p.2.1 p'.2.1 y1 y2
    subst b1
    rw [pow_one] at s1
    congr 1
    exact Mv.ext' (by rw [p.1, p'.1]) (by simpa using y1) (red_eq s1 p.2.2 p'.2.2)
theorem Canon.e_some {S : Mv → Prop} {e n e' n' : Option Mv} {g g' : Nat} (h : Canon S e n g) (h' : Canon S e' n' g') {m : Mv} (hm : e = some m) : ∃ m' a b, e' = some m' ∧ m.x = a * m'.x ∧ m.y = a * m'.y + b * (n'.getD one).y ∧ (g' : Int) ∣ m.s - (led e' n' a b).s := by
  subst hm
  have sm : S m := by have := h.led_in 1 0; rw [led_10] at this; exact this
  have m0 := (h.eo m rfl).1
  obtain ⟨a, b, h1, h2, h3⟩ := (h'.gen m).mp sm
  rw [led_x, h'.n0] at h1
  cases e' with
  | none => simp [one] at h1; omega
  | some m' => exact ⟨m', a, b, rfl, by simpa using h1, h2, h3⟩
theorem Canon.e_eq {S : Mv → Prop} {e n e' n' : Option Mv} {g g' : Nat} (h : Canon S e n g) (h' : Canon S e' n' g') : e = e' := by
  have eg := h.g_eq h'
  subst eg
  have en := h.n_eq h'
  subst en
  cases e with
  | none =>
    cases e' with
    | none => rfl
    | some k' =>
      obtain ⟨k, _, _, e, _⟩ := h'.e_some h rfl
      cases e
  | some m =>
    obtain ⟨m', a, b, e1, x1, y1, s1⟩ := h.e_some h' rfl
    subst e1
    obtain ⟨m2, a2, b2, e2, x2, y2, s2⟩ := h'.e_some h rfl
    cases e2
    have p := h.eo m rfl
    have p' := h'.eo m' rfl
    have a1 := dvd_pos_eq p.1 p'.1 x1 x2
    subst a1
    have hb : b * (n.getD one).y = 0 ∧ led (some m') n 1 b = m' := by
      cases n with
      | none =>
        refine ⟨by simp [one], ?_⟩
        unfold led
        show mul (pow m' 1) (pow one b) = m'
        rw [pow_one_, pow_one, mul_one]
      | some k =>
        have k0 := (h.no k rfl).2.1
        have q := h.eno m k rfl rfl
        have q' := h'.eno m' k rfl rfl
        have y1 : m.y = 1 * m'.y + b * k.y := y1
        have b0 : b = 0 := by
          rcases Int.lt_trichotomy b 0 with z | z | z
          · have : b * k.y ≤ (-1) * k.y := Int.mul_le_mul_of_nonneg_right (by omega) (by omega)
            omega
          · exact z
          · have : 1 * k.y ≤ b * k.y := Int.mul_le_mul_of_nonneg_right (by omega) (by omega)
            omega
        subst b0
        refine ⟨by simp, ?_⟩
        rw [led_10]
        rfl
    rw [hb.2] at s1
    rw [hb.1] at y1
    congr 1
    exact Mv.ext' (by simpa using x1) (by simpa using y1) (red_eq s1 p.2 p'.2)
theorem Canon.same {S S' : Mv → Prop} {e n e' n' : Option Mv} {g g' : Nat} (h : Canon S e n g) (h' : Canon S' e' n' g') : (e = e' ∧ n = n' ∧ g = g') ↔ ∀ m, S m ↔ S' m := by
  constructor
  · rintro ⟨rfl, rfl, rfl⟩ m
    rw [h.gen, h'.gen]
  · intro hs
    have h2 : Canon S e' n' g' := ⟨fun m => (hs m).trans (h'.gen m), h'.eo, h'.no, h'.eno⟩
    exact ⟨h.e_eq h2, h.n_eq h2, h.g_eq h2⟩
/-- generated sets, by their generators -/
theorem gen_le {ms ks : List Mv} : (∀ m, Gen ms m → Gen ks m) ↔ ∀ b ∈ ms, Gen ks b :=
  ⟨fun h b hb => h b (Gen.of hb), fun h m hm => Gen.le (Gen.grp ks) h hm⟩
end FM

set_option Elab.async false
set_option linter.all false
set_option maxRecDepth 100000
namespace FM
/-- what a form tells -/
def Told (e n : Option Mv) (g : Nat) (m : Mv) : Prop := ∃ a b, m.x = (led e n a b).x ∧ m.y = (led e n a b).y ∧ (g : Int) ∣ m.s - (led e n a b).s
theorem led_mul {e n : Option Mv} (hn : (n.getD one).x = 0) (a b a' b' : Int) : (mul (led e n a b) (led e n a' b')).s - (led e n (a + a') (b + b')).s = -(a' * b) * ((e.getD one).x * (n.getD one).y) := by
  have ht := tri_add a a'
  simp only [led, mul, pow, hn, ht]
  grind
theorem led_xy_add {e n : Option Mv} (a b a' b' : Int) : (led e n (a + a') (b + b')).x = (led e n a b).x + (led e n a' b').x ∧ (led e n (a + a') (b + b')).y = (led e n a b).y + (led e n a' b').y := by
  simp only [led_x, led_y]
  constructor <;> grind
theorem led_00 {e n : Option Mv} : led e n 0 0 = one := by rw [led_a0, pow_zero]
theorem Told.grp {e n : Option Mv} {g : Nat} (hn : (n.getD one).x = 0) (hg : (g : Int) ∣ (e.getD one).x * (n.getD one).y) : Grp (Told e n g) := by
  refine ⟨⟨0, 0, by rw [led_00], by rw [led_00], by rw [led_00]; simp⟩, ?_, ?_⟩
  · rintro m m' ⟨a, b, h1, h2, h3⟩ ⟨a', b', h1', h2', h3'⟩
    obtain ⟨x1, x2⟩ := led_xy_add (e := e) (n := n) a b a' b'
    refine ⟨a + a', b + b', by rw [x1, ← h1, ← h1']; rfl, by rw [x2, ← h2, ← h2']; rfl, ?_⟩
    have h := led_mul (e := e) hn a b a' b'
    obtain ⟨p, hp⟩ := h3
    obtain ⟨p', hp'⟩ := h3'
    obtain ⟨q, hq⟩ := hg
    rw [hq] at h
    refine ⟨p + p' - (a' * b) * q, ?_⟩
    simp only [mul] at h ⊢
    rw [← h1, ← h2'] at h
    grind
  · rintro m ⟨a, b, h1, h2, h3⟩
    have h := led_mul (e := e) hn a b (-a) (-b)
    rw [show a + -a = 0 by omega, show b + -b = 0 by omega, led_00] at h
    have e1 : (led e n (-a) (-b)).x = -m.x := by rw [h1]; simp only [led_x]; grind
    have e2 : (led e n (-a) (-b)).y = -m.y := by rw [h2]; simp only [led_y]; grind
    refine ⟨-a, -b, by rw [e1]; rfl, by rw [e2]; rfl, ?_⟩
    obtain ⟨p, hp⟩ := h3
    obtain ⟨q, hq⟩ := hg
    rw [hq] at h
    refine ⟨-p - a * b * q, ?_⟩
    simp only [mul, inv, one] at h ⊢
    rw [← h1, e2] at h
    grind
theorem gen_z {ms : List Mv} {x : Int} (h : Gen ms ⟨0, 0, x⟩) (c : Int) : Gen ms ⟨0, 0, c * x⟩ := by
  have := (Gen.grp ms).pow h c
  have e : pow ⟨0, 0, x⟩ c = ⟨0, 0, c * x⟩ := by refine Mv.ext' ?_ ?_ ?_ <;> simp [pow]
  rwa [e] at this
theorem Told.le {ms : List Mv} {e n : Option Mv} {g : Nat} (he : Gen ms (e.getD one)) (hn : Gen ms (n.getD one)) (hg : Gen ms ⟨0, 0, g⟩) {m : Mv} (h : Told e n g m) : Gen ms m := by
  obtain ⟨a, b, h1, h2, q, h3⟩ := h
  have G := Gen.grp ms
  have hl : Gen ms (led e n a b) := G.m _ _ (G.pow he a) (G.pow hn b)
  have := G.m _ _ hl (gen_z hg q)
  have e1 : mul (led e n a b) ⟨0, 0, q * g⟩ = m := by refine Mv.ext' ?_ ?_ ?_ <;> simp only [mul] <;> grind
  rwa [e1] at this
theorem Told.e {e n : Option Mv} {g : Nat} : Told e n g (e.getD one) := ⟨1, 0, by rw [led_10], by rw [led_10], by rw [led_10]; simp⟩
theorem Told.n {e n : Option Mv} {g : Nat} : Told e n g (n.getD one) := ⟨0, 1, by rw [led_01], by rw [led_01], by rw [led_01]; simp⟩
theorem Told.z {e n : Option Mv} {g : Nat} {s : Int} (h : (g : Int) ∣ s) : Told e n g ⟨0, 0, s⟩ := ⟨0, 0, by rw [led_00]; rfl, by rw [led_00]; rfl, by rw [led_00]; simpa [one] using h⟩
/-- a form that is made, and tells what makes the rest, is the form -/
theorem canon_of {ms ks : List Mv} {e n : Option Mv} {g : Nat} (hk : ∀ b ∈ ms, Gen ks b) (ht : ∀ b ∈ ks, Told e n g b)
    (he : Gen ms (e.getD one)) (hn : Gen ms (n.getD one)) (hg : Gen ms ⟨0, 0, g⟩) (hgap : (g : Int) ∣ (e.getD one).x * (n.getD one).y)
    (eo : ∀ m, e = some m → 0 < m.x ∧ (g ≠ 0 → 0 ≤ m.s ∧ m.s < g)) (no : ∀ m, n = some m → m.x = 0 ∧ 0 < m.y ∧ (g ≠ 0 → 0 ≤ m.s ∧ m.s < g)) (eno : ∀ m k, e = some m → n = some k → 0 ≤ m.y ∧ m.y < k.y) : Canon (Gen ms) e n g := by
  have n0 : (n.getD one).x = 0 := by
    cases n with
    | none => rfl
    | some k => exact (no k rfl).1
  have G := Told.grp (e := e) n0 hgap
  exact ⟨fun m => ⟨fun h => Gen.le G (fun b hb => Gen.le G ht (hk b hb)) h, Told.le he hn hg⟩, eo, no, eno⟩
/-! ### how great the numbers of a form are -/
def Le3 (B : Nat) (m : Mv) : Prop := m.x.natAbs ≤ B ∧ m.y.natAbs ≤ B ∧ m.s.natAbs ≤ B
theorem all_grp {ms : List Mv} {P : Mv → Prop} (g : Grp P) {m : Mv} (h : Gen ms m) (hn : ¬ P m) : ∃ b ∈ ms, ¬ P b := by
  apply Classical.byContradiction
  intro z
  apply hn
  refine Gen.le g (fun b hb => ?_) h
  apply Classical.byContradiction
  intro z2
  exact z ⟨b, hb, z2⟩
theorem grp_x : Grp fun m => m.x = 0 := ⟨rfl, fun a b h h' => by simp [mul, h, h'], fun a h => by simp [inv, h]⟩
theorem grp_xy : Grp fun m => m.x = 0 ∧ m.y = 0 := ⟨⟨rfl, rfl⟩, fun a b h h' => by simp [mul, h.1, h.2, h'.1, h'.2], fun a h => by simp [inv, h.1, h.2]⟩
theorem grp_one : Grp fun m => m.x = 0 ∧ m.y = 0 ∧ m.s = 0 := ⟨⟨rfl, rfl, rfl⟩, fun a b h h' => by simp [mul, h.1, h.2, h'.1, h'.2], fun a h => by simp [inv, h.1, h.2]⟩
theorem grp_gap (c : Mv) : Grp fun m => gap c m = 0 := ⟨by simp [gap, one], fun a b h h' => by simp only [gap, mul] at *; grind, fun a h => by simp only [gap, inv] at *; grind⟩
theorem abs_mul_le {a x : Int} {B : Nat} (ha : a ≠ 0) (h : (a * x).natAbs ≤ B) : x.natAbs ≤ B := by
  rw [Int.natAbs_mul] at h
  have : 1 ≤ a.natAbs := by omega
  have := Nat.mul_le_mul_right x.natAbs this
  omega
theorem abs_mul_le' {a x : Int} {B : Nat} (hx : x ≠ 0) (h : (a * x).natAbs ≤ B) : a.natAbs ≤ B := by
  rw [Int.mul_comm] at h
  exact abs_mul_le hx h
theorem abs_sub_mul {a b c d : Int} {A C : Nat} (ha : a.natAbs ≤ A) (hb : b.natAbs ≤ C) (hc : c.natAbs ≤ A) (hd : d.natAbs ≤ C) : (a * b - c * d).natAbs ≤ 2 * (A * C) := by
  have h1 : (a * b).natAbs ≤ A * C := by rw [Int.natAbs_mul]; exact Nat.mul_le_mul ha hb
  have h2 : (c * d).natAbs ≤ A * C := by rw [Int.natAbs_mul]; exact Nat.mul_le_mul hc hd
  omega
theorem Canon.ex_le {ms : List Mv} {e n : Option Mv} {g B : Nat} (h : Canon (Gen ms) e n g) (hB : ∀ b ∈ ms, Le3 B b) {m : Mv} (he : e = some m) : m.x.natAbs ≤ B := by
  have hm : Gen ms m := by have := h.led_in 1 0; rw [led_10, he] at this; exact this
  obtain ⟨b, hb, b0⟩ := all_grp grp_x hm (by have := (h.eo m he).1; omega)
  obtain ⟨a, c, h1, _, _⟩ := (h.gen b).mp (Gen.of hb)
  rw [led_x, h.n0, he] at h1
  have h1 : b.x = a * m.x := by simpa using h1
  have a0 : a ≠ 0 := fun z => b0 (by rw [h1, z]; simp)
  exact abs_mul_le a0 (by rw [← h1]; exact (hB b hb).1)
theorem Canon.ny_le {ms : List Mv} {e n : Option Mv} {g B : Nat} (h : Canon (Gen ms) e n g) (hB : ∀ b ∈ ms, Le3 B b) {k : Mv} (hn : n = some k) : k.y.natAbs ≤ 2 * (B * B) + B := by
  have hk : Gen ms k := by have := h.led_in 0 1; rw [led_01, hn] at this; exact this
  have k0 := (h.no k hn).2.1
  have kx := (h.no k hn).1
  by_cases hg : ∃ b ∈ ms, ∃ c ∈ ms, gap b c ≠ 0
  · obtain ⟨b, hb, c, hc, hbc⟩ := hg
    have G := Gen.grp ms
    have hm := G.m _ _ (G.pow (Gen.of hb) c.x) (G.pow (Gen.of hc) (-b.x))
    obtain ⟨j, h2, _⟩ := h.x0 hm (by simp only [mul, pow]; grind)
    rw [hn] at h2
    have h2 : c.x * b.y - b.x * c.y = j * k.y := by simp only [mul, pow, Option.getD_some] at h2; grind
    have j0 : j ≠ 0 := fun z => hbc (by rw [z] at h2; simp only [gap]; grind)
    have := abs_mul_le j0 (B := 2 * (B * B)) (by rw [← h2]; exact abs_sub_mul (hB c hc).1 (hB b hb).2.1 (hB b hb).1 (hB c hc).2.1)
    omega
  · have hz : ∀ b ∈ ms, ∀ c ∈ ms, gap b c = 0 := fun b hb c hc => by
      apply Classical.byContradiction
      intro z
      exact hg ⟨b, hb, c, hc, z⟩
    have hz2 : ∀ b ∈ ms, ∀ m, Gen ms m → gap b m = 0 := fun b hb m hm => Gen.le (grp_gap b) (hz b hb) hm
    cases he : e with
    | none =>
      obtain ⟨b, hb, b0⟩ := all_grp grp_xy hk (by omega)
      obtain ⟨a, c, h1, h2, _⟩ := (h.gen b).mp (Gen.of hb)
      rw [led_x, h.n0, he] at h1
      rw [led_y, he, hn] at h2
      have h1 : b.x = 0 := by simpa [one] using h1
      have h2 : b.y = c * k.y := by simpa [one] using h2
      have c0 : c ≠ 0 := fun z => b0 ⟨h1, by rw [h2, z]; simp⟩
      have := abs_mul_le c0 (by rw [← h2]; exact (hB b hb).2.1)
      omega
    | some m =>
      have hm : Gen ms m := by have := h.led_in 1 0; rw [led_10, he] at this; exact this
      have hm2 : ∀ b ∈ ms, gap k b = 0 := fun b hb => by have := hz2 b hb k hk; simp only [gap] at *; omega
      have : gap k m = 0 := Gen.le (grp_gap k) hm2 hm
      have m0 := (h.eo m he).1
      simp only [gap, kx] at this
      have : m.x * k.y = 0 := by omega
      rcases Int.mul_eq_zero.mp this with q | q <;> omega
/-- what is told along one line -/
structure Line (S : Mv → Prop) (v : Mv) (g : Nat) : Prop where
  vS : S v
  nz : ¬ (v.x = 0 ∧ v.y = 0)
  at_ : ∀ m, S m → ∃ a, m.x = a * v.x ∧ m.y = a * v.y ∧ (g : Int) ∣ m.s - (pow v a).s
  z : S ⟨0, 0, g⟩
  zd : ∀ s, S ⟨0, 0, s⟩ → (g : Int) ∣ s
def lv (m : Mv) : Int := 2 * m.s - m.x * m.y
theorem lv_pow (m : Mv) (k : Int) : lv (pow m k) = k * lv m := by
  have := tri2 k
  simp only [lv, pow]
  grind
theorem lv_mul {m k : Mv} (h : gap m k = 0) : lv (mul m k) = lv m + lv k := by
  simp only [lv, mul, gap] at *
  grind
theorem lv_le {m : Mv} {B : Nat} (h : Le3 B m) : (lv m).natAbs ≤ 2 * B + B * B := by
  have h1 : (m.x * m.y).natAbs ≤ B * B := by rw [Int.natAbs_mul]; exact Nat.mul_le_mul h.1 h.2.1
  have := h.2.2
  unfold lv
  omega
theorem line_k {v m : Mv} {a : Int} {B : Nat} (nz : ¬ (v.x = 0 ∧ v.y = 0)) (h1 : m.x = a * v.x) (h2 : m.y = a * v.y) (h : Le3 B m) : a.natAbs ≤ B := by
  by_cases hx : v.x = 0
  · have hy : v.y ≠ 0 := fun z => nz ⟨hx, z⟩
    exact abs_mul_le' hy (by rw [← h2]; exact h.2.1)
  · exact abs_mul_le' hx (by rw [← h1]; exact h.1)
theorem Line.b0 {ms : List Mv} {v : Mv} {g B : Nat} (h : Line (Gen ms) v g) (hB : ∀ b ∈ ms, Le3 B b) : ∃ b ∈ ms, ∃ a, a ≠ 0 ∧ b.x = a * v.x ∧ b.y = a * v.y ∧ (g : Int) ∣ b.s - (pow v a).s := by
  obtain ⟨b, hb, b0⟩ := all_grp grp_xy h.vS h.nz
  obtain ⟨a, h1, h2, h3⟩ := h.at_ b (Gen.of hb)
  exact ⟨b, hb, a, fun z => b0 ⟨by rw [h1, z]; simp, by rw [h2, z]; simp⟩, h1, h2, h3⟩
theorem Line.xy_le {ms : List Mv} {v : Mv} {g B : Nat} (h : Line (Gen ms) v g) (hB : ∀ b ∈ ms, Le3 B b) : v.x.natAbs ≤ B ∧ v.y.natAbs ≤ B := by
  obtain ⟨b, hb, a, a0, h1, h2, _⟩ := h.b0 hB
  exact ⟨abs_mul_le a0 (by rw [← h1]; exact (hB b hb).1), abs_mul_le a0 (by rw [← h2]; exact (hB b hb).2.1)⟩
theorem line_grp {v : Mv} {a0 l0 : Int} (nz : ¬ (v.x = 0 ∧ v.y = 0)) : Grp fun m => ∃ k, m.x = k * v.x ∧ m.y = k * v.y ∧ a0 * lv m = k * l0 := by
  refine ⟨⟨0, by simp [one], by simp [one], by simp [lv, one]⟩, ?_, ?_⟩
  · rintro m m' ⟨k, h1, h2, h3⟩ ⟨k', h1', h2', h3'⟩
    have hg : gap m m' = 0 := by simp only [gap, h1, h2, h1', h2']; grind
    refine ⟨k + k', by simp only [mul, h1, h1']; grind, by simp only [mul, h2, h2']; grind, ?_⟩
    rw [lv_mul hg]
    grind
  · rintro m ⟨k, h1, h2, h3⟩
    refine ⟨-k, by simp only [inv, h1]; grind, by simp only [inv, h2]; grind, ?_⟩
    have e : lv (inv m) = - lv m := by simp only [lv, inv]; grind
    rw [e]
    grind
theorem Line.g_le {ms : List Mv} {v : Mv} {g B : Nat} (h : Line (Gen ms) v g) (hB : ∀ b ∈ ms, Le3 B b) : g ≤ 2 * (B * (2 * B + B * B)) := by
  obtain ⟨b, hb, a, a0, h1, h2, _⟩ := h.b0 hB
  by_cases hg0 : g = 0
  · omega
  have G := Gen.grp ms
  by_cases hc : ∀ c ∈ ms, ∃ k, c.x = k * v.x ∧ c.y = k * v.y ∧ a * lv c = k * lv b
  · exfalso
    obtain ⟨k, k1, k2, k3⟩ := Gen.le (line_grp h.nz) hc h.z
    have k1 : k * v.x = 0 := k1.symm
    have k2 : k * v.y = 0 := k2.symm
    have k0 : k = 0 := by
      apply Classical.byContradiction
      intro z
      exact h.nz ⟨(Int.mul_eq_zero.mp k1).resolve_left z, (Int.mul_eq_zero.mp k2).resolve_left z⟩
    rw [k0] at k3
    have : a * (2 * (g : Int)) = 0 := by simpa [lv] using k3
    rcases Int.mul_eq_zero.mp this with q | q <;> omega
  · have : ∃ c ∈ ms, ¬ ∃ k, c.x = k * v.x ∧ c.y = k * v.y ∧ a * lv c = k * lv b := by
      apply Classical.byContradiction
      intro z
      apply hc
      intro c hcm
      apply Classical.byContradiction
      intro z2
      exact z ⟨c, hcm, z2⟩
    obtain ⟨c, hcm, hcn⟩ := this
    obtain ⟨k, k1, k2, _⟩ := h.at_ c (Gen.of hcm)
    have hm := G.m _ _ (G.pow (Gen.of hb) k) (G.pow (Gen.of hcm) (-a))
    have hgap : gap (pow b k) (pow c (-a)) = 0 := by simp only [gap, pow, h1, h2, k1, k2]; grind
    have hl : lv (mul (pow b k) (pow c (-a))) = k * lv b - a * lv c := by rw [lv_mul hgap, lv_pow, lv_pow]; grind
    have hx : (mul (pow b k) (pow c (-a))).x = 0 := by simp only [mul, pow, h1, k1]; grind
    have hy : (mul (pow b k) (pow c (-a))).y = 0 := by simp only [mul, pow, h2, k2]; grind
    have he : mul (pow b k) (pow c (-a)) = ⟨0, 0, (mul (pow b k) (pow c (-a))).s⟩ := Mv.ext' hx hy rfl
    rw [he] at hm
    have hd := h.zd _ hm
    unfold lv at hl
    rw [hx] at hl
    have h2s : 2 * (mul (pow b k) (pow c (-a))).s = k * lv b - a * lv c := by unfold lv; omega
    have hne : k * lv b - a * lv c ≠ 0 := fun z => hcn ⟨k, k1, k2, by omega⟩
    have hle := abs_sub_mul (line_k h.nz k1 k2 (hB c hcm)) (lv_le (hB b hb)) (line_k h.nz h1 h2 (hB b hb)) (lv_le (hB c hcm))
    rw [← h2s] at hle hne
    generalize (mul (pow b k) (pow c (-a))).s = t at *
    have t0 : t ≠ 0 := fun z => hne (by rw [z]; simp)
    have := Nat.le_of_dvd (show 0 < t.natAbs by omega) (by have := Int.natAbs_dvd_natAbs.mpr hd; simpa using this : g ∣ t.natAbs)
    omega
theorem Line.s_le {ms : List Mv} {v : Mv} {B : Nat} (h : Line (Gen ms) v 0) (hB : ∀ b ∈ ms, Le3 B b) : v.s.natAbs ≤ 2 * B + 2 * (B * B) := by
  obtain ⟨b, hb, a, a0, h1, h2, h3⟩ := h.b0 hB
  have hs : b.s = (pow v a).s := by
    have := Int.zero_dvd.mp (by simpa using h3)
    omega
  have e : b = pow v a := Mv.ext' h1 h2 hs
  have hl : lv b = a * lv v := by rw [e, lv_pow]
  have := abs_mul_le a0 (by rw [← hl]; exact lv_le (hB b hb))
  obtain ⟨hx, hy⟩ := h.xy_le hB
  have hxy : (v.x * v.y).natAbs ≤ B * B := by rw [Int.natAbs_mul]; exact Nat.mul_le_mul hx hy
  unfold lv at this
  omega
theorem Canon.line_e {S : Mv → Prop} {e n : Option Mv} {g : Nat} (h : Canon S e n g) {m : Mv} (he : e = some m) (hn : n = none) : Line S m g := by
  have h1 : ∀ a b, led e n a b = pow m a := fun a b => by
    rw [he, hn]
    unfold led
    show mul (pow m a) (pow one b) = _
    rw [pow_one_, mul_one]
  refine ⟨by have := h.led_in 1 0; rw [h1, pow_one] at this; exact this, fun z => by have := (h.eo m he).1; omega, fun x hx => ?_, (h.z _).mpr ⟨1, by simp⟩, fun s hs => (h.z s).mp hs⟩
  obtain ⟨a, b, h2, h3, h4⟩ := (h.gen x).mp hx
  rw [h1] at h2 h3 h4
  exact ⟨a, h2, h3, h4⟩
theorem Canon.line_n {S : Mv → Prop} {e n : Option Mv} {g : Nat} (h : Canon S e n g) {m : Mv} (he : e = none) (hn : n = some m) : Line S m g := by
  have h1 : ∀ a b, led e n a b = pow m b := fun a b => by
    rw [he, hn]
    unfold led
    show mul (pow one a) (pow m b) = _
    rw [pow_one_, one_mul]
  refine ⟨by have := h.led_in 0 1; rw [h1, pow_one] at this; exact this, fun z => by have := (h.no m hn).2.1; omega, fun x hx => ?_, (h.z _).mpr ⟨1, by simp⟩, fun s hs => (h.z s).mp hs⟩
  obtain ⟨a, b, h2, h3, h4⟩ := (h.gen x).mp hx
  rw [h1] at h2 h3 h4
  exact ⟨b, h2, h3, h4⟩
theorem Canon.gap_dvd {S : Mv → Prop} {e n : Option Mv} {g : Nat} (h : Canon S e n g) (G : Grp S) {m k : Mv} (he : e = some m) (hn : n = some k) : (g : Int) ∣ m.x * k.y := by
  have hm : S m := by have := h.led_in 1 0; rw [led_10, he] at this; exact this
  have hk : S k := by have := h.led_in 0 1; rw [led_01, hn] at this; exact this
  have kx := (h.no k hn).1
  have := G.m _ _ (G.m _ _ hm hk) (G.m _ _ (G.i _ hm) (G.i _ hk))
  have e1 : mul (mul m k) (mul (inv m) (inv k)) = ⟨0, 0, m.x * k.y⟩ := by refine Mv.ext' ?_ ?_ ?_ <;> simp only [mul, inv, kx] <;> grind
  rw [e1] at this
  exact (h.z _).mp this
theorem pow_le {B : Nat} (h1 : 1 ≤ B) : B ≤ B * B ∧ B * B ≤ B * (B * B) ∧ 1 ≤ B * B ∧ 1 ≤ B * (B * B) := by
  have a1 := Nat.mul_le_mul_left B h1
  have a2 := Nat.mul_le_mul_left (B * B) h1
  have e1 : B * B * B = B * (B * B) := Nat.mul_assoc ..
  omega
/-- the numbers of a form of buttons of at most B -/
theorem Canon.size {ms : List Mv} {e n : Option Mv} {g B : Nat} (h : Canon (Gen ms) e n g) (h1 : 1 ≤ B) (hB : ∀ b ∈ ms, Le3 B b) :
    (∀ m, e = some m → Le3 (10 * (B * (B * B))) m) ∧ (∀ k, n = some k → Le3 (10 * (B * (B * B))) k) ∧ g ≤ 10 * (B * (B * B)) := by
  obtain ⟨p1, p2, p3, p4⟩ := pow_le h1
  have e1 : B * (2 * B + B * B) = 2 * (B * B) + B * (B * B) := by rw [Nat.mul_add]; congr 1; rw [Nat.mul_left_comm]
  have hg : g ≤ 10 * (B * (B * B)) := by
    cases he : e with
    | none =>
      cases hn : n with
      | none =>
        by_cases g0 : g = 0
        · omega
        · have hz : Gen ms ⟨0, 0, g⟩ := (h.z _).mpr ⟨1, by simp⟩
          obtain ⟨b, hb, b0⟩ := all_grp grp_one hz (by simp; omega)
          obtain ⟨a, c, h2, h3, h4⟩ := (h.gen b).mp (Gen.of hb)
          have : led e n a c = one := by rw [he, hn]; unfold led; show mul (pow one a) (pow one c) = one; rw [pow_one_, pow_one_, one_mul]
          rw [this] at h2 h3 h4
          have s0 : b.s ≠ 0 := fun z => b0 ⟨h2, h3, z⟩
          have hd : g ∣ b.s.natAbs := by
            have h5 : (g : Int) ∣ b.s := by simpa [one] using h4
            have := Int.natAbs_dvd_natAbs.mpr h5
            simpa using this
          have := Nat.le_of_dvd (by omega) hd
          have := (hB b hb).2.2
          omega
      | some k =>
        have := (h.line_n he hn).g_le hB
        rw [e1] at this
        omega
    | some m =>
      cases hn : n with
      | none =>
        have := (h.line_e he hn).g_le hB
        rw [e1] at this
        omega
      | some k =>
        have hd := h.gap_dvd (Gen.grp ms) he hn
        have m0 := (h.eo m he).1
        have k0 := (h.no k hn).2.1
        have hpos : 0 < m.x * k.y := Int.mul_pos m0 k0
        have hd2 : g ∣ (m.x * k.y).natAbs := by
          have := Int.natAbs_dvd_natAbs.mpr hd
          simpa using this
        have h5 := Nat.le_of_dvd (by omega) hd2
        rw [Int.natAbs_mul] at h5
        have h6 := Nat.mul_le_mul (h.ex_le hB he) (h.ny_le hB hn)
        have e2 : B * (2 * (B * B) + B) = 2 * (B * (B * B)) + B * B := by rw [Nat.mul_add, Nat.mul_left_comm]
        omega
  refine ⟨fun m he => ?_, fun k hn => ?_, hg⟩
  · have hx := h.ex_le hB he
    cases hn : n with
    | none =>
      have L := h.line_e he hn
      obtain ⟨_, hy⟩ := L.xy_le hB
      refine ⟨by omega, by omega, ?_⟩
      by_cases g0 : g = 0
      · rw [g0] at L
        have := L.s_le hB
        omega
      · have := (h.eo m he).2 g0
        omega
    | some k =>
      have hk := h.ny_le hB hn
      have hy := h.eno m k he hn
      refine ⟨by omega, by omega, ?_⟩
      by_cases g0 : g = 0
      · exfalso
        have hd := h.gap_dvd (Gen.grp ms) he hn
        rw [g0] at hd
        have hd : m.x * k.y = 0 := Int.zero_dvd.mp (by simpa using hd)
        have m0 := (h.eo m he).1
        have k0 := (h.no k hn).2.1
        have hpos : 0 < m.x * k.y := Int.mul_pos m0 k0
        omega
      · have := (h.eo m he).2 g0
        omega
  · have hk := h.ny_le hB hn
    have hx := (h.no k hn).1
    refine ⟨by omega, by omega, ?_⟩
    by_cases g0 : g = 0
    · cases he : e with
      | none =>
        have L := h.line_n he hn
        rw [g0] at L
        have := L.s_le hB
        omega
      | some m =>
        exfalso
        have hd := h.gap_dvd (Gen.grp ms) he hn
        rw [g0] at hd
        have hd : m.x * k.y = 0 := Int.zero_dvd.mp (by simpa using hd)
        have m0 := (h.eo m he).1
        have k0 := (h.no k hn).2.1
        have hpos : 0 < m.x * k.y := Int.mul_pos m0 k0
        omega
    · have := (h.no k hn).2.2 g0
      omega
/-- a move whose area is made less -/
def red (g : Nat) (m : Mv) : Mv := ⟨m.x, m.y, if g = 0 then m.s else m.s.fmod g⟩
theorem red_dvd (g : Nat) (m : Mv) : (g : Int) ∣ (red g m).s - m.s := by
  unfold red
  split
  · simp
  · have := Int.mul_fdiv_add_fmod m.s g
    exact ⟨-(m.s.fdiv g), by grind⟩
theorem red_rng {g : Nat} (h : g ≠ 0) (m : Mv) : 0 ≤ (red g m).s ∧ (red g m).s < g := by
  unfold red
  rw [if_neg h]
  rw [Int.fmod_eq_emod_of_nonneg _ (by omega)]
  exact ⟨Int.emod_nonneg _ (by omega), Int.emod_lt_of_pos _ (by omega)⟩
theorem gen_shift {ms : List Mv} {g : Nat} {m m' : Mv} (hg : Gen ms ⟨0, 0, g⟩) (h : Gen ms m) (hx : m'.x = m.x) (hy : m'.y = m.y) (hs : (g : Int) ∣ m'.s - m.s) : Gen ms m' := by
  obtain ⟨q, hq⟩ := hs
  have := (Gen.grp ms).m _ _ h (gen_z hg q)
  have e1 : mul m ⟨0, 0, q * g⟩ = m' := by refine Mv.ext' ?_ ?_ ?_ <;> simp only [mul] <;> grind
  rwa [e1] at this
theorem Told.shift {e n : Option Mv} {g : Nat} {m m' : Mv} (h : Told e n g m) (hx : m'.x = m.x) (hy : m'.y = m.y) (hs : (g : Int) ∣ m'.s - m.s) : Told e n g m' := by
  obtain ⟨a, b, h1, h2, p, h3⟩ := h
  obtain ⟨q, hq⟩ := hs
  exact ⟨a, b, by rw [hx, h1], by rw [hy, h2], p + q, by grind⟩
theorem red_dvd' (g : Nat) (m : Mv) : (g : Int) ∣ m.s - (red g m).s := by
  obtain ⟨q, hq⟩ := red_dvd g m
  exact ⟨-q, by grind⟩
theorem getD_red {g : Nat} {e : Option Mv} : ((e.map (red g)).getD one).x = (e.getD one).x ∧ ((e.map (red g)).getD one).y = (e.getD one).y := by cases e <;> exact ⟨rfl, rfl⟩
theorem canon_less {ms ps : List Mv} {e0 n0 : Option Mv} {g : Nat} (hk : ∀ b ∈ ms, Gen (e0.toList ++ (n0.toList ++ ps)) b) (hk2 : ∀ b ∈ e0.toList ++ (n0.toList ++ ps), Gen ms b)
    (ex : ∀ m, e0 = some m → 0 < m.x) (nx : ∀ m, n0 = some m → m.x = 0 ∧ 0 < m.y) (px : ∀ p ∈ ps, p.x = 0 ∧ p.y = 0 ∧ (g : Int) ∣ p.s) (hg : Gen ms ⟨0, 0, g⟩) (hl : e0 = none ∨ n0 = none) :
    Canon (Gen ms) (e0.map (red g)) (n0.map (red g)) g := by
  have me : ∀ m, e0 = some m → Gen ms m := fun m h => hk2 m (by simp [h])
  have mn : ∀ m, n0 = some m → Gen ms m := fun m h => hk2 m (by simp [h])
  refine canon_of (ks := e0.toList ++ (n0.toList ++ ps)) hk (fun b hb => ?_) ?_ ?_ hg ?_ (fun m h => ?_) (fun m h => ?_) fun m k h h' => ?_
  · rcases List.mem_append.mp hb with z | z
    · cases he : e0 with
      | none => rw [he] at z; cases z
      | some m =>
        rw [he] at z
        have : b = m := by simpa using z
        subst this
        exact Told.e.shift rfl rfl (red_dvd' g b)
    · rcases List.mem_append.mp z with z | z
      · cases hn : n0 with
        | none => rw [hn] at z; cases z
        | some m =>
          rw [hn] at z
          have : b = m := by simpa using z
          subst this
          exact Told.n.shift rfl rfl (red_dvd' g b)
      · obtain ⟨p1, p2, p3⟩ := px b z
        have := Told.z (e := e0.map (red g)) (n := n0.map (red g)) p3
        exact this.shift p1 p2 (by simp)
  · cases he : e0 with
    | none => exact (Gen.grp ms).o
    | some m => exact gen_shift hg (me m he) rfl rfl (red_dvd g m)
  · cases hn : n0 with
    | none => exact (Gen.grp ms).o
    | some m => exact gen_shift hg (mn m hn) rfl rfl (red_dvd g m)
  · rw [getD_red.1, getD_red.2]
    rcases hl with rfl | rfl
    · simp [one]
    · simp [one]
  · cases he : e0 with
    | none => rw [he] at h; cases h
    | some k =>
      rw [he] at h
      cases h
      exact ⟨ex k he, fun h0 => red_rng h0 k⟩
  · cases hn : n0 with
    | none => rw [hn] at h; cases h
    | some k =>
      rw [hn] at h
      cases h
      exact ⟨(nx k hn).1, (nx k hn).2, fun h0 => red_rng h0 k⟩
  · rcases hl with rfl | rfl
    · cases h
    · cases h'
theorem canon_both {ms ps : List Mv} {E N : Mv} {g1 g : Nat} (hk : ∀ b ∈ ms, Gen (E :: N :: ps) b) (hk2 : ∀ b ∈ E :: N :: ps, Gen ms b)
    (ex : 0 < E.x) (nx : N.x = 0 ∧ 0 < N.y) (px : ∀ p ∈ ps, p.x = 0 ∧ p.y = 0 ∧ (g : Int) ∣ p.s) (hg : Gen ms ⟨0, 0, g⟩) (hd : (g : Int) ∣ E.x * N.y) :
    Canon (Gen ms) (some (red g (mul E (pow N (0 - E.y.fdiv N.y))))) (some (red g N)) g := by
  have hE : Gen ms E := hk2 E (by simp)
  have hN : Gen ms N := hk2 N (by simp)
  have G := Gen.grp ms
  have e1x : (mul E (pow N (0 - E.y.fdiv N.y))).x = E.x := by simp [mul, pow, nx.1]
  have e1y : (mul E (pow N (0 - E.y.fdiv N.y))).y = E.y.fmod N.y := by
    have := Int.mul_fdiv_add_fmod E.y N.y
    simp only [mul, pow]
    grind
  have back : mul (mul E (pow N (0 - E.y.fdiv N.y))) (pow N (E.y.fdiv N.y)) = E := by
    rw [mul_assoc, ← pow_add, show 0 - E.y.fdiv N.y + E.y.fdiv N.y = 0 by omega, pow_zero, mul_one]
  have hgap : (g : Int) ∣ ((some (red g (mul E (pow N (0 - E.y.fdiv N.y))))).getD one).x * ((some (red g N)).getD one).y := by
    show (g : Int) ∣ (mul E (pow N (0 - E.y.fdiv N.y))).x * N.y
    rw [e1x]; exact hd
  have T := Told.grp (e := some (red g (mul E (pow N (0 - E.y.fdiv N.y))))) (n := some (red g N)) (g := g) nx.1 hgap
  have t1 : Told (some (red g (mul E (pow N (0 - E.y.fdiv N.y))))) (some (red g N)) g (mul E (pow N (0 - E.y.fdiv N.y))) := Told.e.shift rfl rfl (red_dvd' g _)
  have t2 : Told (some (red g (mul E (pow N (0 - E.y.fdiv N.y))))) (some (red g N)) g N := Told.n.shift rfl rfl (red_dvd' g _)
  refine canon_of (ks := E :: N :: ps) hk (fun b hb => ?_) ?_ ?_ hg hgap (fun m h => ?_) (fun m h => ?_) fun m k h h' => ?_
  · rcases List.mem_cons.mp hb with z | z
    · rw [z]
      have := T.m _ _ t1 (T.pow t2 (E.y.fdiv N.y))
      rwa [back] at this
    · rcases List.mem_cons.mp z with z | z
      · rw [z]; exact t2
      · obtain ⟨p1, p2, p3⟩ := px b z
        exact (Told.z p3).shift p1 p2 (by simp)
  · exact gen_shift hg (G.m _ _ hE (G.pow hN _)) rfl rfl (red_dvd g _)
  · exact gen_shift hg hN rfl rfl (red_dvd g _)
  · cases h
    exact ⟨by show 0 < (mul E (pow N (0 - E.y.fdiv N.y))).x; rw [e1x]; exact ex, fun h0 => red_rng h0 _⟩
  · cases h
    exact ⟨nx.1, nx.2, fun h0 => red_rng h0 _⟩
  · cases h
    cases h'
    show 0 ≤ (mul E (pow N (0 - E.y.fdiv N.y))).y ∧ (mul E (pow N (0 - E.y.fdiv N.y))).y < N.y
    rw [e1y, Int.fmod_eq_emod_of_nonneg _ (by omega)]
    exact ⟨Int.emod_nonneg _ (by omega), Int.emod_lt_of_pos _ nx.2⟩
end FM

set_option Elab.async false
set_option linter.all false
set_option maxRecDepth 100000
namespace FM
/-! FM3: moves moved by a move -/
def cj (u v : Int) (m : Mv) : Mv := ⟨m.x, m.y, m.s + u * m.y - v * m.x⟩
theorem cj_mul (u v : Int) (a b : Mv) : cj u v (mul a b) = mul (cj u v a) (cj u v b) := by refine Mv.ext' ?_ ?_ ?_ <;> simp only [cj, mul] <;> grind
theorem cj_one (u v : Int) : cj u v one = one := by refine Mv.ext' ?_ ?_ ?_ <;> simp [cj, one]
theorem cj_inv (u v : Int) (a : Mv) : cj u v (inv a) = inv (cj u v a) := by refine Mv.ext' ?_ ?_ ?_ <;> simp only [cj, inv] <;> grind
theorem cj_cj (u v : Int) (m : Mv) : cj u v (cj (-u) (-v) m) = m := by refine Mv.ext' ?_ ?_ ?_ <;> simp only [cj] <;> grind
theorem cj_cj' (u v : Int) (m : Mv) : cj (-u) (-v) (cj u v m) = m := by refine Mv.ext' ?_ ?_ ?_ <;> simp only [cj] <;> grind
theorem cj_add (u v u' v' : Int) (m : Mv) : cj u v (cj u' v' m) = cj (u + u') (v + v') m := by refine Mv.ext' ?_ ?_ ?_ <;> simp only [cj] <;> grind
theorem cj_00 (m : Mv) : cj 0 0 m = m := by refine Mv.ext' ?_ ?_ ?_ <;> simp [cj]
theorem cj_grp {S : Mv → Prop} (G : Grp S) (u v : Int) : Grp fun m => S (cj u v m) := ⟨by show S (cj u v one); rw [cj_one]; exact G.o, fun a b h h' => by show S (cj u v (mul a b)); rw [cj_mul]; exact G.m _ _ h h', fun a h => by show S (cj u v (inv a)); rw [cj_inv]; exact G.i _ h⟩
theorem gen_cj {ms : List Mv} {u v : Int} {m : Mv} : Gen (ms.map (cj u v)) (cj u v m) ↔ Gen ms m := by
  constructor
  · intro h
    have := Gen.le (S := fun m => Gen ms (cj (-u) (-v) m)) (cj_grp (Gen.grp ms) (-u) (-v)) (fun b hb => ?_) h
    · have h2 : Gen ms (cj (-u) (-v) (cj u v m)) := this
      rwa [cj_cj'] at h2
    · obtain ⟨a, ha, rfl⟩ := List.mem_map.mp hb
      show Gen ms _
      rw [cj_cj']
      exact Gen.of ha
  · intro h
    exact Gen.le (S := fun m => Gen (ms.map (cj u v)) (cj u v m)) (cj_grp (Gen.grp _) u v) (fun b hb => Gen.of (List.mem_map.mpr ⟨b, hb, rfl⟩)) h
def rc (g : Nat) (u v : Int) (e : Option Mv) : Option Mv := e.map fun m => red g (cj u v m)
theorem rc_getD (g : Nat) (u v : Int) (e : Option Mv) : ((rc g u v e).getD one).x = (e.getD one).x ∧ ((rc g u v e).getD one).y = (e.getD one).y ∧ ∃ q, ((rc g u v e).getD one).s = (e.getD one).s + u * (e.getD one).y - v * (e.getD one).x + g * q := by
  cases e with
  | none => exact ⟨rfl, rfl, 0, by simp [rc, one]⟩
  | some m =>
    refine ⟨rfl, rfl, ?_⟩
    obtain ⟨q, hq⟩ := red_dvd g (cj u v m)
    refine ⟨q, ?_⟩
    show (red g (cj u v m)).s = m.s + u * m.y - v * m.x + g * q
    have : (cj u v m).s = m.s + u * m.y - v * m.x := rfl
    omega
theorem led_rc {e n : Option Mv} (g : Nat) (u v a b : Int) : (led (rc g u v e) (rc g u v n) a b).x = (led e n a b).x ∧ (led (rc g u v e) (rc g u v n) a b).y = (led e n a b).y ∧ ∃ q, (led (rc g u v e) (rc g u v n) a b).s = (cj u v (led e n a b)).s + g * q := by
  obtain ⟨e1, e2, p, e3⟩ := rc_getD g u v e
  obtain ⟨n1, n2, q, n3⟩ := rc_getD g u v n
  refine ⟨?_, ?_, a * p + b * q, ?_⟩
  · simp only [led, mul, pow, e1, n1]
  · simp only [led, mul, pow, e2, n2]
  · simp only [led, mul, pow, cj, e1, e2, e3, n1, n2, n3]
    grind
theorem Canon.cjs {S : Mv → Prop} {e n : Option Mv} {g : Nat} (h : Canon S e n g) (u v : Int) : Canon (fun m => S (cj (-u) (-v) m)) (rc g u v e) (rc g u v n) g := by
  refine ⟨fun m => ?_, fun m hm => ?_, fun m hm => ?_, fun m k hm hk => ?_⟩
  · refine (h.gen _).trans ?_
    refine exists_congr fun a => exists_congr fun b => ?_
    obtain ⟨x, y, q, s⟩ := led_rc (e := e) (n := n) g u v a b
    rw [x, y, s]
    show (m.x = _ ∧ m.y = _ ∧ _ ∣ (m.s + -u * m.y - -v * m.x) - _) ↔ m.x = _ ∧ m.y = _ ∧ _ ∣ m.s - ((led e n a b).s + u * (led e n a b).y - v * (led e n a b).x + g * q)
    constructor
    · rintro ⟨h1, h2, t, h3⟩
      exact ⟨h1, h2, t - q, by rw [h1, h2] at h3; grind⟩
    · rintro ⟨h1, h2, t, h3⟩
      exact ⟨h1, h2, t + q, by rw [h1, h2]; grind⟩
  · cases e with
    | none => cases hm
    | some k => cases hm; exact ⟨(h.eo k rfl).1, fun g0 => red_rng g0 _⟩
  · cases n with
    | none => cases hm
    | some k => cases hm; exact ⟨(h.no k rfl).1, (h.no k rfl).2.1, fun g0 => red_rng g0 _⟩
  · cases e with
    | none => cases hm
    | some a =>
      cases n with
      | none => cases hk
      | some b => cases hm; cases hk; exact h.eno a b rfl rfl
def Lk (g : Nat) (u v : Int) : Option Mv → Option Mv → Prop
  | none, none => True
  | some m, some k => m.x = k.x ∧ m.y = k.y ∧ (g : Int) ∣ u * m.y - v * m.x - (k.s - m.s)
  | _, _ => False
theorem lk_iff {g : Nat} {u v : Int} {e e' : Option Mv} (r : ∀ m, e' = some m → (g ≠ 0 → 0 ≤ m.s ∧ m.s < g)) : rc g u v e = e' ↔ Lk g u v e e' := by
  cases e with
  | none =>
    cases e' with
    | none => simp [rc, Lk]
    | some k => simp [rc, Lk]
  | some m =>
    cases e' with
    | none => simp [rc, Lk]
    | some k =>
      have rk := r k rfl
      obtain ⟨q, hq⟩ := red_dvd g (cj u v m)
      have hc : (cj u v m).s = m.s + u * m.y - v * m.x := rfl
      constructor
      · intro h
        have h1 : red g (cj u v m) = k := Option.some.inj h
        refine ⟨by rw [← h1]; rfl, by rw [← h1]; rfl, -q, ?_⟩
        rw [← h1]
        grind
      · rintro ⟨h1, h2, t, h3⟩
        show some (red g (cj u v m)) = some k
        congr 1
        refine Mv.ext' h1 h2 (red_eq (g := g) ⟨q + t, by grind⟩ (fun g0 => red_rng g0 _) rk)
def Cj (ms ks : List Mv) (u v : Int) : Prop := ∀ m, Gen ms m ↔ Gen ks (cj u v m)
theorem cj_iff {ms ks : List Mv} {e n e' n' : Option Mv} {g g' : Nat} {u v : Int} (h : Canon (Gen ms) e n g) (h' : Canon (Gen ks) e' n' g') : Cj ms ks u v ↔ g = g' ∧ Lk g u v e e' ∧ Lk g u v n n' := by
  have h1 : Cj ms ks u v ↔ ∀ m, Gen ms (cj (-u) (-v) m) ↔ Gen ks m := by
    constructor
    · intro k m
      have := k (cj (-u) (-v) m)
      rwa [cj_cj] at this
    · intro k m
      have := k (cj u v m)
      rwa [cj_cj'] at this
  rw [h1, ← (h.cjs u v).same h']
  constructor
  · rintro ⟨a, b, rfl⟩
    exact ⟨rfl, (lk_iff fun m hm => (h'.eo m hm).2).mp a, (lk_iff fun m hm => (h'.no m hm).2.2).mp b⟩
  · rintro ⟨rfl, a, b⟩
    exact ⟨(lk_iff fun m hm => (h'.eo m hm).2).mpr a, (lk_iff fun m hm => (h'.no m hm).2.2).mpr b, rfl⟩
theorem cj_buttons {ms ks : List Mv} {u v : Int} : Cj ms ks u v ↔ (∀ b ∈ ms, Gen ks (cj u v b)) ∧ ∀ b ∈ ks, Gen ms (cj (-u) (-v) b) := by
  constructor
  · intro h
    refine ⟨fun b hb => (h b).mp (Gen.of hb), fun b hb => (h _).mpr ?_⟩
    rw [cj_cj]
    exact Gen.of hb
  · rintro ⟨h1, h2⟩ m
    constructor
    · exact fun hm => Gen.le (S := fun m => Gen ks (cj u v m)) (cj_grp (Gen.grp ks) u v) h1 hm
    · intro hm
      have := Gen.le (S := fun m => Gen ms (cj (-u) (-v) m)) (cj_grp (Gen.grp ms) _ _) h2 hm
      have h3 : Gen ms (cj (-u) (-v) (cj u v m)) := this
      rwa [cj_cj'] at h3
theorem Cj.symm {ms ks : List Mv} {u v : Int} (h : Cj ms ks u v) : Cj ks ms (-u) (-v) := by
  intro m
  have := h (cj (-u) (-v) m)
  rw [cj_cj] at this
  exact this.symm
/-! ### which multiples keep a row -/
def turn (g y : Nat) : Nat := if g = 0 then 0 else g / Nat.gcd g y
theorem turn_dvd {g : Nat} {y d : Int} (hy : y ≠ 0) : (g : Int) ∣ d * y ↔ (turn g y.natAbs : Int) ∣ d := by
  unfold turn
  by_cases h : g = 0
  · subst h
    simp only [if_pos, Int.natCast_zero, Int.zero_dvd]
    constructor
    · intro q
      rcases Int.mul_eq_zero.mp q with q | q
      · exact q
      · exact absurd q hy
    · intro q; rw [q, Int.zero_mul]
  rw [if_neg h]
  have p0 : 0 < Nat.gcd g y.natAbs := Nat.gcd_pos_of_pos_left _ (by omega)
  rw [Int.ofNat_dvd_left, Int.ofNat_dvd_left, Int.natAbs_mul]
  obtain ⟨g1, hg1⟩ := Nat.gcd_dvd_left g y.natAbs
  obtain ⟨y1, hy1⟩ := Nat.gcd_dvd_right g y.natAbs
  have hc : Nat.Coprime g1 y1 := by
    have := Nat.gcd_mul_left (Nat.gcd g y.natAbs) g1 y1
    rw [← hg1, ← hy1] at this
    exact Nat.eq_of_mul_eq_mul_left p0 (by rw [Nat.mul_one]; exact this.symm)
  generalize hG : Nat.gcd g y.natAbs = G at *
  have e1 : g / G = g1 := by
    rw [hg1]; exact Nat.mul_div_cancel_left g1 p0
  rw [e1]
  constructor
  · intro q
    rw [hg1, hy1, ← Nat.mul_assoc, Nat.mul_comm _ G, Nat.mul_assoc] at q
    exact hc.dvd_of_dvd_mul_right ((Nat.mul_dvd_mul_iff_left p0).mp q)
  · rintro ⟨k, hk⟩
    refine ⟨k * y1, ?_⟩
    rw [hk, hy1]
    conv => rhs; rw [hg1]
    grind
end FM

set_option Elab.async false
set_option linter.all false
set_option maxRecDepth 100000
set_option maxHeartbeats 400000
/-! FT: texts of ints, read back -/
namespace FT
open PySem PySem.Spec PyProof.Rows L2 Ar TL
def iT (n : Int) : Str := Str.ofString (toString n)
def iL (n : Int) : List Nat := if n < 0 then 45 :: numL n.natAbs else numL n.natAbs
theorem tl_iT (n : Int) : tl (iT n) = iL n := by
  unfold iL
  cases n with
  | ofNat m => rw [if_neg (by simp)]; exact tl_num m
  | negSucc m =>
    rw [if_pos (by omega)]
    have e : toString (Int.negSucc m) = "-" ++ toString (m + 1) := rfl
    unfold iT
    rw [e]
    show tl (Str.ofString ("-" ++ toString (m + 1))) = 45 :: numL (m + 1)
    have h2 : toString (m + 1) = toString (((m + 1 : Nat)) : Int) := rfl
    rw [h2, ← tl_num (m + 1)]
    unfold tl
    rw [Str.ofString_eq_toList, Str.ofString_eq_toList]
    simp
theorem iL_free {n : Int} {s : Nat} (h : s < 45 ∨ 57 < s) : s ∉ iL n := by
  unfold iL
  have := numL_free (n := n.natAbs) (s := s) (by omega)
  split
  · simp only [List.mem_cons, not_or]; exact ⟨by omega, this⟩
  · exact this
theorem int_iT {n : Int} (h : (iL n).length ≤ 640) : intText? (iT n) = some n := by
  have e := tl_iT n
  have hl : (iT n).length ≤ 640 := by rw [len_tl, e]; exact h
  unfold iL at e
  by_cases h0 : n < 0
  · rw [if_pos h0] at e
    rw [intText_neg e (numL_digits _) (numL_ne _) (by omega), numL_val]
    congr 1; omega
  · rw [if_neg h0] at e
    have := intText_digits (x := iT n) (by show NumText.AllDigits (tl (iT n)); rw [e]; exact numL_digits _) (by show tl (iT n) ≠ []; rw [e]; exact numL_ne _) (by omega)
    rw [this]
    show some ((NumText.digitsVal (tl (iT n)) : Nat) : Int) = some n
    rw [e, numL_val]
    congr 1; omega
/-! ### rules -/
theorem o_slc_str {μ : Mu} {z : Str} {lo hi : Option Int} {P : D → Prop} : OkO (fSl μ (.str z) lo hi) P = (z.length ≤ 1000000 ∧ P (.str (cutS z lo hi))) := by
  unfold fSl
  by_cases h : z.length ≤ 1000000
  · simp [h, OkO]
  · simp [h, OkO]
theorem o_eq_ss {μ : Mu} {x y : Str} {P : D → Prop} : OkO (fEq μ (.str x) (.str y)) P = P (.bl (x == y)) := rfl
theorem o_ne_ss {μ : Mu} {x y : Str} {P : D → Prop} : OkO (fNe μ (.str x) (.str y)) P = P (.bl (!(x == y))) := rfl
theorem o_int_s {μ : Mu} {z : Str} {n : Int} {P : D → Prop} (h : intText? z = some n) (hl : z.length ≤ 640) : OkO (fInt μ [.str z]) P = P (.int n) := by
  unfold fInt
  simp [hl, h, OkO]
theorem tl_cut_to {z : Str} {k : Nat} : tl (cutS z none (some (k : Int))) = (tl z).take k := by
  unfold cutS
  rw [HT.sIx_none, HT.sIx_nat, List.drop_zero, Nat.sub_zero]
  show (tl z).take (min k z.length) = (tl z).take k
  rw [len_tl]
  by_cases h : k ≤ (tl z).length
  · rw [Nat.min_eq_left h]
  · rw [Nat.min_eq_right (by omega), List.take_length, List.take_of_length_le (by omega)]
theorem tl_cut_from {z : Str} {k : Nat} : tl (cutS z (some (k : Int)) none) = (tl z).drop k := by
  unfold cutS
  rw [HT.sIx_none, HT.sIx_nat]
  show ((tl z).drop (min k z.length)).take (z.length - min k z.length) = (tl z).drop k
  rw [len_tl]
  by_cases h : k ≤ (tl z).length
  · rw [Nat.min_eq_left h, List.take_of_length_le (by rw [List.length_drop]; omega)]
  · rw [Nat.min_eq_right (by omega), List.drop_length, List.drop_of_length_le (by omega)]
    simp
theorem str_eq {x y : Str} : (x == y) = decide (tl x = tl y) := by
  rw [Bool.eq_iff_iff, beq_iff_eq, decide_eq_true_iff]
  exact ⟨fun h => by rw [h], fun h => ext_tl h⟩
end FT

set_option Elab.async false
set_option linter.all false
set_option maxRecDepth 100000
set_option maxHeartbeats 0
namespace A18
open PySem PySem.Spec PyProof.Rows L2 Ar
section
abbrev top (i : Nat) : Stmt := PySem.Challenge.pw_arealots_k18_lots_compared.main.body.getD i (.Pass ⟨0, 0, 0, 0⟩)
abbrev s__law_well : Stmt := top 23
abbrev s_Lot__repr : Stmt := (clsAt (top 19) 9)
abbrev s_Lot__eq : Stmt := (clsAt (top 19) 7)
abbrev s_text_of : Stmt := top 13
abbrev s_lot_lines : Stmt := top 20
abbrev s_Lot__str : Stmt := (clsAt (top 19) 8)
abbrev s_Lot__text : Stmt := (clsAt (top 19) 4)
abbrev s_Lot__len : Stmt := (clsAt (top 19) 6)
abbrev s__law_dip : Stmt := top 24
abbrev s__law_picked : Stmt := top 26
abbrev s__law_number : Stmt := top 27
abbrev s__law_drawn : Stmt := top 28
abbrev s__law_page : Stmt := top 29
abbrev s_is_integer : Stmt := top 9
abbrev s_is_move : Stmt := top 12
abbrev s_is_button : Stmt := top 17
abbrev s_wrong_button : Stmt := top 18
abbrev s__law_right : Stmt := top 30
abbrev s_law : Stmt := top 31
abbrev i_Lot : Stmt := clsAt (top 19) 1
@[irreducible] def m__law_well : Fn := dDef 2 5 (dSeq (dSet 2 (dIf (dTest (dBin fLt (dVar 1) (dFn fLen (daCons (dVar 0) (daNil))))) (dBin fIx (dVar 0) (dVar 1)) (dBin fAdd (dBin fMul (dC (.int 13)) (dVar 1)) (dC (.int 6))))) (dSeq (dSet 3 (dBin fAdd (dC (.int 50021)) (dBin fMul (dC (.int 6007)) (dVar 1)))) (dSeq (dFor (diSeq (dBin fAdd (dSl (dVar 0) (dNoPart) (dPart (dC (.int 5)))) (dLst (daCons (dVar 2) (daNil))))) (dgName 4) (dSet 3 (dBin fModI (dFn fInt (daCons (dBin fAdd (dBin fAdd (dBin fMul (dVar 3) (dC (.int 24611))) (dBin fMul (dVar 4) (dC (.int 7)))) (dC (.int 307))) (daNil))) (dC (.int 2147483399))))) (dRet (dLstM (daCons (dIf (dOr (dTest (dBin fLt (dVar 2) (dC (.int 0)))) (dTest (dBin fGe (dVar 2) (dBin fPowI (dC (.int 10)) (dC (.int 18)))))) (dFn fAbs (daCons (dVar 2) (daNil))) (dC (.int 0))) (daCons (dVar 3) (daCons (dC (.int 0)) (daNil)))))))))
@[irreducible] def m_Lot__repr : Fn := dDef 1 1 (dRet (dJs3 (dC (.str "Lot of ")) (dFmt (dFn fLen (daCons (dSlt "Lot" 0 (dVar 0)) (daNil)))) (dC (.str " buttons"))))
@[irreducible] def m_Lot__eq : Fn := dDef 2 2 (dRet (dAndV (dFn (orC (fIsaC "Lot") (fIsaCN "Lot")) (daCons (dVar 1) (daCons (dC (.glo "Lot")) daNil))) (dBin fEq (dSlt "Lot" 0 (dVar 0)) (dSlt "Lot" 0 (dVar 1)))))
@[irreducible] def m_text_of : Fn := dDef 1 2 (dRet (dStrM fJoin (dC (.str " ")) (dLcF finL [1] (diSeq (dVar 0)) (dgName 1) (dYes) (dFn fStr2 (daCons (dVar 1) (daNil))))))
@[irreducible] def m_lot_lines : Fn := dDef 1 2 (dRet (dLcF finL [1] (diSeq (dSlt "Lot" 0 (dVar 0))) (dgName 1) (dYes) (dBin fAdd (dC (.str "button ")) (dCall m_text_of (daCons (dVar 1) (daNil))))))
@[irreducible] def m_Lot__str : Fn := dDef 1 1 (dRet (dStrM fJoin (dC (.str "\n")) (dCall m_lot_lines (daCons (dVar 0) (daNil)))))
@[irreducible] def m_Lot__text : Fn := dDef 1 1 (dRet (dTxtO "Lot" m_Lot__str (dVar 0)))
@[irreducible] def m_Lot__len : Fn := dDef 1 1 (dRet (dFn fLen (daCons (dSlt "Lot" 0 (dVar 0)) (daNil))))
@[irreducible] def m__law_dip : Fn := dDef 2 4 (dSeq (dAsg (dBin fAdd (dBin fIx (dVar 0) (dC (.int 2))) (dC (.int 1))) (dgSub (dVar 0) (dC (.int 2)))) (dSeq (dIfS (dTest (dBin fGt (dBin fIx (dVar 0) (dC (.int 0))) (dC (.int 0)))) (dSeq (dAsg (dFn fDivmod (daCons (dBin fIx (dVar 0) (dC (.int 0))) (daCons (dVar 1) (daNil)))) (dgTup 2 (dgCons (dgSub (dVar 0) (dC (.int 0))) (dgCons (dgName 2) (dgNil))))) (dRet (dVar 2))) (dsNext)) (dSeq (dSet 3 (dBin fAdd (dC (.int 20011)) (dBin fMul (dC (.int 2)) (dBin fIx (dVar 0) (dC (.int 2)))))) (dSeq (dAsg (dBin fModI (dFn fInt (daCons (dBin fAdd (dBin fAdd (dBin fMul (dBin fIx (dVar 0) (dC (.int 1))) (dVar 3)) (dBin fMul (dC (.int 70001)) (dBin fIx (dVar 0) (dC (.int 2))))) (dC (.int 1))) (daNil))) (dC (.int 2147483399))) (dgSub (dVar 0) (dC (.int 1)))) (dRet (dBin fModI (dFn fInt (daCons (dBin fDivI (dBin fIx (dVar 0) (dC (.int 1))) (dC (.int 640))) (daNil))) (dVar 1)))))))
@[irreducible] def m__law_picked : Fn := dDef 3 7 (dSeq (dPar 3 4 (daCons (dFn fList (daCons (dVar 1) (daNil))) (daCons (dLstM (daNil)) (daNil)))) (dSeq (dFor (diRange1 (daCons (dVar 2) (daNil))) (dgName 5) (dSeq (dSet 6 (dCall m__law_dip (daCons (dVar 0) (daCons (dFn fLen (daCons (dVar 3) (daNil))) (daNil))))) (dSeq (dDrop (dAppend (dVar 4) (dBin fIx (dVar 3) (dVar 6)))) (dSet 3 (dBin fAdd (dSl (dVar 3) (dNoPart) (dPart (dVar 6))) (dSl (dVar 3) (dPart (dBin fAdd (dVar 6) (dC (.int 1)))) (dNoPart))))))) (dRet (dVar 4))))
@[irreducible] def m__law_number : Fn := dDef 1 4 (dSeq (dSet 1 (dCall m__law_dip (daCons (dVar 0) (daCons (dC (.int 6)) (daNil))))) (dSeq (dSet 2 (dCall m__law_dip (daCons (dVar 0) (daCons (dBin fIx (dLst (daCons (dC (.int 4)) (daCons (dC (.int 12)) (daCons (dC (.int 1000)) (daCons (dBin fPowI (dC (.int 10)) (dC (.int 6))) (daCons (dBin fPowI (dC (.int 10)) (dC (.int 6))) (daCons (dBin fPowI (dC (.int 10)) (dC (.int 6))) (daNil)))))))) (dVar 1)) (daNil))))) (dSeq (dFor (diRange1 (daCons (dBin fIx (dLst (daCons (dC (.int 0)) (daCons (dC (.int 0)) (daCons (dC (.int 0)) (daCons (dC (.int 0)) (daCons (dC (.int 2)) (daCons (dC (.int 4)) (daNil)))))))) (dVar 1)) (daNil))) (dgName 3) (dSet 2 (dBin fAdd (dBin fMul (dVar 2) (dBin fPowI (dC (.int 10)) (dC (.int 6)))) (dCall m__law_dip (daCons (dVar 0) (daCons (dBin fPowI (dC (.int 10)) (dC (.int 6))) (daNil))))))) (dRet (dIf (dTest (dBin fEq (dCall m__law_dip (daCons (dVar 0) (daCons (dC (.int 2)) (daNil)))) (dC (.int 0)))) (dVar 2) (dBin fSubI (dC (.int 0)) (dVar 2)))))))
@[irreducible] def m__law_drawn : Fn := dDef 1 3 (dSeq (dSet 1 (dCall m__law_dip (daCons (dVar 0) (daCons (dC (.int 4)) (daNil))))) (dSeq (dIfS (dTest (dBin fEq (dVar 1) (dC (.int 0)))) (dRet (dTup (daCons (dBin fSubI (dCall m__law_dip (daCons (dVar 0) (daCons (dC (.int 7)) (daNil)))) (dC (.int 3))) (daCons (dBin fSubI (dCall m__law_dip (daCons (dVar 0) (daCons (dC (.int 7)) (daNil)))) (dC (.int 3))) (daCons (dBin fSubI (dCall m__law_dip (daCons (dVar 0) (daCons (dC (.int 9)) (daNil)))) (dC (.int 4))) (daNil)))))) (dsNext)) (dSeq (dSet 2 (dLstM (daCons (dCall m__law_number (daCons (dVar 0) (daNil))) (daCons (dCall m__law_number (daCons (dVar 0) (daNil))) (daCons (dCall m__law_number (daCons (dVar 0) (daNil))) (daNil)))))) (dSeq (dIfS (dTest (dBin fEq (dVar 1) (dC (.int 1)))) (dAsg (dC (.int 0)) (dgSub (dVar 2) (dCall m__law_dip (daCons (dVar 0) (daCons (dC (.int 3)) (daNil)))))) (dsNext)) (dRet (dTup (daCons (dBin fIx (dVar 2) (dC (.int 0))) (daCons (dBin fIx (dVar 2) (dC (.int 1))) (daCons (dBin fIx (dVar 2) (dC (.int 2))) (daNil))))))))))
@[irreducible] def m__law_page : Fn := dDef 1 3 (dRet (dStrM fJoin (dC (.str "\n")) (dLcF finL [1] (diSeq (dVar 0)) (dgName 1) (dYes) (dBin fAdd (dC (.str "button ")) (dStrM fJoin (dC (.str " ")) (dLcF finL [2] (diSeq (dVar 1)) (dgName 2) (dYes) (dFn fStr2 (daCons (dVar 2) (daNil)))))))))
@[irreducible] def m_is_integer : Fn := dDef 1 1 (dRet (dAndV (dFn fIsa (daCons (dVar 0) (daCons (dC (.ty "int")) (daNil)))) (dNotV (dFn fIsa (daCons (dVar 0) (daCons (dC (.ty "bool")) (daNil)))))))
@[irreducible] def m_is_move : Fn := dDef 1 2 (dRet (dAndV (dFn fIsa (daCons (dVar 0) (daCons (dC (.ty "tuple")) (daNil)))) (dAndV (dBin fEq (dFn fLen (daCons (dVar 0) (daNil))) (dC (.int 3))) (dFn fAll (daCons (dLcF finL [1] (diSeq (dVar 0)) (dgName 1) (dYes) (dCall m_is_integer (daCons (dVar 1) (daNil)))) (daNil))))))
@[irreducible] def m_is_button : Fn := dDef 1 2 (dRet (dAndV (dCall m_is_move (daCons (dVar 0) (daNil))) (dFn fAll (daCons (dLcF finL [1] (diSeq (dVar 0)) (dgName 1) (dYes) (dBin fLe (dFn fAbs (daCons (dVar 1) (daNil))) (dC (.int 1000000000000000000000000000000)))) (daNil)))))
@[irreducible] def m_wrong_button : Fn := dDef 1 3 (dSeq (dIfS (dOr (dNot (dTru (dFn fIsa (daCons (dVar 0) (daCons (dC (.ty "tuple")) (daNil)))))) (dTest (dBin fEq (dFn fLen (daCons (dVar 0) (daNil))) (dC (.int 0))))) (dRet (dUn fNeg (dC (.int 1)))) (dsNext)) (dSeq (dFor (diEnum (daCons (dVar 0) (daNil))) (dgTup 2 (dgCons (dgName 1) (dgCons (dgName 2) (dgNil)))) (dIfS (dOr (dTest (dBin fEq (dVar 1) (dC (.int 5)))) (dNot (dTru (dCall m_is_button (daCons (dVar 2) (daNil)))))) (dRet (dVar 1)) (dsNext))) (dRet (dC .non))))
@[irreducible] def m__law_right : Fn := dDef 1 15 (dSeq (dFor (diRange1 (daCons (dC (.int 5)) (daNil))) (dgName 1) (dSeq (dSet 2 (dFn fTuple (daCons (dLcF finL [14] (diRange1 (daCons (dBin fAdd (dC (.int 1)) (dCall m__law_dip (daCons (dVar 0) (daCons (dC (.int 5)) (daNil))))) (daNil))) (dgName 14) (dYes) (dCall m__law_drawn (daCons (dVar 0) (daNil)))) (daNil)))) (dSeq (dSet 3 (dMakeS "Lot" m_wrong_button (daCons (dVar 2) (daNil)))) (dSeq (dSet 4 (dCall m__law_dip (daCons (dVar 0) (daCons (dFn fLen (daCons (dVar 2) (daNil))) (daNil))))) (dSeq (dAsg (dBin fIx (dVar 2) (dVar 4)) (dgTup 3 (dgCons (dgName 5) (dgCons (dgName 6) (dgCons (dgName 7) (dgNil)))))) (dSeq (dSet 8 (dTup (daCons (dVar 5) (daCons (dVar 6) (daCons (dIf (dTest (dBin fLt (dVar 7) (dC (.int 0)))) (dBin fAdd (dVar 7) (dC (.int 1))) (dBin fSubI (dVar 7) (dC (.int 1)))) (daNil)))))) (dSeq (dSet 9 (dLstM (daCons (dVar 2) (daCons (dRevT (dVar 2)) (daCons (dBin fAdd (dSl (dVar 2) (dPart (dC (.int 1))) (dNoPart)) (dSl (dVar 2) (dNoPart) (dPart (dC (.int 1))))) (daCons (dBin fAdd (dBin fAdd (dSl (dVar 2) (dNoPart) (dPart (dVar 4))) (dTup (daCons (dVar 8) (daNil)))) (dSl (dVar 2) (dPart (dBin fAdd (dVar 4) (dC (.int 1)))) (dNoPart))) (daNil))))))) (dSeq (dDrop (dAppend (dVar 9) (dFn fTuple (daCons (dCall m__law_picked (daCons (dVar 0) (daCons (dVar 2) (daCons (dFn fLen (daCons (dVar 2) (daNil))) (daNil))))) (daNil))))) (dSeq (dDrop (dAppend (dVar 9) (dBin fAdd (dBin fAdd (dSl (dVar 2) (dNoPart) (dPart (dVar 4))) (dTup (daCons (dTup (daCons (dVar 6) (daCons (dVar 5) (daCons (dVar 7) (daNil))))) (daNil)))) (dSl (dVar 2) (dPart (dBin fAdd (dVar 4) (dC (.int 1)))) (dNoPart))))) (dSeq (dDrop (dAppend (dVar 9) (dIf (dTest (dBin fLt (dFn fLen (daCons (dVar 2) (daNil))) (dC (.int 5)))) (dBin fAdd (dVar 2) (dSl (dVar 2) (dNoPart) (dPart (dC (.int 1))))) (dSl (dVar 2) (dNoPart) (dPart (dC (.int 4))))))) (dSeq (dFor (diSeq (dVar 9)) (dgName 10) (dSeq (dPar 11 12 (daCons (dMakeS "Lot" m_wrong_button (daCons (dVar 10) (daNil))) (daCons (dBin fEq (dCall m__law_page (daCons (dVar 10) (daNil))) (dCall m__law_page (daCons (dVar 2) (daNil)))) (daNil)))) (dIfS (dTest (dBin fNe (dFn (orC (orC fRepr fReprE) fReprD) (daCons (dLst (daCons (dOwnQ false "Lot" m_Lot__eq (dVar 3) (dVar 11)) (daCons (dOwnQ false "Lot" m_Lot__eq (dVar 11) (dVar 3)) (daCons (dOwnQ true "Lot" m_Lot__eq (dVar 3) (dVar 11)) (daNil))))) (daNil))) (dFn (orC (orC fRepr fReprE) fReprD) (daCons (dLst (daCons (dVar 12) (daCons (dVar 12) (daCons (dNotV (dVar 12)) (daNil))))) (daNil))))) (dRet (dC (.bl false))) (dsNext)))) (dFor (diSeq (dLst (daCons (dPropO "Lot" m_Lot__text (dVar 3)) (daCons (dVar 2) (daCons (dC .non) (daCons (dC (.int 0)) (daCons (dLst (daCons (dVar 3) (daNil))) (daCons (dTup (daCons (dVar 3) (daNil))) (daCons (dC (.bl true)) (daCons (dEmp) (daCons (dTxtO "Lot" m_Lot__repr (dVar 3)) (daCons (dLenO "Lot" m_Lot__len (dVar 3)) (daNil))))))))))))) (dgName 13) (dIfS (dOr (dTest (dOwnQ false "Lot" m_Lot__eq (dVar 3) (dVar 13))) (dOr (dTest (dOwnR "Lot" m_Lot__eq (dVar 13) (dVar 3))) (dNot (dTest (dOwnQ true "Lot" m_Lot__eq (dVar 3) (dVar 13)))))) (dRet (dC (.bl false))) (dsNext)))))))))))))) (dRet (dC (.bl true))))
@[irreducible] def m_law : Fn := dDef 1 2 (dRet (dFn fAll (daCons (dLcF finL [1] (diRange1 (daCons (dFn fMax (daCons (dC (.int 2)) (daCons (dFn fMin (daCons (dFn fLen (daCons (dVar 0) (daNil))) (daCons (dC (.int 5)) (daNil)))) (daNil)))) (daNil))) (dgName 1) (dYes) (dCall m__law_right (daCons (dCall m__law_well (daCons (dVar 0) (daCons (dVar 1) (daNil)))) (daNil)))) (daNil))))
end
end A18

set_option Elab.async false
set_option linter.all false
set_option maxRecDepth 100000
set_option maxHeartbeats 1000000
set_option exponentiation.threshold 10000
namespace A18
open PySem PySem.Spec PyProof.Rows L2 Ar
local macro_rules | `(tactic| simp_arith) => `(tactic| simp -implicitDefEqProofs only [↓ok_ok, ↓ok_stk, ↓ok_exc, ↓ok_bind, ↓ok_nox, ↓ok_of, ↓ok_lenO, ↓ok_propO, ↓ok_txtO, ↓ok_clsM, ↓ok_tupRg, ↓ok_lstRg, ↓oko_some, ↓oko_none, ↓oko_ite, ↓oko_map, ↓ok_ite, ↓oks_nx, ↓oks_stk, ↓oks_exc, ↓oks_bk, ↓oks_ct, ↓oks_rt, ↓oks_then, ↓oks_thenN, ↓ok_var0, ↓ok_varS, ↓ok_c, ↓ok_bin, ↓ok_un, ↓okb, ↓ok_test, ↓ok_tru, ↓ok_and, ↓ok_or, ↓ok_not, ↓ok_andV, ↓ok_orV, ↓ok_notV, ↓ok_if, ↓ok_ifT, ↓ok_fld, ↓ok_slt, ↓o_slt0, ↓ok_make, ↓ok_makeS, ↓o_isaC, ↓o_isn_ins, ↓o_is_ins, ↓ok_izip, ↓zipR_ll, ↓zipR_tl, ↓zipR_tt, ↓o_parts, ↓o_shares, ↓o_east, ↓o_north, ↓o_rests, zip2, zip3, ↓ok_nil, ↓ok_cons, ↓ok_star, ↓seqA_tup, ↓seqA_lst, ↓ok_revL, ↓ok_revLM, ↓ok_cmp2, ↓ok_tup, ↓ok_lst, ↓ok_lstM, ↓ok_fn, ↓ok_call, ↓ok_callK, ↓ok_noPart, ↓oki, ↓ok_part, ↓ok_sl, ↓oks_next, ↓oks_seq, ↓oks_drop, ↓oks_ret, ↓oks_retN, ↓oks_break, ↓oks_cont, ↓oks_never, ↓oks_if, ↓oks_try, ↓oks_asg, ↓oks_set, ↓ok_gName, ↓ok_gNil, ↓ok_gCons, ↓ok_gTup, ↓ok_gUnl, ↓ok_gSub, ↓okl2, ↓okl3, ↓oks_par, ↓oks_par3, ↓okv0, ↓okvS, ↓oks_aug, ↓ok_append, ↓ok_extend, ↓seqL_lst, ↓ok_strM, ↓ok_def, ↓ok_iSeq, ↓oki1, ↓oki2, ↓ok_range1, ↓ok_range2, ↓oks_for, ↓ok_lc, ↓ok_finL, ↓ok_finM, ↓ok_yes, ↓setg0, ↓setgS, ↓unsetg0, ↓unsetgS, ↓wipeg0, ↓wipegS, ↓initg0, ↓initgN, ↓initgS, ↓lenis0, ↓lenisS, ↓lenle0, ↓lenleS, ↓seqI_lst, ↓seqIE_lst, ↓seqIE_tup, ↓seqIE_scr, ↓seqI_str, ↓okt, ↓ok_kIx, ↓ok_kGet, ↓ok_revS, ↓okd, ↓ok_dGet, ↓o_mulS, ↓seqI_tup, ↓seqI_scr, ↓o_ne_mv, ↓o_eq_mv, ↓ok_enum, ↓okl1, ↓o_mul_rep, ↓o_mul_iiF, cut_2of3, ↓o_ne_2, ↓o_eq_2, ↓o_ne_bb, ↓o_eq_bb, ↓o_tru_b, ↓o_tru_i, ↓o_tru_t, ↓o_tru_l, ↓o_tru_n, ↓o_isn_non, ↓o_isn_int, ↓o_isn_tup, ↓o_isn_lst, ↓o_isn_str, ↓o_is_non, ↓o_is_int, ↓o_is_tup, ↓o_is_lst, ↓o_is_str, ↓o_eq_ii, ↓o_ne_ii, ↓o_add_ii, ↓o_sub_ii, ↓o_mul_ii, ↓o_div_ii, ↓o_mod_ii, ↓o_lt_ii, ↓o_le_ii, ↓o_gt_ii, ↓o_ge_ii, ↓o_add_tt, ↓o_add_ll, ↓o_add_ss, ↓o_divmod_ii, ↓o_neg_i, ↓o_int_i, ↓o_abs_i, ↓o_max_ii, ↓o_max1_3, ↓o_min1_3, ↓o_min_ii, ↓o_len_tup, ↓o_len_lst, ↓o_len_scr, ↓o_slc_lst, ↓o_slc_scr, ↓o_slc_tup, ↓o_tuple_lst, ↓o_tuple_tup, ↓o_tuple_scr, ↓o_list_tup, ↓o_list_lst, ↓o_bool_b, ↓o_isa_int_int, ↓o_isa_int_bool, ↓o_isa_int_tup, ↓o_isa_int_str, ↓o_isa_int_lst, ↓o_isa_bl_int, ↓o_isa_bl_bool, ↓o_isa_tup_tup, ↓o_isa_tup_int, ↓o_isa_tup_lst, ↓o_isa_tup_str, ↓o_isa_str_str, ↓o_isa_str_int, ↓o_isa_str_tup, ↓o_isa_lst_lst, ↓o_isa_lst_tup, ↓o_isa_lst_int, ↓o_isa_non_int, ↓o_isa_non_tup, ↓o_sum_3, ↓o_all_3, ↓o_atI_0, ↓o_atI_1, ↓o_atI_2, ↓o_atI_3, ↓o_atI_4, ↓o_atI_5, ↓o_ixN_30, ↓o_ixN_31, ↓o_ixN_32, ↓o_fix_tup, ↓o_fix_lst, ↓o_fix_scr, ↓o_pow_6, ↓o_pow_18, pick_0, pick_01, pick_10, pick_012, pick_021, pick_102, pick_120, pick_201, pick_210, eq_self, List.cons_append, List.nil_append, List.append_nil, List.set_set, List.set_cons_zero, List.set_cons_succ, List.length_cons, List.length_nil, Nat.zero_add, Nat.reduceAdd, Nat.reduceLeDiff, castN, natabsN, mulOkL, mulOkR, Bool.true_or, Nat.reducePow, Nat.reduceLT, ne_eq, not_true_eq_false, not_false_eq_true, rng_3, rng_2, Int.reduceEq, Int.reduceLT, Int.reduceLE, Int.reduceAdd, Int.reduceSub, Int.reduceMul, Int.reduceNeg, true_and, and_true, if_true, if_false, Bool.false_eq_true, Bool.true_eq_false, decide_true, decide_false, Bool.not_true, Bool.not_false, Bool.and_true, Bool.true_and, Bool.and_false, Bool.false_and])
local macro_rules | `(tactic| simp_arith [$ts,*]) => `(tactic| simp -implicitDefEqProofs only [↓ok_ok, ↓ok_stk, ↓ok_exc, ↓ok_bind, ↓ok_nox, ↓ok_of, ↓ok_lenO, ↓ok_propO, ↓ok_txtO, ↓ok_clsM, ↓ok_tupRg, ↓ok_lstRg, ↓oko_some, ↓oko_none, ↓oko_ite, ↓oko_map, ↓ok_ite, ↓oks_nx, ↓oks_stk, ↓oks_exc, ↓oks_bk, ↓oks_ct, ↓oks_rt, ↓oks_then, ↓oks_thenN, ↓ok_var0, ↓ok_varS, ↓ok_c, ↓ok_bin, ↓ok_un, ↓okb, ↓ok_test, ↓ok_tru, ↓ok_and, ↓ok_or, ↓ok_not, ↓ok_andV, ↓ok_orV, ↓ok_notV, ↓ok_if, ↓ok_ifT, ↓ok_fld, ↓ok_slt, ↓o_slt0, ↓ok_make, ↓ok_makeS, ↓o_isaC, ↓o_isn_ins, ↓o_is_ins, ↓ok_izip, ↓zipR_ll, ↓zipR_tl, ↓zipR_tt, ↓o_parts, ↓o_shares, ↓o_east, ↓o_north, ↓o_rests, zip2, zip3, ↓ok_nil, ↓ok_cons, ↓ok_star, ↓seqA_tup, ↓seqA_lst, ↓ok_revL, ↓ok_revLM, ↓ok_cmp2, ↓ok_tup, ↓ok_lst, ↓ok_lstM, ↓ok_fn, ↓ok_call, ↓ok_callK, ↓ok_noPart, ↓oki, ↓ok_part, ↓ok_sl, ↓oks_next, ↓oks_seq, ↓oks_drop, ↓oks_ret, ↓oks_retN, ↓oks_break, ↓oks_cont, ↓oks_never, ↓oks_if, ↓oks_try, ↓oks_asg, ↓oks_set, ↓ok_gName, ↓ok_gNil, ↓ok_gCons, ↓ok_gTup, ↓ok_gUnl, ↓ok_gSub, ↓okl2, ↓okl3, ↓oks_par, ↓oks_par3, ↓okv0, ↓okvS, ↓oks_aug, ↓ok_append, ↓ok_extend, ↓seqL_lst, ↓ok_strM, ↓ok_def, ↓ok_iSeq, ↓oki1, ↓oki2, ↓ok_range1, ↓ok_range2, ↓oks_for, ↓ok_lc, ↓ok_finL, ↓ok_finM, ↓ok_yes, ↓setg0, ↓setgS, ↓unsetg0, ↓unsetgS, ↓wipeg0, ↓wipegS, ↓initg0, ↓initgN, ↓initgS, ↓lenis0, ↓lenisS, ↓lenle0, ↓lenleS, ↓seqI_lst, ↓seqIE_lst, ↓seqIE_tup, ↓seqIE_scr, ↓seqI_str, ↓okt, ↓ok_kIx, ↓ok_kGet, ↓ok_revS, ↓okd, ↓ok_dGet, ↓o_mulS, ↓seqI_tup, ↓seqI_scr, ↓o_ne_mv, ↓o_eq_mv, ↓ok_enum, ↓okl1, ↓o_mul_rep, ↓o_mul_iiF, cut_2of3, ↓o_ne_2, ↓o_eq_2, ↓o_ne_bb, ↓o_eq_bb, ↓o_tru_b, ↓o_tru_i, ↓o_tru_t, ↓o_tru_l, ↓o_tru_n, ↓o_isn_non, ↓o_isn_int, ↓o_isn_tup, ↓o_isn_lst, ↓o_isn_str, ↓o_is_non, ↓o_is_int, ↓o_is_tup, ↓o_is_lst, ↓o_is_str, ↓o_eq_ii, ↓o_ne_ii, ↓o_add_ii, ↓o_sub_ii, ↓o_mul_ii, ↓o_div_ii, ↓o_mod_ii, ↓o_lt_ii, ↓o_le_ii, ↓o_gt_ii, ↓o_ge_ii, ↓o_add_tt, ↓o_add_ll, ↓o_add_ss, ↓o_divmod_ii, ↓o_neg_i, ↓o_int_i, ↓o_abs_i, ↓o_max_ii, ↓o_max1_3, ↓o_min1_3, ↓o_min_ii, ↓o_len_tup, ↓o_len_lst, ↓o_len_scr, ↓o_slc_lst, ↓o_slc_scr, ↓o_slc_tup, ↓o_tuple_lst, ↓o_tuple_tup, ↓o_tuple_scr, ↓o_list_tup, ↓o_list_lst, ↓o_bool_b, ↓o_isa_int_int, ↓o_isa_int_bool, ↓o_isa_int_tup, ↓o_isa_int_str, ↓o_isa_int_lst, ↓o_isa_bl_int, ↓o_isa_bl_bool, ↓o_isa_tup_tup, ↓o_isa_tup_int, ↓o_isa_tup_lst, ↓o_isa_tup_str, ↓o_isa_str_str, ↓o_isa_str_int, ↓o_isa_str_tup, ↓o_isa_lst_lst, ↓o_isa_lst_tup, ↓o_isa_lst_int, ↓o_isa_non_int, ↓o_isa_non_tup, ↓o_sum_3, ↓o_all_3, ↓o_atI_0, ↓o_atI_1, ↓o_atI_2, ↓o_atI_3, ↓o_atI_4, ↓o_atI_5, ↓o_ixN_30, ↓o_ixN_31, ↓o_ixN_32, ↓o_fix_tup, ↓o_fix_lst, ↓o_fix_scr, ↓o_pow_6, ↓o_pow_18, pick_0, pick_01, pick_10, pick_012, pick_021, pick_102, pick_120, pick_201, pick_210, eq_self, List.cons_append, List.nil_append, List.append_nil, List.set_set, List.set_cons_zero, List.set_cons_succ, List.length_cons, List.length_nil, Nat.zero_add, Nat.reduceAdd, Nat.reduceLeDiff, castN, natabsN, mulOkL, mulOkR, Bool.true_or, Nat.reducePow, Nat.reduceLT, ne_eq, not_true_eq_false, not_false_eq_true, rng_3, rng_2, Int.reduceEq, Int.reduceLT, Int.reduceLE, Int.reduceAdd, Int.reduceSub, Int.reduceMul, Int.reduceNeg, true_and, and_true, if_true, if_false, Bool.false_eq_true, Bool.true_eq_false, decide_true, decide_false, Bool.not_true, Bool.not_false, Bool.and_true, Bool.true_and, Bool.and_false, Bool.false_and, $ts,*])
/-! ### rows -/
abbrev mw (m : FM.Mv) : D := .tup [.int m.x, .int m.y, .int m.s]
structure Rw where
  p : List Int
  sh : List Int
abbrev iL (l : List Int) : List D := l.map D.int
abbrev rowD (r : Rw) : D := .ins "Row" [("parts", .lst (iL r.p)), ("shares", .lst (iL r.sh))]
def addL (c : Int) (a b : List Int) : List Int := List.zipWith (fun x y => x + c * y) a b
def addR (r o : Rw) (c : Int) : Rw := ⟨addL c r.p o.p, addL c r.sh o.sh⟩
theorem add_lc {c : Int} {Γ : Gam} (hΓ : ∃ x y z, Γ = [x, y, some (.int c), z, none, none]) : ∀ (a b : List Int) {μ : Mu} {QL : List D → Mu → Prop}, (∀ y ∈ b, mulOk c y = true) → QL (iL (addL c a b)) μ →
    Ok (lcL (dgTup 2 (dgCons (dgName 4) (dgCons (dgName 5) dgNil))) dYes (dBin fAdd (dVar 4) (dBin fMul (dVar 2) (dVar 5))) Γ (zipD (iL a) (iL b)) μ) QL
  | [], _, μ, QL, _, q => by rw [show zipD (iL []) _ = [] from rfl, ok_lcNil]; exact q
  | _ :: _, [], μ, QL, _, q => by rw [show zipD _ (iL []) = [] from rfl, ok_lcNil]; exact q
  | a :: as, b :: bs, μ, QL, h, q => by
    obtain ⟨x, y, z, rfl⟩ := hΓ
    show Ok (lcL _ _ _ _ (.tup [.int a, .int b] :: zipD (iL as) (iL bs)) μ) QL
    rw [ok_lcConsY]
    simp_arith
    exact ⟨h b (by simp), add_lc ⟨_, _, _, rfl⟩ as bs (fun y hy => h y (by simp [hy])) q⟩
theorem zip_le {α : Type} (a b : List Int) (h : a.length ≤ 1000) : (zipD (iL a) (iL b)).length ≤ 1000000 := by
  rw [zipD_len]; simp; omega
/-! ### rows as vectors -/
def vec (n : Nat) (r : Rw) : FM.Vc := fun i => if i < n then r.p.getD i 0 else r.sh.getD (i - n) 0
theorem addL_getD {c : Int} : ∀ {a b : List Int} (i : Nat), a.length = b.length → (addL c a b).getD i 0 = a.getD i 0 + c * b.getD i 0
  | [], [], i, _ => by simp [addL]
  | [], _ :: _, _, h => by cases h
  | _ :: _, [], _, h => by cases h
  | a :: as, b :: bs, 0, _ => by simp [addL]
  | a :: as, b :: bs, i + 1, h => by
    have := addL_getD (c := c) (a := as) (b := bs) i (by simpa using h)
    simp only [addL, List.zipWith_cons_cons, List.getD_cons_succ]
    exact this
theorem addL_len {c : Int} {a b : List Int} (h : a.length = b.length) : (addL c a b).length = a.length := by simp [addL, h]
theorem addL_mem {c : Int} : ∀ {a b : List Int} {x : Int}, x ∈ addL c a b → ∃ u ∈ a, ∃ v ∈ b, x = u + c * v
  | [], _, x, h => by simp [addL] at h
  | _ :: _, [], x, h => by simp [addL] at h
  | a :: as, b :: bs, x, h => by
    simp only [addL, List.zipWith_cons_cons, List.mem_cons] at h
    rcases h with rfl | h
    · exact ⟨a, by simp, b, by simp, rfl⟩
    · obtain ⟨u, hu, v, hv, e⟩ := addL_mem (c := c) (a := as) (b := bs) h
      exact ⟨u, by simp [hu], v, by simp [hv], e⟩
def Wf (n k : Nat) (r : Rw) : Prop := r.p.length = n ∧ r.sh.length = k
theorem Wf.add {n k : Nat} {r o : Rw} {c : Int} (h : Wf n k r) (h' : Wf n k o) : Wf n k (addR r o c) := ⟨(addL_len (h.1.trans h'.1.symm)).trans h.1, (addL_len (h.2.trans h'.2.symm)).trans h.2⟩
theorem vec_add {n k : Nat} {r o : Rw} {c : Int} (h : Wf n k r) (h' : Wf n k o) : vec n (addR r o c) = FM.va (vec n r) (vec n o) c := by
  funext i
  simp only [vec, FM.va, addR]
  split
  · exact addL_getD i (h.1.trans h'.1.symm)
  · exact addL_getD _ (h.2.trans h'.2.symm)
def BdN (M : Nat) (r : Rw) : Prop := ∀ x, (x ∈ r.p ∨ x ∈ r.sh) → x.natAbs ≤ M
theorem BdN.mono {M N : Nat} {r : Rw} (h : BdN M r) (l : M ≤ N) : BdN N r := fun x hx => Nat.le_trans (h x hx) l
theorem natAbs_add_mul (u c v : Int) {M N : Nat} (h : u.natAbs ≤ M) (h' : v.natAbs ≤ N) : (u + c * v).natAbs ≤ M + c.natAbs * N := by
  have h1 := Int.natAbs_add_le u (c * v)
  rw [Int.natAbs_mul] at h1
  have h2 := Nat.mul_le_mul_left c.natAbs h'
  omega
theorem BdN.add {M N : Nat} {r o : Rw} {c : Int} (h : BdN M r) (h' : BdN N o) : BdN (M + c.natAbs * N) (addR r o c) := by
  rintro x (hx | hx)
  · obtain ⟨u, hu, v, hv, rfl⟩ := addL_mem hx
    exact natAbs_add_mul _ _ _ (h u (.inl hu)) (h' v (.inl hv))
  · obtain ⟨u, hu, v, hv, rfl⟩ := addL_mem hx
    exact natAbs_add_mul _ _ _ (h u (.inr hu)) (h' v (.inr hv))
theorem o_at {p : List Int} {t : Nat} {P : D → Prop} (h : t < p.length) : OkO (L2.atI (iL p) (t : Int)) P = P (.int (p.getD t 0)) := by
  rw [Ar.atI_nat, List.getElem?_map, List.getElem?_eq_getElem h]
  simp [List.getD, h, OkO]
def optD : Option Rw → D
  | none => .non
  | some r => rowD r
theorem at_add {n k t : Nat} {r o : Rw} {c : Int} (h : Wf n k r) (h' : Wf n k o) : (addR r o c).p.getD t 0 = r.p.getD t 0 + c * o.p.getD t 0 := addL_getD t (h.1.trans h'.1.symm)
theorem dg_le {W e : Nat} {x : Int} (h : x.natAbs ≤ W) (hw : W < 16 ^ e) : Dg e x := Nat.lt_of_le_of_lt h hw
theorem pow_up {a b : Nat} (h : a ≤ b) : 16 ^ a ≤ 16 ^ b := Nat.pow_le_pow_right (by decide) h
theorem w_le {a b : Nat} : 4 * (16 ^ a * 16 ^ b) ≤ 16 ^ (a + b + 1) := by
  rw [Nat.pow_succ, Nat.pow_add]
  omega
/-! ### led -/
theorem o_place' {μ : Mu} {n : Nat} {ds : List D} (h : μ[n]? = some (.lst ds)) {P : Nat × List D → Prop} : OkO (placeL μ (.loc n)) P = P (n, ds) := o_place h
theorem last_at {ν : Mu} {o : MO} : (ν ++ [o])[ν.length]? = some o := by simp
theorem last_set {ν : Mu} {o o' : MO} : (ν ++ [o]).set ν.length o' = ν ++ [o'] := by simp
def zeroR (r : Rw) : Rw := ⟨r.p.map fun _ => 0, r.sh.map fun _ => 0⟩
theorem zero_lc {Γ : Gam} {j : Nat} (hj : ∃ G : D → Gam, ∀ (Q : Gam → Prop) (d : D), SetG Γ j d Q = Q (G d)) : ∀ (p : List Int) {μ : Mu} {QL : List D → Mu → Prop}, QL (iL (p.map fun _ => 0)) μ → Ok (lcL (dgName j) dYes (dC (.int 0)) Γ (iL p) μ) QL
  | [], μ, QL, q => by rw [show iL [] = [] from rfl, ok_lcNil]; exact q
  | a :: as, μ, QL, q => by
    obtain ⟨G, hG⟩ := hj
    show Ok (lcL _ _ _ _ (.int a :: iL as) μ) QL
    rw [ok_lcConsY]
    simp_arith [hG]
    exact zero_lc ⟨G, hG⟩ as q
theorem SpEq_mem {A B : List FM.Vc} (h : ∀ r, r ∈ A ↔ r ∈ B) : FM.SpEq A B := FM.SpEq.perm h
theorem vec_neg {n k : Nat} {r : Rw} (h : Wf n k r) : vec n (addR (zeroR r) r (-1)) = FM.va FM.vz (vec n r) (-1) := by
  have hz : Wf n k (zeroR r) := ⟨by simp [zeroR, h.1], by simp [zeroR, h.2]⟩
  rw [vec_add hz h]
  congr 1
  funext i
  have g : ∀ (l : List Int) (j : Nat), (l.map fun _ => (0 : Int)).getD j 0 = 0 := by
    intro l j
    simp only [List.getD, List.getElem?_map]
    cases l[j]? <;> rfl
  simp only [vec, zeroR, FM.vz]
  split <;> exact g _ _
/-! ### the shape -/
abbrev pairD (m : FM.Mv) : D := .tup [.int m.x, .int m.y]
def unitL (k o : Nat) : List Int := (List.range k).map fun i => if i = o then 1 else 0
def rowsR (k : Nat) : Nat → List FM.Mv → List Rw
  | _, [] => []
  | o, m :: ms => ⟨[m.x, m.y], unitL k o⟩ :: rowsR k (o + 1) ms
theorem unit_lc {o : Nat} : ∀ (l : List Nat) {g0 : Option D} {μ : Mu} {QL : List D → Mu → Prop}, QL (iL (l.map fun i => if i = o then 1 else 0)) μ → Ok (lcL (dgName 2) dYes (dIf (dTest (dBin fEq (dVar 2) (dVar 1))) (dC (.int 1)) (dC (.int 0))) [g0, some (.int o), none] (l.map fun (i : Nat) => D.int i) μ) QL
  | [], g0, μ, QL, q => by rw [show ([] : List Nat).map (fun (i : Nat) => D.int i) = [] from rfl, ok_lcNil]; exact q
  | a :: as, g0, μ, QL, q => by
    show Ok (lcL _ _ _ _ (.int a :: as.map fun (i : Nat) => D.int i) μ) QL
    rw [ok_lcConsY]
    simp_arith
    by_cases h : a = o
    · rw [if_pos (decide_eq_true (show (a : Int) = o by omega))]
      refine unit_lc as ?_
      simpa [h] using q
    · rw [if_neg (by simpa using (show ¬ (a : Int) = o by omega))]
      refine unit_lc as ?_
      simpa [h] using q
theorem enum_cons {o : Nat} {d : D} {ds : List D} : enumD o (d :: ds) = .tup [.int (o : Nat), d] :: enumD (o + 1) ds := rfl
theorem vec_row {k o : Nat} {m : FM.Mv} (h : o < k) : vec 2 ⟨[m.x, m.y], unitL k o⟩ = FM.row o m := by
  funext i
  match i with
  | 0 => rfl
  | 1 => rfl
  | i + 2 =>
    simp only [vec, FM.row]
    rw [if_neg (by omega), if_neg (by omega), if_neg (by omega), show i + 2 - 2 = i by omega]
    simp only [unitL, List.getD, List.getElem?_map]
    by_cases hi : i < k
    · rw [List.getElem?_range hi]
      by_cases e : i = o <;> simp [e]
    · rw [List.getElem?_eq_none (by simp; omega), if_neg (by omega)]
      rfl
theorem rows_vec {k : Nat} : ∀ (ms : List FM.Mv) (o : Nat), o + ms.length ≤ k → (rowsR k o ms).map (vec 2) = FM.rowsFrom o ms
  | [], _, _ => rfl
  | m :: ms, o, h => by
    rw [List.length_cons] at h
    show vec 2 _ :: (rowsR k (o + 1) ms).map (vec 2) = FM.row o m :: _
    rw [vec_row (by omega), rows_vec ms (o + 1) (by omega)]
theorem rowsR_mem {k : Nat} : ∀ {ms : List FM.Mv} {o : Nat} {r : Rw}, r ∈ rowsR k o ms → ∃ m ∈ ms, ∃ j, r = ⟨[m.x, m.y], unitL k j⟩
  | [], _, r, h => by cases h
  | m :: ms, o, r, h => by
    rcases List.mem_cons.mp h with rfl | h
    · exact ⟨m, by simp, o, rfl⟩
    · obtain ⟨m', h1, j, rfl⟩ := rowsR_mem h
      exact ⟨m', by simp [h1], j, rfl⟩
theorem rowsR_len {k : Nat} : ∀ (ms : List FM.Mv) (o : Nat), (rowsR k o ms).length = ms.length
  | [], _ => rfl
  | _ :: ms, o => by show (rowsR k (o + 1) ms).length + 1 = _; rw [rowsR_len ms]; rfl
abbrev shD (r : Rw) : D := .lst (iL r.sh)
abbrev shapeD (E N : Option Rw) (rs : List Rw) : D := .ins "Shape" [("east", optD E), ("north", optD N), ("rests", .lst (rs.map shD))]
theorem rests_lc {Γ : Gam} (hΓ : ∃ a b c d e f g h, Γ = [a, b, c, d, e, f, g, h, none]) : ∀ (rs : List Rw) {μ : Mu} {QL : List D → Mu → Prop}, QL (rs.map shD) μ → Ok (lcL (dgName 8) dYes (dFld "Row" "shares" (dVar 8)) Γ (rs.map rowD) μ) QL
  | [], μ, QL, q => by rw [show ([] : List Rw).map rowD = [] from rfl, ok_lcNil]; exact q
  | r :: rs, μ, QL, q => by
    obtain ⟨a, b, c, d, e, f, g, h, rfl⟩ := hΓ
    rw [List.map_cons, ok_lcConsY]
    simp_arith
    exact rests_lc ⟨_, _, _, _, _, _, _, _, rfl⟩ rs q
/-- how great the rows of a shape are -/
structure ShpOk (k : Nat) (E N : Option Rw) (rs : List Rw) : Prop where
  e : ∀ r, E = some r → Wf 2 k r ∧ BdN (16 ^ 1200) r ∧ (r.p.getD 0 0).natAbs ≤ 16 ^ 25
  n : ∀ r, N = some r → Wf 2 k r ∧ BdN (16 ^ 935) r ∧ (r.p.getD 1 0).natAbs ≤ 16 ^ 155
  r : ∀ r ∈ rs, Wf 2 k r ∧ BdN (16 ^ 935) r
  l : rs.length ≤ 5
  en : ∀ r s, E = some r → N = some s → 0 ≤ r.p.getD 1 0 ∧ r.p.getD 1 0 < s.p.getD 1 0
theorem seq_loc {μ : Mu} {j : Nat} {ds : List D} {QL : List D → Mu → Prop} (h : μ[j]? = some (.lst ds)) (q : QL ds (μ.set j (.frz ds))) : Ok (seqI (.loc j) μ) QL := by
  unfold seqI
  simp only [h]
  exact q
theorem set_two {μ : Mu} {a b o : MO} : (μ ++ [a] ++ [b]).set μ.length o = μ ++ [o] ++ [b] := by simp
theorem get_two {μ : Mu} {a b : MO} : (μ ++ [a] ++ [b])[μ.length]? = some a := by simp
theorem len_one {μ : Mu} {a : MO} : (μ ++ [a]).length = μ.length + 1 := by simp
theorem opt_mem {L : Option Rw} {v : FM.Vc} : v ∈ (L.map (vec 2)).toList ↔ ∃ l, L = some l ∧ v = vec 2 l := by
  cases L <;> simp [eq_comm]
theorem vec_0 {r : Rw} {k : Nat} (h : Wf 2 k r) : vec 2 r 0 = r.p.getD 0 0 := rfl
theorem vec_1 {r : Rw} : vec 2 r 1 = r.p.getD 1 0 := rfl
/-! ### presses -/
def sv (l : List Int) : FM.Vc := fun j => l.getD j 0
theorem tl_vec {r : Rw} : FM.tl (vec 2 r) = sv r.sh := by
  funext j
  show (if j + 2 < 2 then r.p.getD (j + 2) 0 else r.sh.getD (j + 2 - 2) 0) = _
  rw [if_neg (by omega)]
  rfl
theorem sv_cons {a : Int} {l : List Int} : (fun j => sv (a :: l) (j + 1)) = sv l := rfl
structure Dm2 (a b : Nat) (m : FM.Mv) : Prop where
  x : Dg a m.x
  y : Dg a m.y
  s : Dg b m.s
theorem Dm2.mono {a b c d : Nat} {m : FM.Mv} (h : Dm2 a b m) (h1 : a ≤ c) (h2 : b ≤ d) : Dm2 c d m := ⟨h.x.mono h1, h.y.mono h1, h.s.mono h2⟩
theorem Dm2.pow {a b M : Nat} {m : FM.Mv} {n : Int} (h : Dm2 a b m) (hn : Dg M n) (hM : 1 ≤ M) : Dm2 (M + a) (max (M + b) (M + (M + 1) + a + a) + 1) (FM.pow m n) := by
  have h1 : Dg (M + 1) (n - 1) := (hn.sub (Dg.lit (by decide) (by decide) : Dg 1 (1 : Int))).mono (by omega)
  exact ⟨hn.mul h.x, hn.mul h.y, (hn.mul h.s).add (((hn.mul h1).half.mul h.x).mul h.y)⟩
theorem Dm2.mul {a b c d : Nat} {m k : FM.Mv} (h : Dm2 a b m) (h' : Dm2 c d k) : Dm2 (max a c + 1) (max (max b d + 1) (a + c) + 1) (FM.mul m k) := ⟨h.x.add h'.x, h.y.add h'.y, (h.s.add h'.s).add (h.x.mul h'.y)⟩
theorem press_dm {M : Nat} (h1 : 1 ≤ M) : ∀ (ms : List FM.Mv) (sh : List Int), (∀ m ∈ ms, Dm2 25 25 m) → (∀ n ∈ sh, Dg M n) → sh.length = ms.length → Dm2 (M + 26 + ms.length) (2 * M + 80 + 2 * ms.length) (FM.press ms (sv sh))
  | [], sh, _, _, _ => ⟨(Dg.lit (by decide) (by omega) : Dg _ (0 : Int)), (Dg.lit (by decide) (by omega) : Dg _ (0 : Int)), (Dg.lit (by decide) (by omega) : Dg _ (0 : Int))⟩
  | m :: ms, [], _, _, h => by cases h
  | m :: ms, n :: sh, hm, hn, hl => by
    have ih := press_dm h1 ms sh (fun x hx => hm x (by simp [hx])) (fun x hx => hn x (by simp [hx])) (by simpa using hl)
    have dp := (hm m (by simp)).pow (hn n (by simp)) h1
    exact (dp.mul ih).mono (by simp; omega) (by simp; omega)
/-! ### combined, as in law k21 (greater numbers) -/
theorem gcd_step (x y : Nat) : Nat.gcd y (x % y) = Nat.gcd x y := by
  rw [Nat.gcd_comm y, ← Nat.gcd_rec, Nat.gcd_comm]
theorem bez_step {A S S2 k g0 g1 g2 B : Nat} (h : S2 ≤ A + k * S) (e : g0 = k * g1 + g2) (h2 : A * g1 + S * g0 ≤ B) : S2 * g1 + S * g2 ≤ B := by
  have h3 := Nat.mul_le_mul_right g1 h
  have e2 : (A + k * S) * g1 + S * g2 = A * g1 + S * (k * g1 + g2) := by grind
  rw [← e] at e2
  omega
theorem abs_step (s u : Int) (k : Nat) : (s - k * u).natAbs ≤ s.natAbs + k * u.natAbs := by
  have := Int.natAbs_sub_le s (k * u)
  rw [Int.natAbs_mul, Int.natAbs_natCast] at this
  exact this
theorem bez_small {S g1 g2 S1 B : Nat} (h : S * g1 + S1 * g2 ≤ B) (hg : 0 < g1) : S ≤ B + 1 := by
  have := Nat.mul_le_mul_left S hg
  omega
theorem fdivN (x y : Nat) : (x : Int).fdiv (y : Int) = ((x / y : Nat) : Int) := by
  rw [Int.fdiv_eq_ediv_of_nonneg _ (by omega), Int.natCast_ediv]
/-- the multiples that the program's loop tells -/
def egc (g0 : Nat) (s0 t0 : Int) (g1 : Nat) (s1 t1 : Int) : Int × Int := if h : g1 = 0 then (s0, t0) else egc g1 s1 t1 (g0 % g1) (s0 - ((g0 / g1 : Nat) : Int) * s1) (t0 - ((g0 / g1 : Nat) : Int) * t1)
termination_by g1
decreasing_by exact Nat.mod_lt _ (Nat.pos_of_ne_zero h)
theorem egc_step {g0 g1 : Nat} {s0 t0 s1 t1 : Int} (h : 0 < g1) : egc g0 s0 t0 g1 s1 t1 = egc g1 s1 t1 (g0 % g1) (s0 - ((g0 / g1 : Nat) : Int) * s1) (t0 - ((g0 / g1 : Nat) : Int) * t1) := by
  rw [egc, dif_neg (by omega)]
theorem egc_end {g0 : Nat} {s0 t0 s1 t1 : Int} : egc g0 s0 t0 0 s1 t1 = (s0, t0) := by
  rw [egc, dif_pos rfl]
def exG (a b : Nat) : Int := (egc a 1 0 b 0 1).1
def eyG (a b : Nat) : Int := (egc a 1 0 b 0 1).2
/-! ### pairs, areas -/
abbrev ipD (p : Nat × Nat) : D := .tup [.int (p.1 : Nat), .int (p.2 : Nat)]
theorem low_lc {h : Nat} : ∀ (l : List Nat) {g0 g1 : Option D} {μ : Mu} {QL : List D → Mu → Prop}, QL (l.map fun i => ipD (i, h)) μ → Ok (lcL (dgName 3) dYes (dTup (daCons (dVar 3) (daCons (dVar 2) (daNil)))) [g0, g1, some (.int h), none] (l.map fun (i : Nat) => D.int i) μ) QL
  | [], _, _, μ, QL, q => by rw [show ([] : List Nat).map (fun (i : Nat) => D.int i) = [] from rfl, ok_lcNil]; exact q
  | a :: as, _, _, μ, QL, q => by
    show Ok (lcL _ _ _ _ (.int a :: as.map fun (i : Nat) => D.int i) μ) QL
    rw [ok_lcConsY]
    simp_arith
    exact low_lc as q
/-! ### the step -/
theorem zg_mul {ms : List FM.Mv} {x : Int} (h : FM.Gen ms ⟨0, 0, x⟩) (c : Int) : FM.Gen ms ⟨0, 0, c * x⟩ := by
  have := (FM.Gen.grp ms).pow h c
  have e : FM.pow ⟨0, 0, x⟩ c = ⟨0, 0, c * x⟩ := by refine FM.Mv.ext' ?_ ?_ ?_ <;> simp [FM.pow]
  rw [← e]; exact this
theorem zg_add {ms : List FM.Mv} {x y : Int} (h : FM.Gen ms ⟨0, 0, x⟩) (h' : FM.Gen ms ⟨0, 0, y⟩) : FM.Gen ms ⟨0, 0, x + y⟩ := by
  have := (FM.Gen.grp ms).m _ _ h h'
  have e : FM.mul ⟨0, 0, x⟩ ⟨0, 0, y⟩ = ⟨0, 0, x + y⟩ := by refine FM.Mv.ext' ?_ ?_ ?_ <;> simp [FM.mul]
  rw [← e]; exact this
theorem scale_lc {g0 g1 g2 g3 g4 g6 : Option D} {c : Int} : ∀ (l : List Int) {μ : Mu} {QL : List D → Mu → Prop}, (∀ y ∈ l, mulOk c y = true) → QL (iL (l.map fun y => c * y)) μ → Ok (lcL (dgName 7) dYes (dBin fMul (dVar 5) (dVar 7)) [g0, g1, g2, g3, g4, some (.int c), g6, none] (iL l) μ) QL
  | [], μ, QL, _, q => by rw [show iL [] = [] from rfl, ok_lcNil]; exact q
  | a :: as, μ, QL, h, q => by
    show Ok (lcL _ _ _ _ (.int a :: iL as) μ) QL
    rw [ok_lcConsY]
    simp_arith
    exact ⟨h a (by simp), scale_lc as (fun y hy => h y (by simp [hy])) q⟩
theorem Dg.gcd {a b : Nat} {e : Nat} (ha : Dg e (a : Int)) (hb : Dg e (b : Int)) : Dg e ((Nat.gcd a b : Nat) : Int) := by
  by_cases h : a = 0
  · subst h
    rw [Nat.gcd_zero_left]; exact hb
  · have := Nat.gcd_le_left b (Nat.pos_of_ne_zero h)
    exact Nat.lt_of_le_of_lt (show ((Nat.gcd a b : Nat) : Int).natAbs ≤ (a : Int).natAbs by omega) ha
theorem abs_nat (a : Int) : (if a < 0 then -a else a) = ((a.natAbs : Nat) : Int) := by split <;> omega
theorem app_get {μ ν : Mu} {j : Nat} {o : MO} (h : μ[j]? = some o) : (μ ++ ν)[j]? = some o := by
  rw [List.getElem?_append_left (List.getElem?_eq_some_iff.mp h).1]; exact h
/-! ### forms -/
abbrev tripD (e n : D) (g : Int) : D := .tup [e, n, .int g]
def optM : Option FM.Mv → D
  | none => .tup []
  | some m => mw m
abbrev formD (e n : Option FM.Mv) (g : Nat) : D := .tup [optM e, optM n, .int (g : Int)]
structure FormOk (ms : List FM.Mv) (e n : Option FM.Mv) (g : Nat) : Prop where
  gen : ∀ m, FM.Gen ms m ↔ ∃ a b, m.x = (FM.led e n a b).x ∧ m.y = (FM.led e n a b).y ∧ (g : Int) ∣ m.s - (FM.led e n a b).s
  eo : ∀ m, e = some m → 0 < m.x ∧ (g ≠ 0 → 0 ≤ m.s ∧ m.s < g) ∧ Dm2 1201 2600 m ∧ m.x.natAbs ≤ 16 ^ 25
  no : ∀ m, n = some m → m.x = 0 ∧ 0 < m.y ∧ (g ≠ 0 → 0 ≤ m.s ∧ m.s < g) ∧ Dm2 1201 2600 m ∧ m.y.natAbs ≤ 16 ^ 155
  eno : ∀ m k, e = some m → n = some k → 0 ≤ m.y ∧ m.y < k.y
  dg : Dg 1985 (g : Int)
theorem o_eq_tn {μ : Mu} {a b c : Int} {P : D → Prop} : OkO (fEq μ (.tup [.int a, .int b, .int c]) (.tup [])) P = P (.bl false) := id rfl
theorem o_eq_nn {μ : Mu} {P : D → Prop} : OkO (fEq μ (.tup []) (.tup [])) P = P (.bl true) := id rfl
theorem pairs_lc {g0 g1 g2 : Option D} : ∀ (ms : List FM.Mv) {μ : Mu} {QL : List D → Mu → Prop}, QL (ms.map pairD) μ → Ok (lcL (dgName 3) dYes (dSl (dVar 3) (dNoPart) (dPart (dC (.int 2)))) [g0, g1, g2, none] (ms.map mw) μ) QL
  | [], μ, QL, q => by rw [show ([] : List FM.Mv).map mw = [] from rfl, ok_lcNil]; exact q
  | m :: ms, μ, QL, q => by
    rw [List.map_cons, ok_lcConsY]
    simp_arith
    exact pairs_lc ms q
theorem Gr_app {m : Nat} {μ ν : Mu} : Gr m μ (μ ++ ν) := ⟨by simp, fun j o _ e => app_get e⟩
/-- buttons: one to five, each of at most 10 ** 30 either way -/
structure Btn (ms : List FM.Mv) : Prop where
  ne : ms ≠ []
  le : ms.length ≤ 5
  b : ∀ m ∈ ms, m.x.natAbs ≤ 10 ^ 30 ∧ m.y.natAbs ≤ 10 ^ 30 ∧ m.s.natAbs ≤ 10 ^ 30
theorem p30 : (10 : Nat) ^ 30 < 16 ^ 25 := by decide
theorem Btn.dm {ms : List FM.Mv} (h : Btn ms) : ∀ m ∈ ms, Dm2 25 25 m := fun m hm => ⟨dg_le (h.b m hm).1 p30, dg_le (h.b m hm).2.1 p30, dg_le (h.b m hm).2.2 p30⟩
/-! ### what a form tells -/
theorem fdiv_of {x E : Int} (h0 : 0 < E) (h : x.fmod E = 0) : x.fdiv E * E = x := by
  have := Int.fdiv_mul_add_fmod x E
  omega
theorem fmod_of {x E a : Int} (h0 : 0 < E) (h : x = a * E) : x.fmod E = 0 := by
  rw [h, Int.fmod_eq_emod_of_nonneg _ (by omega), Int.mul_emod_left]
theorem fdiv_mul {a E : Int} (h0 : 0 < E) : (a * E).fdiv E = a := by
  rw [Int.fdiv_eq_ediv_of_nonneg _ (by omega), Int.mul_ediv_cancel _ (by omega)]
/-- the shares that come to the steps of a move, if any; then how far the area is off -/
structure ShRes (e n : Option FM.Mv) (x y : Int) (r : Option (Int × Int)) : Prop where
  so : ∀ a b, r = some (a, b) → x = (FM.led e n a b).x ∧ y = (FM.led e n a b).y ∧ (∀ a' b', x = (FM.led e n a' b').x → y = (FM.led e n a' b').y → FM.led e n a' b' = FM.led e n a b)
  no : r = none → ∀ a b, ¬ (x = (FM.led e n a b).x ∧ y = (FM.led e n a b).y)
def shrD : Option (Int × Int) → D
  | none => .non
  | some p => .tup [.int p.1, .int p.2]
theorem dg_fdiv {x E : Int} {a : Nat} (h : Dg a x) (h0 : 0 < E) : Dg a (x.fdiv E) := h.fdiv h0
theorem led_nn {a b : Int} : FM.led none none a b = FM.one := by simp [FM.led, FM.pow, FM.mul, FM.one]
theorem led_en {m : FM.Mv} {a b : Int} : FM.led (some m) none a b = FM.pow m a := by
  refine FM.Mv.ext' ?_ ?_ ?_ <;> simp [FM.led, FM.pow, FM.mul, FM.one]
theorem led_ne {m : FM.Mv} {a b : Int} : FM.led none (some m) a b = FM.pow m b := by
  refine FM.Mv.ext' ?_ ?_ ?_ <;> simp [FM.led, FM.pow, FM.mul, FM.one]
/-! ### lots -/
abbrev lotD (ms : List FM.Mv) : D := .slt "Lot" [.tup (ms.map mw)]
theorem isnum_spec {i : Int} {μ : Mu} {Q : D → Mu → Prop} (q : Q (.bl true) μ) : Ok (m_is_integer [.int i] μ) Q := by
  unfold m_is_integer
  simp_arith
  exact q
theorem ismv_spec {t : FM.Mv} {μ : Mu} {Q : D → Mu → Prop} (q : Q (.bl true) μ) : Ok (m_is_move [mw t] μ) Q := by
  unfold m_is_move
  simp_arith [↓ok_lcConsY, ↓ok_lcNil]
  refine isnum_spec ?_
  refine isnum_spec ?_
  refine isnum_spec ?_
  simp_arith
  exact q
theorem isbutton_spec {t : FM.Mv} {μ : Mu} {Q : D → Mu → Prop} (h : t.x.natAbs ≤ 10 ^ 30 ∧ t.y.natAbs ≤ 10 ^ 30 ∧ t.s.natAbs ≤ 10 ^ 30) (q : Q (.bl true) μ) : Ok (m_is_button [mw t] μ) Q := by
  have hx : ∀ x : Int, x.natAbs ≤ 10 ^ 30 → decide ((if x < 0 then -x else x) ≤ 1000000000000000000000000000000) = true := fun x hx => decide_eq_true (by split <;> omega)
  unfold m_is_button
  simp_arith
  refine ismv_spec ?_
  simp_arith [↓ok_lcConsY, ↓ok_lcNil, hx _ h.1, hx _ h.2.1, hx _ h.2.2]
  exact q
theorem wrong_loop {g0 : Option D} : ∀ (ms : List FM.Mv) (o : Nat) {x1 x2 : Option D} {μ : Mu} {N B C : Gam → Mu → Prop} {T : D → Mu → Prop}, o + ms.length ≤ 5 → (∀ m ∈ ms, m.x.natAbs ≤ 10 ^ 30 ∧ m.y.natAbs ≤ 10 ^ 30 ∧ m.s.natAbs ≤ 10 ^ 30) → (∀ x1 x2, N [g0, x1, x2] μ) →
    OkS (forL (dgTup 2 (dgCons (dgName 1) (dgCons (dgName 2) (dgNil)))) (dIfS (dOr (dTest (dBin fEq (dVar 1) (dC (.int 5)))) (dNot (dTru (dCall m_is_button (daCons (dVar 2) (daNil)))))) (dRet (dVar 1)) (dsNext)) (enumD o (ms.map mw)) [g0, x1, x2] μ) N B C T
  | [], _, x1, x2, μ, N, B, C, T, _, _, q => q x1 x2
  | m :: ms, o, x1, x2, μ, N, B, C, T, hl, hb, q => by
    rw [List.map_cons, enum_cons, oks_forCons]
    simp only [List.length_cons] at hl
    have d : decide ((o : Int) = 5) = false := decide_eq_false (by omega)
    simp_arith [d]
    refine isbutton_spec (hb m (by simp)) ?_
    try simp_arith
    exact wrong_loop ms (o + 1) (by omega) (fun m hm => hb m (by simp [hm])) q
theorem wrong_spec {ms : List FM.Mv} {μ : Mu} {Q : D → Mu → Prop} (h : Btn ms) (q : Q .non μ) : Ok (m_wrong_button [.tup (ms.map mw)] μ) Q := by
  have hl : 0 < ms.length := List.length_pos_iff.mpr h.ne
  unfold m_wrong_button
  simp_arith [List.length_map]
  have d : decide ((ms.length : Int) = 0) = false := decide_eq_false (by omega)
  simp_arith [d]
  refine wrong_loop ms 0 (by have := h.le; omega) h.b fun x1 x2 => ?_
  try simp_arith
  exact q
end A18

set_option Elab.async false
set_option linter.all false
set_option maxRecDepth 100000
set_option maxHeartbeats 600000
set_option exponentiation.threshold 10000
namespace A18
open PySem PySem.Spec PyProof.Rows L2 Ar TL
local macro_rules | `(tactic| simp_arith) => `(tactic| simp -implicitDefEqProofs only [↓ok_ok, ↓ok_stk, ↓ok_exc, ↓ok_bind, ↓ok_nox, ↓ok_of, ↓ok_lenO, ↓ok_propO, ↓ok_txtO, ↓ok_clsM, ↓ok_tupRg, ↓ok_lstRg, ↓oko_some, ↓oko_none, ↓oko_ite, ↓oko_map, ↓ok_ite, ↓oks_nx, ↓oks_stk, ↓oks_exc, ↓oks_bk, ↓oks_ct, ↓oks_rt, ↓oks_then, ↓oks_thenN, ↓ok_var0, ↓ok_varS, ↓ok_c, ↓ok_bin, ↓ok_un, ↓okb, ↓ok_test, ↓ok_tru, ↓ok_and, ↓ok_or, ↓ok_not, ↓ok_andV, ↓ok_orV, ↓ok_notV, ↓ok_if, ↓ok_ifT, ↓ok_fld, ↓ok_slt, ↓o_slt0, ↓ok_make, ↓ok_makeS, ↓o_isaC, ↓o_isn_ins, ↓o_is_ins, ↓ok_izip, ↓zipR_ll, ↓zipR_tl, ↓zipR_tt, ↓o_parts, ↓o_shares, ↓o_east, ↓o_north, ↓o_rests, zip2, zip3, ↓ok_nil, ↓ok_cons, ↓ok_star, ↓seqA_tup, ↓seqA_lst, ↓ok_revL, ↓ok_revLM, ↓ok_cmp2, ↓ok_tup, ↓ok_lst, ↓ok_lstM, ↓ok_fn, ↓ok_call, ↓ok_callK, ↓ok_noPart, ↓oki, ↓ok_part, ↓ok_sl, ↓oks_next, ↓oks_seq, ↓oks_drop, ↓oks_ret, ↓oks_retN, ↓oks_break, ↓oks_cont, ↓oks_never, ↓oks_if, ↓oks_try, ↓oks_asg, ↓oks_set, ↓ok_gName, ↓ok_gNil, ↓ok_gCons, ↓ok_gTup, ↓ok_gUnl, ↓ok_gSub, ↓okl2, ↓okl3, ↓oks_par, ↓oks_par3, ↓okv0, ↓okvS, ↓oks_aug, ↓ok_append, ↓ok_extend, ↓seqL_lst, ↓ok_strM, ↓ok_def, ↓ok_iSeq, ↓oki1, ↓oki2, ↓ok_range1, ↓ok_range2, ↓oks_for, ↓ok_lc, ↓ok_finL, ↓ok_finM, ↓ok_yes, ↓setg0, ↓setgS, ↓unsetg0, ↓unsetgS, ↓wipeg0, ↓wipegS, ↓initg0, ↓initgN, ↓initgS, ↓lenis0, ↓lenisS, ↓lenle0, ↓lenleS, ↓seqI_lst, ↓seqIE_lst, ↓seqIE_tup, ↓seqIE_scr, ↓seqI_str, ↓okt, ↓ok_kIx, ↓ok_kGet, ↓ok_revS, ↓okd, ↓ok_dGet, ↓o_mulS, ↓seqI_tup, ↓seqI_scr, ↓o_ne_mv, ↓o_eq_mv, ↓ok_enum, ↓okl1, ↓o_mul_rep, ↓o_mul_iiF, cut_2of3, ↓o_ne_2, ↓o_eq_2, ↓o_ne_bb, ↓o_eq_bb, ↓o_tru_b, ↓o_tru_i, ↓o_tru_t, ↓o_tru_l, ↓o_tru_n, ↓o_isn_non, ↓o_isn_int, ↓o_isn_tup, ↓o_isn_lst, ↓o_isn_str, ↓o_is_non, ↓o_is_int, ↓o_is_tup, ↓o_is_lst, ↓o_is_str, ↓o_eq_ii, ↓o_ne_ii, ↓o_add_ii, ↓o_sub_ii, ↓o_mul_ii, ↓o_div_ii, ↓o_mod_ii, ↓o_lt_ii, ↓o_le_ii, ↓o_gt_ii, ↓o_ge_ii, ↓o_add_tt, ↓o_add_ll, ↓o_add_ss, ↓o_divmod_ii, ↓o_neg_i, ↓o_int_i, ↓o_abs_i, ↓o_max_ii, ↓o_max1_3, ↓o_min1_3, ↓o_min_ii, ↓o_len_tup, ↓o_len_lst, ↓o_len_scr, ↓o_slc_lst, ↓o_slc_scr, ↓o_slc_tup, ↓o_tuple_lst, ↓o_tuple_tup, ↓o_tuple_scr, ↓o_list_tup, ↓o_list_lst, ↓o_bool_b, ↓o_isa_int_int, ↓o_isa_int_bool, ↓o_isa_int_tup, ↓o_isa_int_str, ↓o_isa_int_lst, ↓o_isa_bl_int, ↓o_isa_bl_bool, ↓o_isa_tup_tup, ↓o_isa_tup_int, ↓o_isa_tup_lst, ↓o_isa_tup_str, ↓o_isa_str_str, ↓o_isa_str_int, ↓o_isa_str_tup, ↓o_isa_lst_lst, ↓o_isa_lst_tup, ↓o_isa_lst_int, ↓o_isa_non_int, ↓o_isa_non_tup, ↓o_sum_3, ↓o_all_3, ↓o_atI_0, ↓o_atI_1, ↓o_atI_2, ↓o_atI_3, ↓o_atI_4, ↓o_atI_5, ↓o_ixN_30, ↓o_ixN_31, ↓o_ixN_32, ↓o_fix_tup, ↓o_fix_lst, ↓o_fix_scr, ↓o_pow_6, ↓o_pow_18, pick_0, pick_01, pick_10, pick_012, pick_021, pick_102, pick_120, pick_201, pick_210, eq_self, List.cons_append, List.nil_append, List.append_nil, List.set_set, List.set_cons_zero, List.set_cons_succ, List.length_cons, List.length_nil, Nat.zero_add, Nat.reduceAdd, Nat.reduceLeDiff, castN, natabsN, mulOkL, mulOkR, Bool.true_or, Nat.reducePow, Nat.reduceLT, ne_eq, not_true_eq_false, not_false_eq_true, rng_3, rng_2, Int.reduceEq, Int.reduceLT, Int.reduceLE, Int.reduceAdd, Int.reduceSub, Int.reduceMul, Int.reduceNeg, true_and, and_true, if_true, if_false, Bool.false_eq_true, Bool.true_eq_false, decide_true, decide_false, Bool.not_true, Bool.not_false, Bool.and_true, Bool.true_and, Bool.and_false, Bool.false_and])
local macro_rules | `(tactic| simp_arith [$ts,*]) => `(tactic| simp -implicitDefEqProofs only [↓ok_ok, ↓ok_stk, ↓ok_exc, ↓ok_bind, ↓ok_nox, ↓ok_of, ↓ok_lenO, ↓ok_propO, ↓ok_txtO, ↓ok_clsM, ↓ok_tupRg, ↓ok_lstRg, ↓oko_some, ↓oko_none, ↓oko_ite, ↓oko_map, ↓ok_ite, ↓oks_nx, ↓oks_stk, ↓oks_exc, ↓oks_bk, ↓oks_ct, ↓oks_rt, ↓oks_then, ↓oks_thenN, ↓ok_var0, ↓ok_varS, ↓ok_c, ↓ok_bin, ↓ok_un, ↓okb, ↓ok_test, ↓ok_tru, ↓ok_and, ↓ok_or, ↓ok_not, ↓ok_andV, ↓ok_orV, ↓ok_notV, ↓ok_if, ↓ok_ifT, ↓ok_fld, ↓ok_slt, ↓o_slt0, ↓ok_make, ↓ok_makeS, ↓o_isaC, ↓o_isn_ins, ↓o_is_ins, ↓ok_izip, ↓zipR_ll, ↓zipR_tl, ↓zipR_tt, ↓o_parts, ↓o_shares, ↓o_east, ↓o_north, ↓o_rests, zip2, zip3, ↓ok_nil, ↓ok_cons, ↓ok_star, ↓seqA_tup, ↓seqA_lst, ↓ok_revL, ↓ok_revLM, ↓ok_cmp2, ↓ok_tup, ↓ok_lst, ↓ok_lstM, ↓ok_fn, ↓ok_call, ↓ok_callK, ↓ok_noPart, ↓oki, ↓ok_part, ↓ok_sl, ↓oks_next, ↓oks_seq, ↓oks_drop, ↓oks_ret, ↓oks_retN, ↓oks_break, ↓oks_cont, ↓oks_never, ↓oks_if, ↓oks_try, ↓oks_asg, ↓oks_set, ↓ok_gName, ↓ok_gNil, ↓ok_gCons, ↓ok_gTup, ↓ok_gUnl, ↓ok_gSub, ↓okl2, ↓okl3, ↓oks_par, ↓oks_par3, ↓okv0, ↓okvS, ↓oks_aug, ↓ok_append, ↓ok_extend, ↓seqL_lst, ↓ok_strM, ↓ok_def, ↓ok_iSeq, ↓oki1, ↓oki2, ↓ok_range1, ↓ok_range2, ↓oks_for, ↓ok_lc, ↓ok_finL, ↓ok_finM, ↓ok_yes, ↓setg0, ↓setgS, ↓unsetg0, ↓unsetgS, ↓wipeg0, ↓wipegS, ↓initg0, ↓initgN, ↓initgS, ↓lenis0, ↓lenisS, ↓lenle0, ↓lenleS, ↓seqI_lst, ↓seqIE_lst, ↓seqIE_tup, ↓seqIE_scr, ↓seqI_str, ↓okt, ↓ok_kIx, ↓ok_kGet, ↓ok_revS, ↓okd, ↓ok_dGet, ↓o_mulS, ↓seqI_tup, ↓seqI_scr, ↓o_ne_mv, ↓o_eq_mv, ↓ok_enum, ↓okl1, ↓o_mul_rep, ↓o_mul_iiF, cut_2of3, ↓o_ne_2, ↓o_eq_2, ↓o_ne_bb, ↓o_eq_bb, ↓o_tru_b, ↓o_tru_i, ↓o_tru_t, ↓o_tru_l, ↓o_tru_n, ↓o_isn_non, ↓o_isn_int, ↓o_isn_tup, ↓o_isn_lst, ↓o_isn_str, ↓o_is_non, ↓o_is_int, ↓o_is_tup, ↓o_is_lst, ↓o_is_str, ↓o_eq_ii, ↓o_ne_ii, ↓o_add_ii, ↓o_sub_ii, ↓o_mul_ii, ↓o_div_ii, ↓o_mod_ii, ↓o_lt_ii, ↓o_le_ii, ↓o_gt_ii, ↓o_ge_ii, ↓o_add_tt, ↓o_add_ll, ↓o_add_ss, ↓o_divmod_ii, ↓o_neg_i, ↓o_int_i, ↓o_abs_i, ↓o_max_ii, ↓o_max1_3, ↓o_min1_3, ↓o_min_ii, ↓o_len_tup, ↓o_len_lst, ↓o_len_scr, ↓o_slc_lst, ↓o_slc_scr, ↓o_slc_tup, ↓o_tuple_lst, ↓o_tuple_tup, ↓o_tuple_scr, ↓o_list_tup, ↓o_list_lst, ↓o_bool_b, ↓o_isa_int_int, ↓o_isa_int_bool, ↓o_isa_int_tup, ↓o_isa_int_str, ↓o_isa_int_lst, ↓o_isa_bl_int, ↓o_isa_bl_bool, ↓o_isa_tup_tup, ↓o_isa_tup_int, ↓o_isa_tup_lst, ↓o_isa_tup_str, ↓o_isa_str_str, ↓o_isa_str_int, ↓o_isa_str_tup, ↓o_isa_lst_lst, ↓o_isa_lst_tup, ↓o_isa_lst_int, ↓o_isa_non_int, ↓o_isa_non_tup, ↓o_sum_3, ↓o_all_3, ↓o_atI_0, ↓o_atI_1, ↓o_atI_2, ↓o_atI_3, ↓o_atI_4, ↓o_atI_5, ↓o_ixN_30, ↓o_ixN_31, ↓o_ixN_32, ↓o_fix_tup, ↓o_fix_lst, ↓o_fix_scr, ↓o_pow_6, ↓o_pow_18, pick_0, pick_01, pick_10, pick_012, pick_021, pick_102, pick_120, pick_201, pick_210, eq_self, List.cons_append, List.nil_append, List.append_nil, List.set_set, List.set_cons_zero, List.set_cons_succ, List.length_cons, List.length_nil, Nat.zero_add, Nat.reduceAdd, Nat.reduceLeDiff, castN, natabsN, mulOkL, mulOkR, Bool.true_or, Nat.reducePow, Nat.reduceLT, ne_eq, not_true_eq_false, not_false_eq_true, rng_3, rng_2, Int.reduceEq, Int.reduceLT, Int.reduceLE, Int.reduceAdd, Int.reduceSub, Int.reduceMul, Int.reduceNeg, true_and, and_true, if_true, if_false, Bool.false_eq_true, Bool.true_eq_false, decide_true, decide_false, Bool.not_true, Bool.not_false, Bool.and_true, Bool.true_and, Bool.and_false, Bool.false_and, $ts,*])
theorem o_in_dig {c : Nat} {μ : Mu} {P : D → Prop} (h : 48 ≤ c ∧ c ≤ 57) : OkO (fIn false μ (.str ⟨#[c]⟩) (.str "0123456789")) P = P (.bl true) := by
  have e : tl ("0123456789" : Str) = [48, 49, 50, 51, 52, 53, 54, 55, 56, 57] := by decide
  have m : c ∈ tl ("0123456789" : Str) := by rw [e]; simp only [List.mem_cons, List.not_mem_nil, or_false]; omega
  show OkO (some (D.bl (decide (c ∈ tl ("0123456789" : Str))))) P = _
  rw [decide_eq_true m]
  rfl
theorem dig_lc {g0 g1 : Option D} : ∀ (cs : List Nat) {μ : Mu} {QL : List D → Mu → Prop}, NumText.AllDigits cs → QL (cs.map fun _ => D.bl true) μ →
    Ok (lcL (dgName 2) dYes (dBin (fIn false) (dVar 2) (dC (.str "0123456789"))) [g0, g1, none] (cs.map fun c => D.str ⟨#[c]⟩) μ) QL
  | [], μ, QL, h, q => by rw [List.map_nil, ok_lcNil]; exact q
  | c :: cs, μ, QL, h, q => by
    rw [List.map_cons, ok_lcConsY]
    simp_arith [↓o_in_dig h.head]
    exact dig_lc cs h.tail q
theorem o_len_s {μ : Mu} {z : Str} {P : D → Prop} (h : z.length ≤ 1000000) : OkO (fLen μ [.str z]) P = P (.int z.length) := by
  unfold fLen
  simp [h, OkO]
theorem o_str_i {n : Int} {μ : Mu} {P : D → Prop} (h : n.natAbs < 10 ^ 500) : OkO (fStr2 μ [.int n]) P = P (.str (FT.iT n)) := by
  have hl : n.natAbs.log2 < 1920 := by
    by_cases h0 : n.natAbs = 0
    · rw [h0]; decide
    · rw [Nat.log2_lt h0]
      exact Nat.lt_trans h (by decide)
  have e1 : fStr μ [.int n] = some (.str (FT.iT n)) := if_pos hl
  have e : fStr2 μ [.int n] = some (.str (FT.iT n)) := by
    unfold fStr2 orC
    rw [e1]
  rw [e]; rfl
theorem o_all_tt {μ : Mu} {P : D → Prop} : ∀ (cs : List Nat), P (.bl true) → OkO (fAll μ [.lst (cs.map fun _ => D.bl true)]) P := fun cs q => all_true (fun d hd => by
  obtain ⟨_, _, e⟩ := List.mem_map.mp hd
  exact e.symm) q
theorem written_tail {n : Int} {d : Str} {g0 : Option D} {μ : Mu} {Q : D → Mu → Prop} (h : n.natAbs < 10 ^ 500) (hd : NumText.AllDigits (tl d)) (hne : tl d ≠ []) (hl : (tl d).length ≤ 640) (q : Q (.int n) μ) :
    if (d == Str.ofString "") = true then Q D.non μ else
      OkO (fLen μ [D.str d]) fun z => OkO (fGt μ z (D.int 4000)) fun z => OkB z fun b => if b = true then Q D.non μ else
        LenLe (List.map (fun c => D.str { cps := #[c] }) d.cps.toList) 1000000 (Ok (lcL (dgName 2) dYes (dBin (fIn false) (dVar 2) (dC (D.str (Str.ofString "0123456789")))) [g0, some (D.str d), none] (List.map (fun c => D.str { cps := #[c] }) d.cps.toList) μ)
          fun ys μ2 => OkO (fAll μ2 [D.lst ys]) fun z => OkO (truD μ2 z) fun b => if (!b) = true then Q D.non μ2 else
            OkO (fInt μ2 [D.str (FT.iT n)]) fun z => OkO (fStr2 μ2 [z]) fun z => OkO (fEq μ2 z (D.str (FT.iT n))) fun z => OkB z fun b => if b = true then OkO (fInt μ2 [D.str (FT.iT n)]) fun z => Q z μ2 else Q D.non μ2) := by
  have e0 : (d == Str.ofString "") = false := by
    rw [FT.str_eq]
    exact decide_eq_false hne
  have l1 := len_tl d
  rw [e0, if_neg (by simp), o_len_s (by omega)]
  simp_arith
  rw [if_neg (by simp; omega)]
  refine ⟨by rw [List.length_map]; show (tl d).length ≤ _; omega, dig_lc (tl d) hd (o_all_tt _ ?_)⟩
  have nl : (numL n.natAbs).length ≤ 500 := numL_len (by decide) h
  have li : (FT.iL n).length ≤ 640 := by
    unfold FT.iL
    split <;> (try rw [List.length_cons]) <;> omega
  have hn := FT.int_iT li
  have hl2 : (FT.iT n).length ≤ 640 := by rw [len_tl, FT.tl_iT]; exact li
  have e3 : (FT.iT n == FT.iT n) = true := by rw [FT.str_eq]; exact decide_eq_true rfl
  simp_arith [↓FT.o_int_s hn hl2, ↓o_str_i h, ↓FT.o_eq_ss, e3]
  exact q
/-! ### texts of moves -/
def mT (m : FM.Mv) : Str := Txt.join " " [FT.iT m.x, FT.iT m.y, FT.iT m.s]
def Rb (m : FM.Mv) : Prop := m.x.natAbs < 10 ^ 500 ∧ m.y.natAbs < 10 ^ 500 ∧ m.s.natAbs < 10 ^ 500
theorem mT_split (m : FM.Mv) : Txt.split (mT m) " " = [FT.iT m.x, FT.iT m.y, FT.iT m.s] := by
  refine split_join (s := 32) (S := []) (by decide) (by decide +kernel) (by simp) fun p hp => ?_
  simp only [List.mem_cons, List.not_mem_nil, or_false] at hp
  rcases hp with rfl | rfl | rfl <;> (rw [FT.tl_iT]; exact FT.iL_free (by omega))
theorem iL_len {n : Int} (h : n.natAbs < 10 ^ 500) : (FT.iL n).length ≤ 501 := by
  have nl : (numL n.natAbs).length ≤ 500 := numL_len (by decide) h
  unfold FT.iL
  split <;> (try rw [List.length_cons]) <;> omega
theorem iT_len {n : Int} (h : n.natAbs < 10 ^ 500) : (FT.iT n).length ≤ 501 := by rw [len_tl, FT.tl_iT]; exact iL_len h
theorem tl_mT (m : FM.Mv) : tl (mT m) = FT.iL m.x ++ ([32] ++ (FT.iL m.y ++ ([32] ++ FT.iL m.s))) := by
  unfold mT
  rw [join_eq, tl_join]
  show tl (FT.iT m.x) ++ (tl (" " : Str) ++ (tl (FT.iT m.y) ++ (tl (" " : Str) ++ tl (FT.iT m.s)))) = _
  rw [FT.tl_iT, FT.tl_iT, FT.tl_iT, show tl (" " : Str) = [32] by decide]
theorem mT_len {m : FM.Mv} (h : Rb m) : (mT m).length ≤ 1600 := by
  rw [len_tl, tl_mT]
  have a := iL_len h.1
  have b := iL_len h.2.1
  have c := iL_len h.2.2
  simp only [List.length_append, List.length_cons, List.length_nil]
  omega
theorem o_split {μ : Mu} {a b : Str} {P : D → Prop} (h1 : b.length ≠ 0) (h2 : a.length ≤ 1000000) : OkO (fSplit μ (.str a) (.str b)) P = P (.lst ((Txt.split a b).map .str)) := by
  unfold fSplit
  simp [h1, h2, OkO]
theorem o_nin3 {μ : Mu} {a b c : Int} {P : D → Prop} : OkO (fIn true μ .non (.tup [.int a, .int b, .int c])) P = P (.bl true) := rfl
/-! ### texts of lots -/
def lineT (m : FM.Mv) : Str := Str.ofString "button " ++ mT m
def lotT (ms : List FM.Mv) : Str := Txt.join "\n" (ms.map lineT)
theorem tl_line (m : FM.Mv) : tl (lineT m) = [98, 117, 116, 116, 111, 110, 32] ++ tl (mT m) := by
  unfold lineT
  rw [tl_append, show tl (Str.ofString "button ") = [98, 117, 116, 116, 111, 110, 32] by decide +kernel]
theorem line_free (m : FM.Mv) : 10 ∉ tl (lineT m) := by
  rw [tl_line, tl_mT]
  have f : ∀ n : Int, 10 ∉ FT.iL n := fun n => FT.iL_free (by omega)
  simp [f]
theorem lotT_split {ms : List FM.Mv} (h : ms ≠ []) : Txt.split (lotT ms) "\n" = ms.map lineT := by
  refine split_join (s := 10) (S := []) (by decide) (by decide +kernel) (by simpa using h) fun p hp => ?_
  obtain ⟨m, _, rfl⟩ := List.mem_map.mp hp
  exact line_free m
theorem line_word (m : FM.Mv) : cutS (lineT m) none (some 7) = Str.ofString "button " := by
  refine ext_tl ?_
  rw [show (7 : Int) = ((7 : Nat) : Int) from rfl, FT.tl_cut_to, tl_line, show tl (Str.ofString "button ") = [98, 117, 116, 116, 111, 110, 32] by decide +kernel]
  rfl
theorem join_len {y : Str} {L : Nat} : ∀ parts : List Str, (∀ p ∈ parts, p.length ≤ L) → (Str.join y parts).length ≤ parts.length * (L + y.length)
  | [], _ => by simp [Str.join, Str.empty, Str.length]
  | [x], h => by
    have := h x (List.mem_cons_self ..)
    show x.length ≤ 1 * (L + y.length)
    omega
  | x :: z :: r, h => by
    have h1 := h x (List.mem_cons_self ..)
    have h2 := join_len (y := y) (L := L) (z :: r) fun p hp => h p (List.mem_cons_of_mem _ hp)
    have e : (Str.join y (x :: z :: r)).length = x.length + (y.length + (Str.join y (z :: r)).length) := by
      show (x ++ y ++ Str.join y (z :: r)).length = _
      rw [len_tl, tl_append, tl_append, List.length_append, List.length_append, len_tl x, len_tl y, len_tl (Str.join y (z :: r))]
      omega
    rw [e, List.length_cons, Nat.add_mul]
    omega
theorem line_len {m : FM.Mv} (h : Rb m) : (lineT m).length ≤ 1607 := by
  have := mT_len h
  rw [len_tl] at this ⊢
  rw [tl_line, List.length_append]
  show 7 + _ ≤ _
  omega
theorem lotT_len {ms : List FM.Mv} (h5 : ms.length ≤ 5) (h : ∀ m ∈ ms, Rb m) : (lotT ms).length ≤ 100000 := by
  unfold lotT
  rw [join_eq]
  have := join_len (y := Str.ofString "\n") (L := 1607) (ms.map lineT) fun p hp => by
    obtain ⟨m, hm, rfl⟩ := List.mem_map.mp hp
    exact line_len (h m hm)
  rw [List.length_map] at this
  have l1 : (Str.ofString "\n").length = 1 := by decide +kernel
  rw [l1] at this
  omega
theorem line_rest (m : FM.Mv) : cutS (lineT m) (some 7) none = mT m := by
  refine ext_tl ?_
  rw [show (7 : Int) = ((7 : Nat) : Int) from rfl, FT.tl_cut_from, tl_line]
  rfl
theorem words_lc {g0 g1 g2 : Option D} : ∀ (ms : List FM.Mv) {μ : Mu} {QL : List D → Mu → Prop}, (∀ m ∈ ms, Rb m) → QL (ms.map fun _ => D.bl true) μ →
    Ok (lcL (dgName 3) dYes (dBin fEq (dSl (dVar 3) (dNoPart) (dPart (dFn fLen (daCons (dC (.str "button ")) (daNil))))) (dC (.str "button "))) [g0, g1, g2, none] (ms.map fun m => D.str (lineT m)) μ) QL
  | [], μ, QL, h, q => by rw [List.map_nil, ok_lcNil]; exact q
  | m :: ms, μ, QL, h, q => by
    have hl := line_len (h m (List.mem_cons_self ..))
    have l7 : (Str.ofString "button ").length = 7 := by decide +kernel
    have e : (Str.ofString "button " == Str.ofString "button ") = true := by rw [FT.str_eq]; exact decide_eq_true rfl
    rw [List.map_cons, ok_lcConsY]
    simp_arith [↓o_len_s (show (Str.ofString "button ").length ≤ 1000000 by rw [l7]; decide), l7, ↓FT.o_slc_str, ↓FT.o_eq_ss]
    refine ⟨by omega, ?_⟩
    rw [line_word, e]
    exact words_lc ms (fun m hm => h m (List.mem_cons_of_mem _ hm)) q
theorem btn_rb {ms : List FM.Mv} (hb : Btn ms) : ∀ m ∈ ms, Rb m := fun m hm => by
  have p : 10 ^ 30 < 10 ^ 500 := by decide
  obtain ⟨a, b, c⟩ := hb.b m hm
  exact ⟨Nat.lt_of_le_of_lt a p, Nat.lt_of_le_of_lt b p, Nat.lt_of_le_of_lt c p⟩
end A18

set_option Elab.async false
set_option linter.all false
set_option maxRecDepth 100000
set_option maxHeartbeats 1000000
set_option exponentiation.threshold 1000
namespace A18
open PySem PySem.Spec PyProof.Rows L2 Ar
local macro_rules | `(tactic| simp_arith) => `(tactic| simp -implicitDefEqProofs only [↓ok_ok, ↓ok_stk, ↓ok_exc, ↓ok_bind, ↓ok_nox, ↓ok_of, ↓ok_lenO, ↓ok_propO, ↓ok_txtO, ↓ok_clsM, ↓ok_tupRg, ↓ok_lstRg, ↓oko_some, ↓oko_none, ↓oko_ite, ↓oko_map, ↓ok_ite, ↓oks_nx, ↓oks_stk, ↓oks_exc, ↓oks_bk, ↓oks_ct, ↓oks_rt, ↓oks_then, ↓oks_thenN, ↓ok_var0, ↓ok_varS, ↓ok_c, ↓ok_bin, ↓ok_un, ↓okb, ↓ok_test, ↓ok_tru, ↓ok_and, ↓ok_or, ↓ok_not, ↓ok_andV, ↓ok_orV, ↓ok_notV, ↓ok_if, ↓ok_ifT, ↓ok_fld, ↓ok_slt, ↓o_slt0, ↓ok_make, ↓ok_makeS, ↓o_isaC, ↓o_isn_ins, ↓o_is_ins, ↓ok_izip, ↓zipR_ll, ↓zipR_tl, ↓zipR_tt, ↓o_parts, ↓o_shares, ↓o_east, ↓o_north, ↓o_rests, zip2, zip3, ↓ok_nil, ↓ok_cons, ↓ok_star, ↓seqA_tup, ↓seqA_lst, ↓ok_revL, ↓ok_revLM, ↓ok_cmp2, ↓ok_tup, ↓ok_lst, ↓ok_lstM, ↓ok_fn, ↓ok_call, ↓ok_callK, ↓ok_noPart, ↓oki, ↓ok_part, ↓ok_sl, ↓oks_next, ↓oks_seq, ↓oks_drop, ↓oks_ret, ↓oks_retN, ↓oks_break, ↓oks_cont, ↓oks_never, ↓oks_if, ↓oks_try, ↓oks_asg, ↓oks_set, ↓ok_gName, ↓ok_gNil, ↓ok_gCons, ↓ok_gTup, ↓ok_gUnl, ↓ok_gSub, ↓okl2, ↓okl3, ↓oks_par, ↓oks_par3, ↓okv0, ↓okvS, ↓oks_aug, ↓ok_append, ↓ok_extend, ↓seqL_lst, ↓ok_strM, ↓ok_def, ↓ok_iSeq, ↓oki1, ↓oki2, ↓ok_range1, ↓ok_range2, ↓oks_for, ↓ok_lc, ↓ok_finL, ↓ok_finM, ↓ok_yes, ↓setg0, ↓setgS, ↓unsetg0, ↓unsetgS, ↓wipeg0, ↓wipegS, ↓initg0, ↓initgN, ↓initgS, ↓lenis0, ↓lenisS, ↓lenle0, ↓lenleS, ↓seqI_lst, ↓seqIE_lst, ↓seqIE_tup, ↓seqIE_scr, ↓seqI_str, ↓okt, ↓ok_kIx, ↓ok_kGet, ↓ok_revS, ↓okd, ↓ok_dGet, ↓o_mulS, ↓seqI_tup, ↓seqI_scr, ↓o_ne_mv, ↓o_eq_mv, ↓ok_enum, ↓okl1, ↓o_mul_rep, ↓o_mul_iiF, cut_2of3, ↓o_ne_2, ↓o_eq_2, ↓o_ne_bb, ↓o_eq_bb, ↓o_tru_b, ↓o_tru_i, ↓o_tru_t, ↓o_tru_l, ↓o_tru_n, ↓o_isn_non, ↓o_isn_int, ↓o_isn_tup, ↓o_isn_lst, ↓o_isn_str, ↓o_is_non, ↓o_is_int, ↓o_is_tup, ↓o_is_lst, ↓o_is_str, ↓o_eq_ii, ↓o_ne_ii, ↓o_add_ii, ↓o_sub_ii, ↓o_mul_ii, ↓o_div_ii, ↓o_mod_ii, ↓o_lt_ii, ↓o_le_ii, ↓o_gt_ii, ↓o_ge_ii, ↓o_add_tt, ↓o_add_ll, ↓o_add_ss, ↓o_divmod_ii, ↓o_neg_i, ↓o_int_i, ↓o_abs_i, ↓o_max_ii, ↓o_max1_3, ↓o_min1_3, ↓o_min_ii, ↓o_len_tup, ↓o_len_lst, ↓o_len_scr, ↓o_slc_lst, ↓o_slc_scr, ↓o_slc_tup, ↓o_tuple_lst, ↓o_tuple_tup, ↓o_tuple_scr, ↓o_list_tup, ↓o_list_lst, ↓o_bool_b, ↓o_isa_int_int, ↓o_isa_int_bool, ↓o_isa_int_tup, ↓o_isa_int_str, ↓o_isa_int_lst, ↓o_isa_bl_int, ↓o_isa_bl_bool, ↓o_isa_tup_tup, ↓o_isa_tup_int, ↓o_isa_tup_lst, ↓o_isa_tup_str, ↓o_isa_str_str, ↓o_isa_str_int, ↓o_isa_str_tup, ↓o_isa_lst_lst, ↓o_isa_lst_tup, ↓o_isa_lst_int, ↓o_isa_non_int, ↓o_isa_non_tup, ↓o_sum_3, ↓o_all_3, ↓o_atI_0, ↓o_atI_1, ↓o_atI_2, ↓o_atI_3, ↓o_atI_4, ↓o_atI_5, ↓o_ixN_30, ↓o_ixN_31, ↓o_ixN_32, ↓o_fix_tup, ↓o_fix_lst, ↓o_fix_scr, ↓o_pow_6, ↓o_pow_18, pick_0, pick_01, pick_10, pick_012, pick_021, pick_102, pick_120, pick_201, pick_210, eq_self, List.cons_append, List.nil_append, List.append_nil, List.set_set, List.set_cons_zero, List.set_cons_succ, List.length_cons, List.length_nil, Nat.zero_add, Nat.reduceAdd, Nat.reduceLeDiff, castN, natabsN, mulOkL, mulOkR, Bool.true_or, Nat.reducePow, Nat.reduceLT, ne_eq, not_true_eq_false, not_false_eq_true, rng_3, rng_2, Int.reduceEq, Int.reduceLT, Int.reduceLE, Int.reduceAdd, Int.reduceSub, Int.reduceMul, Int.reduceNeg, true_and, and_true, if_true, if_false, Bool.false_eq_true, Bool.true_eq_false, decide_true, decide_false, Bool.not_true, Bool.not_false, Bool.and_true, Bool.true_and, Bool.and_false, Bool.false_and])
local macro_rules | `(tactic| simp_arith [$ts,*]) => `(tactic| simp -implicitDefEqProofs only [↓ok_ok, ↓ok_stk, ↓ok_exc, ↓ok_bind, ↓ok_nox, ↓ok_of, ↓ok_lenO, ↓ok_propO, ↓ok_txtO, ↓ok_clsM, ↓ok_tupRg, ↓ok_lstRg, ↓oko_some, ↓oko_none, ↓oko_ite, ↓oko_map, ↓ok_ite, ↓oks_nx, ↓oks_stk, ↓oks_exc, ↓oks_bk, ↓oks_ct, ↓oks_rt, ↓oks_then, ↓oks_thenN, ↓ok_var0, ↓ok_varS, ↓ok_c, ↓ok_bin, ↓ok_un, ↓okb, ↓ok_test, ↓ok_tru, ↓ok_and, ↓ok_or, ↓ok_not, ↓ok_andV, ↓ok_orV, ↓ok_notV, ↓ok_if, ↓ok_ifT, ↓ok_fld, ↓ok_slt, ↓o_slt0, ↓ok_make, ↓ok_makeS, ↓o_isaC, ↓o_isn_ins, ↓o_is_ins, ↓ok_izip, ↓zipR_ll, ↓zipR_tl, ↓zipR_tt, ↓o_parts, ↓o_shares, ↓o_east, ↓o_north, ↓o_rests, zip2, zip3, ↓ok_nil, ↓ok_cons, ↓ok_star, ↓seqA_tup, ↓seqA_lst, ↓ok_revL, ↓ok_revLM, ↓ok_cmp2, ↓ok_tup, ↓ok_lst, ↓ok_lstM, ↓ok_fn, ↓ok_call, ↓ok_callK, ↓ok_noPart, ↓oki, ↓ok_part, ↓ok_sl, ↓oks_next, ↓oks_seq, ↓oks_drop, ↓oks_ret, ↓oks_retN, ↓oks_break, ↓oks_cont, ↓oks_never, ↓oks_if, ↓oks_try, ↓oks_asg, ↓oks_set, ↓ok_gName, ↓ok_gNil, ↓ok_gCons, ↓ok_gTup, ↓ok_gUnl, ↓ok_gSub, ↓okl2, ↓okl3, ↓oks_par, ↓oks_par3, ↓okv0, ↓okvS, ↓oks_aug, ↓ok_append, ↓ok_extend, ↓seqL_lst, ↓ok_strM, ↓ok_def, ↓ok_iSeq, ↓oki1, ↓oki2, ↓ok_range1, ↓ok_range2, ↓oks_for, ↓ok_lc, ↓ok_finL, ↓ok_finM, ↓ok_yes, ↓setg0, ↓setgS, ↓unsetg0, ↓unsetgS, ↓wipeg0, ↓wipegS, ↓initg0, ↓initgN, ↓initgS, ↓lenis0, ↓lenisS, ↓lenle0, ↓lenleS, ↓seqI_lst, ↓seqIE_lst, ↓seqIE_tup, ↓seqIE_scr, ↓seqI_str, ↓okt, ↓ok_kIx, ↓ok_kGet, ↓ok_revS, ↓okd, ↓ok_dGet, ↓o_mulS, ↓seqI_tup, ↓seqI_scr, ↓o_ne_mv, ↓o_eq_mv, ↓ok_enum, ↓okl1, ↓o_mul_rep, ↓o_mul_iiF, cut_2of3, ↓o_ne_2, ↓o_eq_2, ↓o_ne_bb, ↓o_eq_bb, ↓o_tru_b, ↓o_tru_i, ↓o_tru_t, ↓o_tru_l, ↓o_tru_n, ↓o_isn_non, ↓o_isn_int, ↓o_isn_tup, ↓o_isn_lst, ↓o_isn_str, ↓o_is_non, ↓o_is_int, ↓o_is_tup, ↓o_is_lst, ↓o_is_str, ↓o_eq_ii, ↓o_ne_ii, ↓o_add_ii, ↓o_sub_ii, ↓o_mul_ii, ↓o_div_ii, ↓o_mod_ii, ↓o_lt_ii, ↓o_le_ii, ↓o_gt_ii, ↓o_ge_ii, ↓o_add_tt, ↓o_add_ll, ↓o_add_ss, ↓o_divmod_ii, ↓o_neg_i, ↓o_int_i, ↓o_abs_i, ↓o_max_ii, ↓o_max1_3, ↓o_min1_3, ↓o_min_ii, ↓o_len_tup, ↓o_len_lst, ↓o_len_scr, ↓o_slc_lst, ↓o_slc_scr, ↓o_slc_tup, ↓o_tuple_lst, ↓o_tuple_tup, ↓o_tuple_scr, ↓o_list_tup, ↓o_list_lst, ↓o_bool_b, ↓o_isa_int_int, ↓o_isa_int_bool, ↓o_isa_int_tup, ↓o_isa_int_str, ↓o_isa_int_lst, ↓o_isa_bl_int, ↓o_isa_bl_bool, ↓o_isa_tup_tup, ↓o_isa_tup_int, ↓o_isa_tup_lst, ↓o_isa_tup_str, ↓o_isa_str_str, ↓o_isa_str_int, ↓o_isa_str_tup, ↓o_isa_lst_lst, ↓o_isa_lst_tup, ↓o_isa_lst_int, ↓o_isa_non_int, ↓o_isa_non_tup, ↓o_sum_3, ↓o_all_3, ↓o_atI_0, ↓o_atI_1, ↓o_atI_2, ↓o_atI_3, ↓o_atI_4, ↓o_atI_5, ↓o_ixN_30, ↓o_ixN_31, ↓o_ixN_32, ↓o_fix_tup, ↓o_fix_lst, ↓o_fix_scr, ↓o_pow_6, ↓o_pow_18, pick_0, pick_01, pick_10, pick_012, pick_021, pick_102, pick_120, pick_201, pick_210, eq_self, List.cons_append, List.nil_append, List.append_nil, List.set_set, List.set_cons_zero, List.set_cons_succ, List.length_cons, List.length_nil, Nat.zero_add, Nat.reduceAdd, Nat.reduceLeDiff, castN, natabsN, mulOkL, mulOkR, Bool.true_or, Nat.reducePow, Nat.reduceLT, ne_eq, not_true_eq_false, not_false_eq_true, rng_3, rng_2, Int.reduceEq, Int.reduceLT, Int.reduceLE, Int.reduceAdd, Int.reduceSub, Int.reduceMul, Int.reduceNeg, true_and, and_true, if_true, if_false, Bool.false_eq_true, Bool.true_eq_false, decide_true, decide_false, Bool.not_true, Bool.not_false, Bool.and_true, Bool.true_and, Bool.and_false, Bool.false_and, $ts,*])
theorem dip_spec {n : Nat} {μ : Mu} {s : Int} {Q : D → Mu → Prop} (h : Wl n μ) (h0 : 0 < s) (h1 : s < 1073741824) (q : ∀ d μ', Wl n μ' → Gr n μ μ' → 0 ≤ d → d < s → Q (.int d) μ') : Ok (m__law_dip [.loc n, .int s] μ) Q := by
  obtain ⟨a, b, c, ha, hb, hb2, e⟩ := h
  have e1 := fun o => set_new (o := o) e
  unfold m__law_dip
  simp_arith [↓o_fix_loc e, ↓o_place e, ↓o_fix_loc (e1 _), ↓o_place (e1 _)]
  by_cases hp : 0 < a
  · rw [if_pos (decide_eq_true hp)]
    exact ⟨⟨h0, fdOk_small (by omega) (by omega)⟩, q _ _ ⟨_, _, _, Int.ediv_nonneg ha (by omega), hb, hb2, e1 _⟩ Gr.set (Int.emod_nonneg _ (by omega)) (Int.emod_lt_of_pos _ h0)⟩
  · rw [if_neg (by simpa using hp)]
    have m1 : ∀ x : Int, 0 ≤ x.fmod 2147483399 ∧ x.fmod 2147483399 < 2147483399 := fun x => ⟨Int.fmod_nonneg_of_pos _ (by decide), Int.fmod_lt_of_pos _ (by decide)⟩
    refine ⟨mul_l (by omega), by decide, by omega, q _ _ ⟨_, _, _, ha, (m1 _).1, (m1 _).2, e1 _⟩ Gr.set (Int.fmod_nonneg_of_pos _ h0) (Int.fmod_lt_of_pos _ h0)⟩
theorem well_spec {ns : List Int} {t : Int} {μ : Mu} {Q : D → Mu → Prop} (h0 : 0 ≤ t) (hn : ns.length ≤ 63) (q : ∀ μ', Wl μ.length μ' → Gr μ.length μ μ' → Q (.loc μ.length) μ') : Ok (m__law_well [.scr (ns.map .int), .int t] μ) Q := by
  have hl : (cutL (List.map D.int ns) none (some 5)).length ≤ 999999 := by
    have := cut_len (xs := List.map D.int ns) (lo := none) (hi := some 5)
    rw [List.length_map] at this
    omega
  have items : ∀ z : Int, ∀ d ∈ cutL (List.map D.int ns) none (some 5) ++ [D.int z], ∃ i, d = D.int i := fun z d hd => by
    rcases List.mem_append.mp hd with h | h
    · exact int_mem (cut_mem h)
    · exact ⟨z, by simpa using h⟩
  unfold m__law_well
  simp_arith [List.length_map]
  by_cases ht : t < ns.length
  · obtain ⟨z, hz⟩ := int_at h0 ht
    rw [if_pos (decide_eq_true ht), hz]
    simp only [oko_some]
    refine ⟨hl, ?_⟩
    refine oks_forInv (fun pre rest Γ μ' => μ' = μ ∧ (∀ d ∈ rest, ∃ i, d = D.int i) ∧ (pre ++ rest ≠ []) ∧ ∃ x y, Γ = [some (D.scr (ns.map D.int)), some (D.int t), some (D.int z), some (D.int x), y] ∧ (pre = [] ∨ 0 ≤ x ∧ x < 2147483399)) _ [] _ _ ⟨rfl, items _, by simp, _, _, rfl, .inl rfl⟩ ?_ ?_
    · rintro pre d rest Γ μ' ⟨rfl, hi, hne, x, y, rfl, hx⟩
      obtain ⟨i, rfl⟩ := hi d List.mem_cons_self
      simp_arith
      exact ⟨fun d hd => hi d (List.mem_cons_of_mem _ hd), by simp, _, _, rfl, .inr (mod_p _)⟩
    · rintro pre Γ μ' ⟨rfl, hi, hne, x, y, rfl, hx⟩
      have hx : 0 ≤ x ∧ x < 2147483399 := by
        rcases hx with h | h
        · exact absurd h (by simpa using hne)
        · exact h
      simp_arith
      have fin : ∀ a : Int, 0 ≤ a → Q (D.loc (List.length μ')) (μ' ++ [MO.lst [D.int a, D.int x, D.int 0]]) := fun a ha => q _ ⟨a, x, 0, ha, hx.1, hx.2, app_new⟩ Gr.app
      repeat' split
      all_goals exact fin _ (by first | omega | decide)
  · rw [if_neg (by simpa using ht)]
    refine ⟨hl, ?_⟩
    generalize 13 * t + 6 = z
    refine oks_forInv (fun pre rest Γ μ' => μ' = μ ∧ (∀ d ∈ rest, ∃ i, d = D.int i) ∧ (pre ++ rest ≠ []) ∧ ∃ x y, Γ = [some (D.scr (ns.map D.int)), some (D.int t), some (D.int z), some (D.int x), y] ∧ (pre = [] ∨ 0 ≤ x ∧ x < 2147483399)) _ [] _ _ ⟨rfl, items _, by simp, _, _, rfl, .inl rfl⟩ ?_ ?_
    · rintro pre d rest Γ μ' ⟨rfl, hi, hne, x, y, rfl, hx⟩
      obtain ⟨i, rfl⟩ := hi d List.mem_cons_self
      simp_arith
      exact ⟨fun d hd => hi d (List.mem_cons_of_mem _ hd), by simp, _, _, rfl, .inr (mod_p _)⟩
    · rintro pre Γ μ' ⟨rfl, hi, hne, x, y, rfl, hx⟩
      have hx : 0 ≤ x ∧ x < 2147483399 := by
        rcases hx with h | h
        · exact absurd h (by simpa using hne)
        · exact h
      simp_arith
      have fin : ∀ a : Int, 0 ≤ a → Q (D.loc (List.length μ')) (μ' ++ [MO.lst [D.int a, D.int x, D.int 0]]) := fun a ha => q _ ⟨a, x, 0, ha, hx.1, hx.2, app_new⟩ Gr.app
      repeat' split
      all_goals exact fin _ (by first | omega | decide)
theorem number_spec {n : Nat} {μ : Mu} {Q : D → Mu → Prop} (h : Wl n μ) (q : ∀ d μ', Wl n μ' → Gr n μ μ' → d.natAbs < 10 ^ 30 → Q (.int d) μ') : Ok (m__law_number [.loc n] μ) Q := by
  unfold m__law_number
  try simp_arith
  refine dip_spec h (by decide) (by decide) fun way μ1 h1 g1 w0 w1 => ?_
  have hsk : ∃ s k : Int, L2.atI [D.int 4, D.int 12, D.int 1000, D.int 1000000, D.int 1000000, D.int 1000000] way = some (D.int s) ∧ L2.atI [D.int 0, D.int 0, D.int 0, D.int 0, D.int 2, D.int 4] way = some (D.int k) ∧ 0 < s ∧ s ≤ 1000000 ∧ 0 ≤ k ∧ k ≤ 4 := by
    have hw : way = 0 ∨ way = 1 ∨ way = 2 ∨ way = 3 ∨ way = 4 ∨ way = 5 := by omega
    rcases hw with rfl | rfl | rfl | rfl | rfl | rfl
    · exact ⟨_, _, atI_0, atI_0, by decide, by decide, by decide, by decide⟩
    · exact ⟨_, _, atI_1, atI_1, by decide, by decide, by decide, by decide⟩
    · exact ⟨_, _, atI_2, atI_2, by decide, by decide, by decide, by decide⟩
    · exact ⟨_, _, atI_3, atI_3, by decide, by decide, by decide, by decide⟩
    · exact ⟨_, _, atI_4, atI_4, by decide, by decide, by decide, by decide⟩
    · exact ⟨_, _, atI_5, atI_5, by decide, by decide, by decide, by decide⟩
  obtain ⟨s, k, e1, e2, s0, s1, k0, k1⟩ := hsk
  simp only [fix_lst, e1, e2, oko_some, oki1]
  refine dip_spec h1 s0 (by omega) fun f0 μ2 h2 g2 f00 f01 => ⟨by omega, ?_⟩
  refine oks_forInv (fun pre rest Γ μ' => Wl n μ' ∧ Gr n μ μ' ∧ pre.length + rest.length ≤ 4 ∧ ∃ (f : Int) (y : Option D), Γ = [some (D.loc n), some (D.int way), some (D.int f), y] ∧ 0 ≤ f ∧ f < 1000000 * 1000000 ^ pre.length) _ [] _ _ ⟨h2, g1.trans g2, by rw [rngD_len]; simp only [List.length_nil]; omega, _, _, rfl, f00, by simp only [List.length_nil, Int.pow_zero]; omega⟩ ?_ ?_
  · rintro pre d rest Γ μ' ⟨hw, hg, hl, f, y, rfl, hf0, hf1⟩
    try simp_arith
    refine dip_spec hw (by decide) (by decide) fun d2 μ3 h3 g3 d0 d1 => ⟨h3, hg.trans g3, by simp only [List.length_append, List.length_cons, List.length_nil] at hl ⊢; omega, _, _, rfl, by omega, ?_⟩
    rw [List.length_append, List.length_singleton, Int.pow_succ]
    omega
  · rintro pre Γ μ' ⟨hw, hg, hl, f, y, rfl, hf0, hf1⟩
    have hf : f < 10 ^ 30 := by
      have hp : pre.length = 0 ∨ pre.length = 1 ∨ pre.length = 2 ∨ pre.length = 3 ∨ pre.length = 4 := by
        simp only [List.length_nil] at hl
        omega
      have p0 : (1000000 : Int) ^ 0 = 1 := by decide
      have p1 : (1000000 : Int) ^ 1 = 1000000 := by decide
      have p2 : (1000000 : Int) ^ 2 = 1000000000000 := by decide
      have p3 : (1000000 : Int) ^ 3 = 1000000000000000000 := by decide
      have p4 : (1000000 : Int) ^ 4 = 1000000000000000000000000 := by decide
      rcases hp with e | e | e | e | e <;> rw [e] at hf1 <;> (first | rw [p0] at hf1 | rw [p1] at hf1 | rw [p2] at hf1 | rw [p3] at hf1 | rw [p4] at hf1) <;> omega
    try simp_arith
    refine dip_spec hw (by decide) (by decide) fun d μ3 h3 g3 d0 d1 => ?_
    try simp_arith
    split
    · exact q _ _ h3 (hg.trans g3) (by omega)
    · exact q _ _ h3 (hg.trans g3) (by omega)
theorem drawn_spec {n : Nat} {μ : Mu} {Q : D → Mu → Prop} (h : Wl n μ) (q : ∀ (a b c : Int) μ', Wl n μ' → Gr n μ μ' → a.natAbs < 10 ^ 30 → b.natAbs < 10 ^ 30 → c.natAbs < 10 ^ 30 → Q (.tup [.int a, .int b, .int c]) μ') : Ok (m__law_drawn [.loc n] μ) Q := by
  unfold m__law_drawn
  try simp_arith
  refine dip_spec h (by decide) (by decide) fun way μ1 h1 g1 w0 w1 => ?_
  try simp_arith
  split
  · refine dip_spec h1 (by decide) (by decide) fun a μ2 h2 g2 a0 a1 => ?_
    try simp_arith
    refine dip_spec h2 (by decide) (by decide) fun b μ3 h3 g3 b0 b1 => ?_
    try simp_arith
    refine dip_spec h3 (by decide) (by decide) fun c μ4 h4 g4 c0 c1 => ?_
    exact q _ _ _ _ h4 (((g1.trans g2).trans g3).trans g4) (by omega) (by omega) (by omega)
  · refine number_spec h1 fun a μ2 h2 g2 a1 => number_spec h2 fun b μ3 h3 g3 b1 => number_spec h3 fun c μ4 h4 g4 c1 => ?_
    have gg := ((g1.trans g2).trans g3).trans g4
    split
    · refine dip_spec h4.app (by decide) (by decide) fun d μ5 h5 g5 d0 d1 => ?_
      have e := g5.at_ μ4.length _ (by have := h4.lt; omega) app_new
      have e2 := fun o => set_new (o := o) e
      have ln := h4.lt
      simp_arith [↓o_place e, ↓o_fix_loc (e2 _)]
      have hd : d = 0 ∨ d = 1 ∨ d = 2 := by omega
      rcases hd with rfl | rfl | rfl
      · simp_arith
        exact q _ _ _ _ (h5.set (by omega)) ((gg.trans (Gr.app.trans g5)).setN (by have := gg.len; have := h.lt; have := g1.len; omega)) (by decide) b1 c1
      · simp_arith
        exact q _ _ _ _ (h5.set (by omega)) ((gg.trans (Gr.app.trans g5)).setN (by have := gg.len; have := h.lt; have := g1.len; omega)) a1 (by decide) c1
      · simp_arith
        exact q _ _ _ _ (h5.set (by omega)) ((gg.trans (Gr.app.trans g5)).setN (by have := gg.len; have := h.lt; have := g1.len; omega)) a1 b1 (by decide)
    · simp_arith [↓o_fix_loc app_new]
      exact q _ _ _ _ h4.app (gg.trans Gr.app) a1 b1 c1

end A18

set_option Elab.async false
set_option linter.all false
set_option maxRecDepth 100000
set_option maxHeartbeats 1000000
set_option exponentiation.threshold 10000
namespace A18
open PySem PySem.Spec PyProof.Rows L2 Ar TL
theorem tl_nl : tl ("\n" : Str) = [10] := by decide
def Bm (m : FM.Mv) : Prop := m.x.natAbs ≤ 10 ^ 30 ∧ m.y.natAbs ≤ 10 ^ 30 ∧ m.s.natAbs ≤ 10 ^ 30
theorem strs_map : ∀ ys : List Str, strsOf (ys.map D.str) = some ys
  | [] => rfl
  | y :: ys => by
    show (strsOf (ys.map D.str)).map (y :: ·) = _
    rw [strs_map ys]; rfl
theorem o_join {μ : Mu} {a : Str} {ys : List Str} {P : D → Prop} (h : (ys.map (·.length)).sum + ys.length * a.length ≤ 1000000) : OkO (fJoin μ (.str a) (.lst (ys.map D.str))) P = P (.str (Txt.join a ys)) := by
  have e : fJoin μ (.str a) (.lst (ys.map D.str)) = some (.str (Txt.join a ys)) := by
    show (match strsOf (ys.map D.str) with | some ys => _ | none => _) = _
    rw [strs_map ys]
    exact if_pos h
  rw [e]; rfl
/-- at most L signs, all of them common ones -/
structure Gd (L : Nat) (z : Str) : Prop where
  len : z.length ≤ L
  sg : ∀ c ∈ tl z, c < 200
theorem Gd.mono {L M : Nat} {z : Str} (h : Gd L z) (hm : L ≤ M) : Gd M z := ⟨Nat.le_trans h.len hm, h.sg⟩
theorem gd_app {L M : Nat} {x y : Str} (h : Gd L x) (k : Gd M y) : Gd (L + M) (x ++ y) := by
  refine ⟨?_, fun c hc => ?_⟩
  · rw [len_tl, tl_append, List.length_append, ← len_tl, ← len_tl]
    have := h.len
    have := k.len
    omega
  · rw [tl_append] at hc
    rcases List.mem_append.mp hc with z | z
    · exact h.sg c z
    · exact k.sg c z
theorem gd_tl {L : Nat} {x : Str} (l : List Nat) (e : tl x = l) (h : l.length ≤ L) (k : ∀ c ∈ l, c < 200) : Gd L x := ⟨by rw [len_tl, e]; exact h, by rw [e]; exact k⟩
theorem iL_sg (n : Int) : ∀ c ∈ FT.iL n, c < 200 := by
  intro c hc
  unfold FT.iL at hc
  have hd : ∀ c ∈ numL n.natAbs, c < 200 := fun c h => by
    have := numL_digits n.natAbs c h
    omega
  split at hc
  · rcases List.mem_cons.mp hc with z | z
    · omega
    · exact hd c z
  · exact hd c hc
theorem iL_30 {n : Int} (h : n.natAbs ≤ 10 ^ 30) : (FT.iL n).length ≤ 32 := by
  have nl : (numL n.natAbs).length ≤ 31 := numL_len (by decide) (Nat.lt_of_le_of_lt h (by decide +kernel))
  unfold FT.iL
  split <;> (try rw [List.length_cons]) <;> omega
theorem gd_line {m : FM.Mv} (h : Bm m) : Gd 105 (lineT m) := by
  have a := iL_30 h.1
  have b := iL_30 h.2.1
  have c := iL_30 h.2.2
  refine gd_tl _ (by rw [tl_line, tl_mT]) ?_ fun d hd => ?_
  · simp only [List.length_append, List.length_cons, List.length_nil]
    omega
  · simp only [List.mem_append, List.mem_cons, List.not_mem_nil, or_false] at hd
    rcases hd with h | h | h | h | h | h
    · omega
    · exact iL_sg _ _ h
    · omega
    · exact iL_sg _ _ h
    · omega
    · exact iL_sg _ _ h
theorem gd_join {L : Nat} : ∀ ps : List Str, (∀ p ∈ ps, Gd L p) → Gd (ps.length * (L + 1)) (Txt.join "\n" ps) := by
  intro ps h
  refine ⟨?_, ?_⟩
  · rw [join_eq]
    have := join_len (y := "\n") (L := L) ps fun p hp => (h p hp).len
    have e : ("\n" : Str).length = 1 := by decide +kernel
    rwa [e] at this
  · rw [join_eq, tl_join, tl_nl]
    have go : ∀ qs : List (List Nat), (∀ q ∈ qs, ∀ c ∈ q, c < 200) → ∀ c ∈ joinL [10] qs, c < 200 := by
      intro qs
      induction qs with
      | nil => intro _ c hc; cases hc
      | cons q qs ih =>
        intro hq c hc
        cases qs with
        | nil => exact hq q List.mem_cons_self c hc
        | cons q2 qs =>
          have hc : c ∈ q ++ ([10] ++ joinL [10] (q2 :: qs)) := hc
          rcases List.mem_append.mp hc with z | z
          · exact hq q List.mem_cons_self c z
          · rcases List.mem_append.mp z with z | z
            · have := List.mem_singleton.mp z; omega
            · exact ih (fun q hq' => hq q (List.mem_cons_of_mem _ hq')) c z
    exact go _ fun q hq => by
      obtain ⟨p, hp, rfl⟩ := List.mem_map.mp hq
      exact (h p hp).sg
theorem btn_bm {ms : List FM.Mv} (hb : Btn ms) : ∀ m ∈ ms, Bm m := hb.b
theorem gd_lot {ms : List FM.Mv} (hb : Btn ms) : Gd 530 (lotT ms) := by
  have := gd_join (L := 105) (ms.map lineT) fun p hp => by
    obtain ⟨m, hm, rfl⟩ := List.mem_map.mp hp
    exact gd_line (hb.b m hm)
  rw [List.length_map] at this
  exact this.mono (by have := hb.le; omega)
theorem gd_lit {z : Str} (h : (tl z).all (fun c => decide (c < 200)) = true) : Gd (tl z).length z := gd_tl _ rfl (Nat.le_refl _) fun c hc => by simpa using List.all_eq_true.mp h c hc
theorem sm_gd {n w : Nat} {z : Str} (h : Gd w z) : SmD n w (.str z) := sm_str h.len fun c hc => Nat.lt_trans (h.sg c hc) (by decide)
theorem sm_int30 {n : Nat} {a : Int} (h : a.natAbs ≤ 10 ^ 30) : SmD n 101 (.int a) := by
  have hl : a.natAbs.log2 ≤ 100 := by
    by_cases h0 : a.natAbs = 0
    · rw [h0]; decide
    · have h1 : a.natAbs < 2 ^ 101 := Nat.lt_of_le_of_lt h (by decide +kernel)
      have := (Nat.log2_lt h0).mpr h1
      omega
  have k := sm_int (n := n) (Nat.lt_of_le_of_lt h (by decide +kernel))
  refine ⟨k.pl, k.sh, k.sl, ?_⟩
  simp only [toP, PyData.weight]
  split <;> omega
theorem sm_row {n : Nat} {ms : List FM.Mv} (hb : Btn ms) : SmD (n + 2) 1535 (.tup (ms.map mw)) := by
  have := sm_tup (n := n + 1) (w := 306) (ds := ms.map mw) fun d hd => by
    obtain ⟨m, hm, rfl⟩ := List.mem_map.mp hd
    obtain ⟨h1, h2, h3⟩ := hb.b m hm
    exact sm_tup (n := n) (w := 101) (ds := [.int m.x, .int m.y, .int m.s]) fun d hd => by
      simp only [List.mem_cons, List.not_mem_nil, or_false] at hd
      rcases hd with rfl | rfl | rfl
      · exact sm_int30 h1
      · exact sm_int30 h2
      · exact sm_int30 h3
  exact this.mono (by rw [List.length_map]; have := hb.le; omega)
end A18

set_option Elab.async false
set_option linter.all false
set_option maxRecDepth 100000
set_option maxHeartbeats 1000000
set_option exponentiation.threshold 10000
namespace A18
open PySem PySem.Spec PyProof.Rows L2 Ar TL FT
local macro_rules | `(tactic| simp_arith) => `(tactic| simp -implicitDefEqProofs only [↓ok_ok, ↓ok_stk, ↓ok_exc, ↓ok_bind, ↓ok_nox, ↓ok_of, ↓ok_lenO, ↓ok_propO, ↓ok_txtO, ↓ok_clsM, ↓ok_tupRg, ↓ok_lstRg, ↓oko_some, ↓oko_none, ↓oko_ite, ↓oko_map, ↓ok_ite, ↓oks_nx, ↓oks_stk, ↓oks_exc, ↓oks_bk, ↓oks_ct, ↓oks_rt, ↓oks_then, ↓oks_thenN, ↓ok_var0, ↓ok_varS, ↓ok_c, ↓ok_bin, ↓ok_un, ↓okb, ↓ok_test, ↓ok_tru, ↓ok_and, ↓ok_or, ↓ok_not, ↓ok_andV, ↓ok_orV, ↓ok_notV, ↓ok_if, ↓ok_ifT, ↓ok_fld, ↓ok_slt, ↓o_slt0, ↓ok_make, ↓ok_makeS, ↓o_isaC, ↓o_isn_ins, ↓o_is_ins, ↓ok_izip, ↓zipR_ll, ↓zipR_tl, ↓zipR_tt, ↓o_parts, ↓o_shares, ↓o_east, ↓o_north, ↓o_rests, zip2, zip3, ↓ok_nil, ↓ok_cons, ↓ok_star, ↓seqA_tup, ↓seqA_lst, ↓ok_revL, ↓ok_revLM, ↓ok_cmp2, ↓ok_tup, ↓ok_lst, ↓ok_lstM, ↓ok_fn, ↓ok_call, ↓ok_callK, ↓ok_noPart, ↓oki, ↓ok_part, ↓ok_sl, ↓oks_next, ↓oks_seq, ↓oks_drop, ↓oks_ret, ↓oks_retN, ↓oks_break, ↓oks_cont, ↓oks_never, ↓oks_if, ↓oks_try, ↓oks_asg, ↓oks_set, ↓ok_gName, ↓ok_gNil, ↓ok_gCons, ↓ok_gTup, ↓ok_gUnl, ↓ok_gSub, ↓okl2, ↓okl3, ↓oks_par, ↓oks_par3, ↓okv0, ↓okvS, ↓oks_aug, ↓ok_append, ↓ok_extend, ↓seqL_lst, ↓ok_strM, ↓ok_def, ↓ok_iSeq, ↓oki1, ↓oki2, ↓ok_range1, ↓ok_range2, ↓oks_for, ↓ok_lc, ↓ok_finL, ↓ok_finM, ↓ok_yes, ↓setg0, ↓setgS, ↓unsetg0, ↓unsetgS, ↓wipeg0, ↓wipegS, ↓initg0, ↓initgN, ↓initgS, ↓lenis0, ↓lenisS, ↓lenle0, ↓lenleS, ↓seqI_lst, ↓seqIE_lst, ↓seqIE_tup, ↓seqIE_scr, ↓seqI_str, ↓okt, ↓ok_kIx, ↓ok_kGet, ↓ok_revS, ↓okd, ↓ok_dGet, ↓o_mulS, ↓seqI_tup, ↓seqI_scr, ↓o_ne_mv, ↓o_eq_mv, ↓ok_enum, ↓okl1, ↓o_mul_rep, ↓o_mul_iiF, cut_2of3, ↓o_ne_2, ↓o_eq_2, ↓o_ne_bb, ↓o_eq_bb, ↓o_tru_b, ↓o_tru_i, ↓o_tru_t, ↓o_tru_l, ↓o_tru_n, ↓o_isn_non, ↓o_isn_int, ↓o_isn_tup, ↓o_isn_lst, ↓o_isn_str, ↓o_is_non, ↓o_is_int, ↓o_is_tup, ↓o_is_lst, ↓o_is_str, ↓o_eq_ii, ↓o_ne_ii, ↓o_add_ii, ↓o_sub_ii, ↓o_mul_ii, ↓o_div_ii, ↓o_mod_ii, ↓o_lt_ii, ↓o_le_ii, ↓o_gt_ii, ↓o_ge_ii, ↓o_add_tt, ↓o_add_ll, ↓o_add_ss, ↓o_divmod_ii, ↓o_neg_i, ↓o_int_i, ↓o_abs_i, ↓o_max_ii, ↓o_max1_3, ↓o_min1_3, ↓o_min_ii, ↓o_len_tup, ↓o_len_lst, ↓o_len_scr, ↓o_slc_lst, ↓o_slc_scr, ↓o_slc_tup, ↓o_tuple_lst, ↓o_tuple_tup, ↓o_tuple_scr, ↓o_list_tup, ↓o_list_lst, ↓o_bool_b, ↓o_isa_int_int, ↓o_isa_int_bool, ↓o_isa_int_tup, ↓o_isa_int_str, ↓o_isa_int_lst, ↓o_isa_bl_int, ↓o_isa_bl_bool, ↓o_isa_tup_tup, ↓o_isa_tup_int, ↓o_isa_tup_lst, ↓o_isa_tup_str, ↓o_isa_str_str, ↓o_isa_str_int, ↓o_isa_str_tup, ↓o_isa_lst_lst, ↓o_isa_lst_tup, ↓o_isa_lst_int, ↓o_isa_non_int, ↓o_isa_non_tup, ↓o_sum_3, ↓o_all_3, ↓o_atI_0, ↓o_atI_1, ↓o_atI_2, ↓o_atI_3, ↓o_atI_4, ↓o_atI_5, ↓o_ixN_30, ↓o_ixN_31, ↓o_ixN_32, ↓o_fix_tup, ↓o_fix_lst, ↓o_fix_scr, ↓o_pow_6, ↓o_pow_18, pick_0, pick_01, pick_10, pick_012, pick_021, pick_102, pick_120, pick_201, pick_210, eq_self, List.cons_append, List.nil_append, List.append_nil, List.set_set, List.set_cons_zero, List.set_cons_succ, List.length_cons, List.length_nil, Nat.zero_add, Nat.reduceAdd, Nat.reduceLeDiff, castN, natabsN, mulOkL, mulOkR, Bool.true_or, Nat.reducePow, Nat.reduceLT, ne_eq, not_true_eq_false, not_false_eq_true, rng_3, rng_2, Int.reduceEq, Int.reduceLT, Int.reduceLE, Int.reduceAdd, Int.reduceSub, Int.reduceMul, Int.reduceNeg, true_and, and_true, if_true, if_false, Bool.false_eq_true, Bool.true_eq_false, decide_true, decide_false, Bool.not_true, Bool.not_false, Bool.and_true, Bool.true_and, Bool.and_false, Bool.false_and])
local macro_rules | `(tactic| simp_arith [$ts,*]) => `(tactic| simp -implicitDefEqProofs only [↓ok_ok, ↓ok_stk, ↓ok_exc, ↓ok_bind, ↓ok_nox, ↓ok_of, ↓ok_lenO, ↓ok_propO, ↓ok_txtO, ↓ok_clsM, ↓ok_tupRg, ↓ok_lstRg, ↓oko_some, ↓oko_none, ↓oko_ite, ↓oko_map, ↓ok_ite, ↓oks_nx, ↓oks_stk, ↓oks_exc, ↓oks_bk, ↓oks_ct, ↓oks_rt, ↓oks_then, ↓oks_thenN, ↓ok_var0, ↓ok_varS, ↓ok_c, ↓ok_bin, ↓ok_un, ↓okb, ↓ok_test, ↓ok_tru, ↓ok_and, ↓ok_or, ↓ok_not, ↓ok_andV, ↓ok_orV, ↓ok_notV, ↓ok_if, ↓ok_ifT, ↓ok_fld, ↓ok_slt, ↓o_slt0, ↓ok_make, ↓ok_makeS, ↓o_isaC, ↓o_isn_ins, ↓o_is_ins, ↓ok_izip, ↓zipR_ll, ↓zipR_tl, ↓zipR_tt, ↓o_parts, ↓o_shares, ↓o_east, ↓o_north, ↓o_rests, zip2, zip3, ↓ok_nil, ↓ok_cons, ↓ok_star, ↓seqA_tup, ↓seqA_lst, ↓ok_revL, ↓ok_revLM, ↓ok_cmp2, ↓ok_tup, ↓ok_lst, ↓ok_lstM, ↓ok_fn, ↓ok_call, ↓ok_callK, ↓ok_noPart, ↓oki, ↓ok_part, ↓ok_sl, ↓oks_next, ↓oks_seq, ↓oks_drop, ↓oks_ret, ↓oks_retN, ↓oks_break, ↓oks_cont, ↓oks_never, ↓oks_if, ↓oks_try, ↓oks_asg, ↓oks_set, ↓ok_gName, ↓ok_gNil, ↓ok_gCons, ↓ok_gTup, ↓ok_gUnl, ↓ok_gSub, ↓okl2, ↓okl3, ↓oks_par, ↓oks_par3, ↓okv0, ↓okvS, ↓oks_aug, ↓ok_append, ↓ok_extend, ↓seqL_lst, ↓ok_strM, ↓ok_def, ↓ok_iSeq, ↓oki1, ↓oki2, ↓ok_range1, ↓ok_range2, ↓oks_for, ↓ok_lc, ↓ok_finL, ↓ok_finM, ↓ok_yes, ↓setg0, ↓setgS, ↓unsetg0, ↓unsetgS, ↓wipeg0, ↓wipegS, ↓initg0, ↓initgN, ↓initgS, ↓lenis0, ↓lenisS, ↓lenle0, ↓lenleS, ↓seqI_lst, ↓seqIE_lst, ↓seqIE_tup, ↓seqIE_scr, ↓seqI_str, ↓okt, ↓ok_kIx, ↓ok_kGet, ↓ok_revS, ↓okd, ↓ok_dGet, ↓o_mulS, ↓seqI_tup, ↓seqI_scr, ↓o_ne_mv, ↓o_eq_mv, ↓ok_enum, ↓okl1, ↓o_mul_rep, ↓o_mul_iiF, cut_2of3, ↓o_ne_2, ↓o_eq_2, ↓o_ne_bb, ↓o_eq_bb, ↓o_tru_b, ↓o_tru_i, ↓o_tru_t, ↓o_tru_l, ↓o_tru_n, ↓o_isn_non, ↓o_isn_int, ↓o_isn_tup, ↓o_isn_lst, ↓o_isn_str, ↓o_is_non, ↓o_is_int, ↓o_is_tup, ↓o_is_lst, ↓o_is_str, ↓o_eq_ii, ↓o_ne_ii, ↓o_add_ii, ↓o_sub_ii, ↓o_mul_ii, ↓o_div_ii, ↓o_mod_ii, ↓o_lt_ii, ↓o_le_ii, ↓o_gt_ii, ↓o_ge_ii, ↓o_add_tt, ↓o_add_ll, ↓o_add_ss, ↓o_divmod_ii, ↓o_neg_i, ↓o_int_i, ↓o_abs_i, ↓o_max_ii, ↓o_max1_3, ↓o_min1_3, ↓o_min_ii, ↓o_len_tup, ↓o_len_lst, ↓o_len_scr, ↓o_slc_lst, ↓o_slc_scr, ↓o_slc_tup, ↓o_tuple_lst, ↓o_tuple_tup, ↓o_tuple_scr, ↓o_list_tup, ↓o_list_lst, ↓o_bool_b, ↓o_isa_int_int, ↓o_isa_int_bool, ↓o_isa_int_tup, ↓o_isa_int_str, ↓o_isa_int_lst, ↓o_isa_bl_int, ↓o_isa_bl_bool, ↓o_isa_tup_tup, ↓o_isa_tup_int, ↓o_isa_tup_lst, ↓o_isa_tup_str, ↓o_isa_str_str, ↓o_isa_str_int, ↓o_isa_str_tup, ↓o_isa_lst_lst, ↓o_isa_lst_tup, ↓o_isa_lst_int, ↓o_isa_non_int, ↓o_isa_non_tup, ↓o_sum_3, ↓o_all_3, ↓o_atI_0, ↓o_atI_1, ↓o_atI_2, ↓o_atI_3, ↓o_atI_4, ↓o_atI_5, ↓o_ixN_30, ↓o_ixN_31, ↓o_ixN_32, ↓o_fix_tup, ↓o_fix_lst, ↓o_fix_scr, ↓o_pow_6, ↓o_pow_18, pick_0, pick_01, pick_10, pick_012, pick_021, pick_102, pick_120, pick_201, pick_210, eq_self, List.cons_append, List.nil_append, List.append_nil, List.set_set, List.set_cons_zero, List.set_cons_succ, List.length_cons, List.length_nil, Nat.zero_add, Nat.reduceAdd, Nat.reduceLeDiff, castN, natabsN, mulOkL, mulOkR, Bool.true_or, Nat.reducePow, Nat.reduceLT, ne_eq, not_true_eq_false, not_false_eq_true, rng_3, rng_2, Int.reduceEq, Int.reduceLT, Int.reduceLE, Int.reduceAdd, Int.reduceSub, Int.reduceMul, Int.reduceNeg, true_and, and_true, if_true, if_false, Bool.false_eq_true, Bool.true_eq_false, decide_true, decide_false, Bool.not_true, Bool.not_false, Bool.and_true, Bool.true_and, Bool.and_false, Bool.false_and, $ts,*])
theorem sum_le {L : Nat} : ∀ ys : List Str, (∀ y ∈ ys, y.length ≤ L) → (ys.map (·.length)).sum ≤ ys.length * L
  | [], _ => by simp
  | y :: ys, h => by
    have := sum_le ys fun y hy => h y (List.mem_cons_of_mem _ hy)
    have := h y (List.mem_cons_self ..)
    rw [List.map_cons, List.sum_cons, List.length_cons, Nat.add_mul]
    omega
theorem textof_spec {m : FM.Mv} {μ : Mu} {Q : D → Mu → Prop} (h : Rb m) (q : Q (.str (mT m)) μ) : Ok (m_text_of [mw m] μ) Q := by
  have a := iT_len h.1
  have b := iT_len h.2.1
  have c := iT_len h.2.2
  have l1 : (Str.ofString " ").length = 1 := by decide +kernel
  unfold m_text_of
  simp_arith [↓ok_lcConsY, ↓ok_lcNil, ↓o_str_i h.1, ↓o_str_i h.2.1, ↓o_str_i h.2.2]
  refine ⟨rfl, ?_⟩
  have e := o_join (μ := μ) (a := Str.ofString " ") (ys := [FT.iT m.x, FT.iT m.y, FT.iT m.s]) (P := fun z => Q z μ) (by simp [l1]; omega)
  exact e.mpr q
theorem lines_lc {g0 : Option D} : ∀ (ms : List FM.Mv) {μ : Mu} {QL : List D → Mu → Prop}, (∀ m ∈ ms, Rb m) → QL ((ms.map lineT).map D.str) μ →
    Ok (lcL (dgName 1) dYes (dBin fAdd (dC (.str "button ")) (dCall m_text_of (daCons (dVar 1) (daNil)))) [g0, none] (ms.map mw) μ) QL
  | [], μ, QL, h, q => by rw [show ([] : List FM.Mv).map mw = [] from rfl, ok_lcNil]; exact q
  | m :: ms, μ, QL, h, q => by
    have hl := mT_len (h m (List.mem_cons_self ..))
    show Ok (lcL _ _ _ _ (mw m :: ms.map mw) μ) QL
    rw [ok_lcConsY]
    simp_arith
    refine textof_spec (h m (List.mem_cons_self ..)) ?_
    try simp_arith
    have l7 : (Str.ofString "button ").length = 7 := by decide +kernel
    refine ⟨by omega, lines_lc ms (fun m hm => h m (List.mem_cons_of_mem _ hm)) ?_⟩
    exact q
theorem lotlines_spec {ms : List FM.Mv} {μ : Mu} {Q : D → Mu → Prop} (hb : Btn ms) (q : Q (.lst ((ms.map lineT).map .str)) μ) : Ok (m_lot_lines [lotD ms] μ) Q := by
  have h5 := hb.le
  unfold m_lot_lines
  simp_arith
  refine ⟨by rw [List.length_map]; omega, lines_lc ms (btn_rb hb) ?_⟩
  exact q
theorem joinl {ms : List FM.Mv} {μ : Mu} {P : D → Prop} (hb : Btn ms) (q : P (.str (lotT ms))) : OkO (fJoin μ (.str (Str.ofString "\n")) (.lst ((ms.map lineT).map .str))) P := by
  have rb := btn_rb hb
  have h5 := hb.le
  have l1 : (Str.ofString "\n").length = 1 := by decide +kernel
  have s := sum_le (L := 1607) (ms.map lineT) fun y hy => by
    obtain ⟨m, hm, rfl⟩ := List.mem_map.mp hy
    exact line_len (rb m hm)
  refine (o_join (μ := μ) (a := Str.ofString "\n") (ys := ms.map lineT) ?_).mpr q
  rw [l1]
  rw [List.length_map] at s ⊢
  omega
theorem text_spec {ms : List FM.Mv} {μ : Mu} {Q : D → Mu → Prop} (hb : Btn ms) (q : Q (.str (lotT ms)) μ) : Ok (m_Lot__text [lotD ms] μ) Q := by
  unfold m_Lot__text
  simp_arith
  refine ⟨_, rfl, ?_⟩
  unfold m_Lot__str
  simp_arith
  refine ⟨rfl, lotlines_spec hb ?_⟩
  try simp_arith
  refine joinl hb ?_
  try simp_arith
  first | exact q | exact ⟨_, rfl, q⟩
theorem lp_lc {g0 : Option D} : ∀ (ms : List FM.Mv) {μ : Mu} {QL : List D → Mu → Prop}, (∀ m ∈ ms, Rb m) → QL ((ms.map lineT).map D.str) μ →
    Ok (lcL (dgName 1) dYes (dBin fAdd (dC (.str "button ")) (dStrM fJoin (dC (.str " ")) (dLcF finL [2] (diSeq (dVar 1)) (dgName 2) (dYes) (dFn fStr2 (daCons (dVar 2) (daNil)))))) [g0, none, none] (ms.map mw) μ) QL
  | [], μ, QL, h, q => by rw [show ([] : List FM.Mv).map mw = [] from rfl, ok_lcNil]; exact q
  | m :: ms, μ, QL, h, q => by
    have hm := h m List.mem_cons_self
    have hl := mT_len hm
    have a := iT_len hm.1
    have b := iT_len hm.2.1
    have c := iT_len hm.2.2
    have l1 : (Str.ofString " ").length = 1 := by decide +kernel
    have l7' : (Str.ofString "button ").length = 7 := by decide +kernel
    show Ok (lcL _ _ _ _ (mw m :: ms.map mw) μ) QL
    rw [ok_lcConsY]
    simp_arith [↓ok_lcConsY, ↓ok_lcNil, ↓o_str_i hm.1, ↓o_str_i hm.2.1, ↓o_str_i hm.2.2]
    refine ⟨rfl, ?_⟩
    have e := fun P => o_join (μ := μ) (a := Str.ofString " ") (ys := [iT m.x, iT m.y, iT m.s]) (P := P) (by simp [l1]; omega)
    refine (e _).mpr ?_
    rw [show Txt.join (Str.ofString " ") [iT m.x, iT m.y, iT m.s] = mT m from rfl]
    simp_arith
    exact ⟨by omega, lp_lc ms (fun m hm => h m (List.mem_cons_of_mem _ hm)) q⟩
theorem lawpage_spec {ms : List FM.Mv} {d : D} {μ : Mu} {Q : D → Mu → Prop} (hd : d = .lst (ms.map mw) ∨ d = .tup (ms.map mw)) (hb : Btn ms) (q : Q (.str (lotT ms)) μ) : Ok (m__law_page [d] μ) Q := by
  have h5 := hb.le
  unfold m__law_page
  rcases hd with rfl | rfl
  · simp_arith
    refine ⟨rfl, by rw [List.length_map]; omega, lp_lc ms (btn_rb hb) ?_⟩
    try simp_arith
    exact joinl hb q
  · simp_arith
    refine ⟨rfl, by rw [List.length_map]; omega, lp_lc ms (btn_rb hb) ?_⟩
    try simp_arith
    exact joinl hb q
end A18

set_option Elab.async false
set_option linter.all false
set_option maxRecDepth 100000
set_option maxHeartbeats 4000000
set_option exponentiation.threshold 10000
namespace A18
open PySem PySem.Spec PyProof.Rows L2 Ar TL FT
local macro_rules | `(tactic| simp_arith) => `(tactic| simp -implicitDefEqProofs only [↓ok_ok, ↓ok_stk, ↓ok_exc, ↓ok_bind, ↓ok_nox, ↓ok_of, ↓ok_lenO, ↓ok_propO, ↓ok_txtO, ↓ok_clsM, ↓ok_tupRg, ↓ok_lstRg, ↓oko_some, ↓oko_none, ↓oko_ite, ↓oko_map, ↓ok_ite, ↓oks_nx, ↓oks_stk, ↓oks_exc, ↓oks_bk, ↓oks_ct, ↓oks_rt, ↓oks_then, ↓oks_thenN, ↓ok_var0, ↓ok_varS, ↓ok_c, ↓ok_bin, ↓ok_un, ↓okb, ↓ok_test, ↓ok_tru, ↓ok_and, ↓ok_or, ↓ok_not, ↓ok_andV, ↓ok_orV, ↓ok_notV, ↓ok_if, ↓ok_ifT, ↓ok_fld, ↓ok_slt, ↓o_slt0, ↓ok_make, ↓ok_makeS, ↓o_isaC, ↓o_isn_ins, ↓o_is_ins, ↓ok_izip, ↓zipR_ll, ↓zipR_tl, ↓zipR_tt, ↓o_parts, ↓o_shares, ↓o_east, ↓o_north, ↓o_rests, zip2, zip3, ↓ok_nil, ↓ok_cons, ↓ok_star, ↓seqA_tup, ↓seqA_lst, ↓ok_revL, ↓ok_revLM, ↓ok_cmp2, ↓ok_tup, ↓ok_lst, ↓ok_lstM, ↓ok_fn, ↓ok_call, ↓ok_callK, ↓ok_noPart, ↓oki, ↓ok_part, ↓ok_sl, ↓oks_next, ↓oks_seq, ↓oks_drop, ↓oks_ret, ↓oks_retN, ↓oks_break, ↓oks_cont, ↓oks_never, ↓oks_if, ↓oks_try, ↓oks_asg, ↓oks_set, ↓ok_gName, ↓ok_gNil, ↓ok_gCons, ↓ok_gTup, ↓ok_gUnl, ↓ok_gSub, ↓okl2, ↓okl3, ↓oks_par, ↓oks_par3, ↓okv0, ↓okvS, ↓oks_aug, ↓ok_append, ↓ok_extend, ↓seqL_lst, ↓ok_strM, ↓ok_def, ↓ok_iSeq, ↓oki1, ↓oki2, ↓ok_range1, ↓ok_range2, ↓oks_for, ↓ok_lc, ↓ok_finL, ↓ok_finM, ↓ok_yes, ↓setg0, ↓setgS, ↓unsetg0, ↓unsetgS, ↓wipeg0, ↓wipegS, ↓initg0, ↓initgN, ↓initgS, ↓lenis0, ↓lenisS, ↓lenle0, ↓lenleS, ↓seqI_lst, ↓seqIE_lst, ↓seqIE_tup, ↓seqIE_scr, ↓seqI_str, ↓okt, ↓ok_kIx, ↓ok_kGet, ↓ok_revS, ↓okd, ↓ok_dGet, ↓o_mulS, ↓seqI_tup, ↓seqI_scr, ↓o_ne_mv, ↓o_eq_mv, ↓ok_enum, ↓okl1, ↓o_mul_rep, ↓o_mul_iiF, cut_2of3, ↓o_ne_2, ↓o_eq_2, ↓o_ne_bb, ↓o_eq_bb, ↓o_tru_b, ↓o_tru_i, ↓o_tru_t, ↓o_tru_l, ↓o_tru_n, ↓o_isn_non, ↓o_isn_int, ↓o_isn_tup, ↓o_isn_lst, ↓o_isn_str, ↓o_is_non, ↓o_is_int, ↓o_is_tup, ↓o_is_lst, ↓o_is_str, ↓o_eq_ii, ↓o_ne_ii, ↓o_add_ii, ↓o_sub_ii, ↓o_mul_ii, ↓o_div_ii, ↓o_mod_ii, ↓o_lt_ii, ↓o_le_ii, ↓o_gt_ii, ↓o_ge_ii, ↓o_add_tt, ↓o_add_ll, ↓o_add_ss, ↓o_divmod_ii, ↓o_neg_i, ↓o_int_i, ↓o_abs_i, ↓o_max_ii, ↓o_max1_3, ↓o_min1_3, ↓o_min_ii, ↓o_len_tup, ↓o_len_lst, ↓o_len_scr, ↓o_slc_lst, ↓o_slc_scr, ↓o_slc_tup, ↓o_tuple_lst, ↓o_tuple_tup, ↓o_tuple_scr, ↓o_list_tup, ↓o_list_lst, ↓o_bool_b, ↓o_isa_int_int, ↓o_isa_int_bool, ↓o_isa_int_tup, ↓o_isa_int_str, ↓o_isa_int_lst, ↓o_isa_bl_int, ↓o_isa_bl_bool, ↓o_isa_tup_tup, ↓o_isa_tup_int, ↓o_isa_tup_lst, ↓o_isa_tup_str, ↓o_isa_str_str, ↓o_isa_str_int, ↓o_isa_str_tup, ↓o_isa_lst_lst, ↓o_isa_lst_tup, ↓o_isa_lst_int, ↓o_isa_non_int, ↓o_isa_non_tup, ↓o_sum_3, ↓o_all_3, ↓o_atI_0, ↓o_atI_1, ↓o_atI_2, ↓o_atI_3, ↓o_atI_4, ↓o_atI_5, ↓o_ixN_30, ↓o_ixN_31, ↓o_ixN_32, ↓o_fix_tup, ↓o_fix_lst, ↓o_fix_scr, ↓o_pow_6, ↓o_pow_18, pick_0, pick_01, pick_10, pick_012, pick_021, pick_102, pick_120, pick_201, pick_210, eq_self, List.cons_append, List.nil_append, List.append_nil, List.set_set, List.set_cons_zero, List.set_cons_succ, List.length_cons, List.length_nil, Nat.zero_add, Nat.reduceAdd, Nat.reduceLeDiff, castN, natabsN, mulOkL, mulOkR, Bool.true_or, Nat.reducePow, Nat.reduceLT, ne_eq, not_true_eq_false, not_false_eq_true, rng_3, rng_2, Int.reduceEq, Int.reduceLT, Int.reduceLE, Int.reduceAdd, Int.reduceSub, Int.reduceMul, Int.reduceNeg, true_and, and_true, if_true, if_false, Bool.false_eq_true, Bool.true_eq_false, decide_true, decide_false, Bool.not_true, Bool.not_false, Bool.and_true, Bool.true_and, Bool.and_false, Bool.false_and])
local macro_rules | `(tactic| simp_arith [$ts,*]) => `(tactic| simp -implicitDefEqProofs only [↓ok_ok, ↓ok_stk, ↓ok_exc, ↓ok_bind, ↓ok_nox, ↓ok_of, ↓ok_lenO, ↓ok_propO, ↓ok_txtO, ↓ok_clsM, ↓ok_tupRg, ↓ok_lstRg, ↓oko_some, ↓oko_none, ↓oko_ite, ↓oko_map, ↓ok_ite, ↓oks_nx, ↓oks_stk, ↓oks_exc, ↓oks_bk, ↓oks_ct, ↓oks_rt, ↓oks_then, ↓oks_thenN, ↓ok_var0, ↓ok_varS, ↓ok_c, ↓ok_bin, ↓ok_un, ↓okb, ↓ok_test, ↓ok_tru, ↓ok_and, ↓ok_or, ↓ok_not, ↓ok_andV, ↓ok_orV, ↓ok_notV, ↓ok_if, ↓ok_ifT, ↓ok_fld, ↓ok_slt, ↓o_slt0, ↓ok_make, ↓ok_makeS, ↓o_isaC, ↓o_isn_ins, ↓o_is_ins, ↓ok_izip, ↓zipR_ll, ↓zipR_tl, ↓zipR_tt, ↓o_parts, ↓o_shares, ↓o_east, ↓o_north, ↓o_rests, zip2, zip3, ↓ok_nil, ↓ok_cons, ↓ok_star, ↓seqA_tup, ↓seqA_lst, ↓ok_revL, ↓ok_revLM, ↓ok_cmp2, ↓ok_tup, ↓ok_lst, ↓ok_lstM, ↓ok_fn, ↓ok_call, ↓ok_callK, ↓ok_noPart, ↓oki, ↓ok_part, ↓ok_sl, ↓oks_next, ↓oks_seq, ↓oks_drop, ↓oks_ret, ↓oks_retN, ↓oks_break, ↓oks_cont, ↓oks_never, ↓oks_if, ↓oks_try, ↓oks_asg, ↓oks_set, ↓ok_gName, ↓ok_gNil, ↓ok_gCons, ↓ok_gTup, ↓ok_gUnl, ↓ok_gSub, ↓okl2, ↓okl3, ↓oks_par, ↓oks_par3, ↓okv0, ↓okvS, ↓oks_aug, ↓ok_append, ↓ok_extend, ↓seqL_lst, ↓ok_strM, ↓ok_def, ↓ok_iSeq, ↓oki1, ↓oki2, ↓ok_range1, ↓ok_range2, ↓oks_for, ↓ok_lc, ↓ok_finL, ↓ok_finM, ↓ok_yes, ↓setg0, ↓setgS, ↓unsetg0, ↓unsetgS, ↓wipeg0, ↓wipegS, ↓initg0, ↓initgN, ↓initgS, ↓lenis0, ↓lenisS, ↓lenle0, ↓lenleS, ↓seqI_lst, ↓seqIE_lst, ↓seqIE_tup, ↓seqIE_scr, ↓seqI_str, ↓okt, ↓ok_kIx, ↓ok_kGet, ↓ok_revS, ↓okd, ↓ok_dGet, ↓o_mulS, ↓seqI_tup, ↓seqI_scr, ↓o_ne_mv, ↓o_eq_mv, ↓ok_enum, ↓okl1, ↓o_mul_rep, ↓o_mul_iiF, cut_2of3, ↓o_ne_2, ↓o_eq_2, ↓o_ne_bb, ↓o_eq_bb, ↓o_tru_b, ↓o_tru_i, ↓o_tru_t, ↓o_tru_l, ↓o_tru_n, ↓o_isn_non, ↓o_isn_int, ↓o_isn_tup, ↓o_isn_lst, ↓o_isn_str, ↓o_is_non, ↓o_is_int, ↓o_is_tup, ↓o_is_lst, ↓o_is_str, ↓o_eq_ii, ↓o_ne_ii, ↓o_add_ii, ↓o_sub_ii, ↓o_mul_ii, ↓o_div_ii, ↓o_mod_ii, ↓o_lt_ii, ↓o_le_ii, ↓o_gt_ii, ↓o_ge_ii, ↓o_add_tt, ↓o_add_ll, ↓o_add_ss, ↓o_divmod_ii, ↓o_neg_i, ↓o_int_i, ↓o_abs_i, ↓o_max_ii, ↓o_max1_3, ↓o_min1_3, ↓o_min_ii, ↓o_len_tup, ↓o_len_lst, ↓o_len_scr, ↓o_slc_lst, ↓o_slc_scr, ↓o_slc_tup, ↓o_tuple_lst, ↓o_tuple_tup, ↓o_tuple_scr, ↓o_list_tup, ↓o_list_lst, ↓o_bool_b, ↓o_isa_int_int, ↓o_isa_int_bool, ↓o_isa_int_tup, ↓o_isa_int_str, ↓o_isa_int_lst, ↓o_isa_bl_int, ↓o_isa_bl_bool, ↓o_isa_tup_tup, ↓o_isa_tup_int, ↓o_isa_tup_lst, ↓o_isa_tup_str, ↓o_isa_str_str, ↓o_isa_str_int, ↓o_isa_str_tup, ↓o_isa_lst_lst, ↓o_isa_lst_tup, ↓o_isa_lst_int, ↓o_isa_non_int, ↓o_isa_non_tup, ↓o_sum_3, ↓o_all_3, ↓o_atI_0, ↓o_atI_1, ↓o_atI_2, ↓o_atI_3, ↓o_atI_4, ↓o_atI_5, ↓o_ixN_30, ↓o_ixN_31, ↓o_ixN_32, ↓o_fix_tup, ↓o_fix_lst, ↓o_fix_scr, ↓o_pow_6, ↓o_pow_18, pick_0, pick_01, pick_10, pick_012, pick_021, pick_102, pick_120, pick_201, pick_210, eq_self, List.cons_append, List.nil_append, List.append_nil, List.set_set, List.set_cons_zero, List.set_cons_succ, List.length_cons, List.length_nil, Nat.zero_add, Nat.reduceAdd, Nat.reduceLeDiff, castN, natabsN, mulOkL, mulOkR, Bool.true_or, Nat.reducePow, Nat.reduceLT, ne_eq, not_true_eq_false, not_false_eq_true, rng_3, rng_2, Int.reduceEq, Int.reduceLT, Int.reduceLE, Int.reduceAdd, Int.reduceSub, Int.reduceMul, Int.reduceNeg, true_and, and_true, if_true, if_false, Bool.false_eq_true, Bool.true_eq_false, decide_true, decide_false, Bool.not_true, Bool.not_false, Bool.and_true, Bool.true_and, Bool.and_false, Bool.false_and, $ts,*])
theorem cut_take {xs : List D} {k : Nat} : cutL xs none (some (k : Int)) = xs.take k := by
  unfold cutL
  rw [HT.sIx_none, HT.sIx_nat, List.drop_zero, Nat.sub_zero]
  by_cases h : k ≤ xs.length
  · rw [Nat.min_eq_left h]
  · rw [Nat.min_eq_right (by omega), List.take_length, List.take_of_length_le (by omega)]
theorem cut_drop {xs : List D} {k : Nat} : cutL xs (some (k : Int)) none = xs.drop k := by
  unfold cutL
  rw [HT.sIx_none, HT.sIx_nat]
  by_cases h : k ≤ xs.length
  · rw [Nat.min_eq_left h, List.take_of_length_le (by rw [List.length_drop]; omega)]
  · rw [Nat.min_eq_right (by omega), List.drop_length, List.drop_of_length_le (by omega)]
    simp
/-- drawn moves in a row -/
theorem row_spec {n : Nat} {μ : Mu} {m : Int} {g1 g2 g3 g4 g5 g6 g7 g8 g9 g10 g11 g12 g13 : Option D} {Q : List D → Mu → Prop} (h : Wl n μ) (h0 : 0 < m) (h5 : m ≤ 5) (q : ∀ ms μ', Wl n μ' → Gr n μ μ' → Btn ms → Q (ms.map mw) μ') :
    Ok (lcL (dgName 14) dYes (dCall m__law_drawn (daCons (dVar 0) daNil)) [some (D.loc n), g1, g2, g3, g4, g5, g6, g7, g8, g9, g10, g11, g12, g13, none] (rngD 0 m.toNat) μ) Q := by
  refine (ok_lcInv (fun acc rest μ' => Wl n μ' ∧ Gr n μ μ' ∧ ∃ ms : List FM.Mv, acc = ms.map mw ∧ ms.length + rest.length = m.toNat ∧ ∀ x ∈ ms, x.x.natAbs ≤ 10 ^ 30 ∧ x.y.natAbs ≤ 10 ^ 30 ∧ x.s.natAbs ≤ 10 ^ 30) _ [] _ ⟨h, Gr.refl, [], rfl, by rw [rngD_len]; simp, fun d hd => by cases hd⟩ ?_).mono fun ys μ2 hy => ?_
  · rintro acc d rest μ' ⟨w, g, ms, rfl, hl, ha⟩
    simp_arith
    refine drawn_spec w fun a b c μ2 w2 g2 ha' hb hc => ⟨w2, g.trans g2, ms ++ [⟨a, b, c⟩], by rw [List.map_append]; rfl, by rw [List.length_append, List.length_singleton]; rw [List.length_cons] at hl; omega, fun x hx => ?_⟩
    rcases List.mem_append.mp hx with z | z
    · exact ha x z
    · rw [List.mem_singleton.mp z]; exact ⟨Nat.le_of_lt ha', Nat.le_of_lt hb, Nat.le_of_lt hc⟩
  · obtain ⟨w, g, ms, rfl, hl, ha⟩ := hy
    have hl : ms.length = m.toNat := by simpa using hl
    exact q ms μ2 w g ⟨fun e => by rw [e] at hl; simp at hl; omega, by omega, ha⟩
theorem ok_js3 [ExW] {a b c : DE} {Γ : Gam} {μ μ2 : Mu} {x y z : Str} {Q : D → Mu → Prop} (ha : a Γ μ = .ok (.str x) μ) (hb : b Γ μ = .ok (.str y) μ) (hc : c Γ μ = .ok (.str z) μ) (hx : (Str.empty ++ x).length ≤ 1000000) (hy : (Str.empty ++ x ++ y).length ≤ 1000000) (hz : (Str.empty ++ x ++ y ++ z).length ≤ 1000000) (q : Q (.str (Str.empty ++ x ++ y ++ z)) μ) : Ok (dJs3 a b c Γ μ) Q := by
  unfold dJs3
  rw [ha]
  show Ok (if _ then _ else _) Q
  rw [if_pos hx, hb]
  show Ok (if _ then _ else _) Q
  rw [if_pos hy, hc]
  show Ok (if _ then _ else _) Q
  rw [if_pos hz]
  exact q
/-- repr of a lot of n buttons -/
def repT (n : Nat) : Str := Str.ofString "Lot of " ++ iT n ++ Str.ofString " buttons"
theorem emp_app {x : Str} : Str.empty ++ x = x := ext_tl (by rw [tl_append]; rfl)
theorem repT_gd {n : Nat} (h : n ≤ 5) : Gd 100 (repT n) := by
  have a : Gd 20 (Str.ofString "Lot of ") := (gd_lit (by decide +kernel)).mono (by decide +kernel)
  have c : Gd 20 (Str.ofString " buttons") := (gd_lit (by decide +kernel)).mono (by decide +kernel)
  have b : Gd 32 (iT (n : Int)) := gd_tl _ (tl_iT _) (iL_30 (Nat.le_trans (show ((n : Int)).natAbs ≤ 5 by omega) (by decide))) (iL_sg _)
  exact (gd_app (gd_app a b) c).mono (by decide)
theorem repr_spec {ms : List FM.Mv} {μ : Mu} {Q : D → Mu → Prop} (hb : Btn ms) (q : Q (.str (repT ms.length)) μ) : Ok (m_Lot__repr [lotD ms] μ) Q := by
  have h5 := hb.le
  have hg := (repT_gd h5).len
  unfold m_Lot__repr
  simp_arith
  have hl : ((ms.length : Nat) : Int).natAbs.log2 < 1920 := by
    have : ((ms.length : Nat) : Int).natAbs = ms.length := by omega
    rw [this]
    match ms.length, h5 with
    | 0, _ | 1, _ | 2, _ | 3, _ | 4, _ | 5, _ => decide
  have t := hg
  unfold repT at t
  rw [len_tl, tl_append, tl_append, List.length_append, List.length_append] at t
  refine ok_js3 (x := Str.ofString "Lot of ") (y := iT (ms.length : Nat)) (z := Str.ofString " buttons") (μ2 := μ) rfl ?_ rfl ?_ ?_ ?_ ?_
  · have : (dFn fLen (daCons (dSlt "Lot" 0 (dVar 0)) daNil)) [some (lotD ms)] μ = .ok (.int (ms.length : Nat)) μ := by
      have h : (dFn fLen (daCons (dSlt "Lot" 0 (dVar 0)) daNil)) [some (lotD ms)] μ = .ok (.int ((ms.map mw).length : Nat)) μ := rfl
      rw [h, List.length_map]
    unfold dFmt
    rw [this]
    show (if _ then _ else _) = _
    rw [if_pos hl]
    rfl
  · rw [emp_app, len_tl]; omega
  · rw [emp_app, len_tl, tl_append, List.length_append]; omega
  · rw [emp_app, len_tl, tl_append, tl_append, List.length_append, List.length_append]; omega
  · rw [emp_app]; exact q
theorem lenlot_spec {ms : List FM.Mv} {μ : Mu} {Q : D → Mu → Prop} (q : Q (.int (ms.length : Nat)) μ) : Ok (m_Lot__len [lotD ms] μ) Q := by
  unfold m_Lot__len
  simp_arith
  rw [List.length_map]
  exact q
theorem plain_btn {ms : List FM.Mv} : plainD 20 (.tup (ms.map mw)) = true := List.all_eq_true.mpr fun d hd => by obtain ⟨m, _, rfl⟩ := List.mem_map.mp hd; rfl
theorem picked_spec {n : Nat} {ms : List FM.Mv} {μ : Mu} {Q : D → Mu → Prop} (h : Wl n μ) (hc : ms.length ≤ 5) (q : ∀ (fs : List FM.Mv) (m : Nat) μ', Wl n μ' → Gr n μ μ' → fs.Perm ms → μ.length ≤ m → μ'[m]? = some (.lst (fs.map mw)) → Q (.loc m) μ') : Ok (m__law_picked [.loc n, .tup (ms.map mw), .int (ms.length : Nat)] μ) Q := by
  unfold m__law_picked
  simp_arith
  refine ⟨by omega, ?_⟩
  have ln : n < μ.length := h.lt
  refine oks_forInv (fun pre rest Γ μ' => Wl n μ' ∧ Gr n μ μ' ∧ ∃ (fs rs : List FM.Mv) (o5 o6 : Option D), Γ = [some (.loc n), some (.tup (ms.map mw)), some (.int (ms.length : Nat)), some (.lst (rs.map mw)), some (.loc μ.length), o5, o6] ∧ μ'[μ.length]? = some (.lst (fs.map mw)) ∧ (fs ++ rs).Perm ms ∧ rs.length = rest.length) _ [] _ _ ⟨h.app, Gr.app, [], ms, _, _, rfl, by simp, by rw [List.nil_append], by rw [rngD_len]; omega⟩ ?_ ?_
  · rintro pre d rest Γ μ1 ⟨w1, g1, fs, rs, o5, o6, rfl, e1, nd, hl⟩
    rw [List.length_cons] at hl
    have hl2 := nd.length_eq
    rw [List.length_append] at hl2
    have lD : ∀ rs : List FM.Mv, (rs.map mw).length = rs.length := fun rs => List.length_map ..
    simp_arith [lD]
    refine dip_spec w1 (by omega) (by omega) fun a μ2 w2 g2 a0 a1 => ?_
    obtain ⟨a, rfl⟩ := Int.eq_ofNat_of_zero_le a0
    have ha : a < rs.length := by omega
    have ea : atI (rs.map mw) (a : Int) = some (mw rs[a]) := by
      rw [Ar.atI_nat]
      rw [List.getElem?_map, List.getElem?_eq_getElem ha]
      rfl
    have e2 := g2.at_ _ _ (by omega) e1
    simp_arith [ea, ↓o_place e2, lD]
    refine ⟨by omega, ?_⟩
    have ct : cutL (rs.map mw) none (some (a : Int)) = (rs.take a).map mw := by rw [cut_take, List.map_take]
    have cd : cutL (rs.map mw) (some ((a : Int) + 1)) none = (rs.drop (a + 1)).map mw := by
      rw [show ((a : Int) + 1) = ((a + 1 : Nat) : Int) from by omega, cut_drop, List.map_drop]
    rw [ct, cd]
    have ap : (rs.take a).map mw ++ (rs.drop (a + 1)).map mw = (rs.take a ++ rs.drop (a + 1)).map mw := by rw [List.map_append]
    try rw [ap]
    try refine ⟨by rw [lD, lD, List.length_take, List.length_drop]; omega, ?_⟩
    have sp : rs = rs.take a ++ rs[a] :: rs.drop (a + 1) := by rw [List.getElem_cons_drop, List.take_append_drop]
    have pm : ((fs ++ [rs[a]]) ++ (rs.take a ++ rs.drop (a + 1))).Perm (fs ++ rs) := by
      rw [List.append_assoc]
      refine List.Perm.append_left fs ?_
      conv => rhs; rw [sp]
      show (rs[a] :: (rs.take a ++ rs.drop (a + 1))).Perm _
      exact (List.perm_middle).symm
    refine ⟨w2.set (by omega), (g1.trans g2).setN (by omega), fs ++ [rs[a]], rs.take a ++ rs.drop (a + 1), _, _, rfl, ?_, pm.trans nd, by rw [List.length_append, List.length_take, List.length_drop]; omega⟩
    rw [List.getElem?_set_self (List.getElem?_eq_some_iff.mp e2).1]
    rw [List.map_append]
    rfl
  · rintro pre Γ μ1 ⟨w1, g1, fs, rs, o5, o6, rfl, e1, nd, hl⟩
    simp_arith
    have : rs = [] := List.eq_nil_of_length_eq_zero (by simpa using hl)
    subst this
    rw [List.append_nil] at nd
    exact q fs _ μ1 w1 g1 nd (Nat.le_refl _) e1
/-! likeness -/
theorem lot_inj {ms ns : List FM.Mv} (h : lotT ms = lotT ns) (a : Btn ms) (b : Btn ns) : ms = ns := by
  have e : Txt.split (lotT ms) "\n" = Txt.split (lotT ns) "\n" := by rw [h]
  rw [lotT_split a.ne, lotT_split b.ne] at e
  clear h
  have ii : ∀ x y : Int, x.natAbs ≤ 10 ^ 30 → y.natAbs ≤ 10 ^ 30 → iT x = iT y → x = y := fun x y hx hy h => by
    have e1 := int_iT (n := x) (by have := iL_30 hx; omega)
    have e2 := int_iT (n := y) (by have := iL_30 hy; omega)
    rw [h, e2] at e1
    exact (Option.some.inj e1).symm
  have go : ∀ xs ys : List FM.Mv, xs.map lineT = ys.map lineT → (∀ x ∈ xs, Bm x) → (∀ y ∈ ys, Bm y) → xs = ys := by
    intro xs
    induction xs with
    | nil =>
      intro ys e _ _
      cases ys with
      | nil => rfl
      | cons y ys => cases e
    | cons x xs ih =>
      intro ys e h1 h2
      cases ys with
      | nil => cases e
      | cons y ys =>
        rw [List.map_cons, List.map_cons] at e
        obtain ⟨e1, e2⟩ := List.cons.inj e
        have et : tl (lineT x) = tl (lineT y) := by rw [e1]
        rw [tl_line, tl_line] at et
        have em : mT x = mT y := ext_tl (List.append_cancel_left et)
        have es : Txt.split (mT x) " " = Txt.split (mT y) " " := by rw [em]
        rw [mT_split, mT_split] at es
        simp only [List.cons.injEq, and_true] at es
        obtain ⟨a1, a2, a3⟩ := h1 x List.mem_cons_self
        obtain ⟨b1, b2, b3⟩ := h2 y List.mem_cons_self
        have hxy : x = y := by
          have i1 := ii _ _ a1 b1 es.1
          have i2 := ii _ _ a2 b2 es.2.1
          have i3 := ii _ _ a3 b3 es.2.2
          obtain ⟨p, q, r⟩ := x
          obtain ⟨p', q', r'⟩ := y
          simp only at i1 i2 i3
          rw [i1, i2, i3]
        rw [hxy, ih ys e2 (fun x h => h1 x (List.mem_cons_of_mem _ h)) fun y h => h2 y (List.mem_cons_of_mem _ h)]
  exact go ms ns e a.b b.b
theorem row_eq : ∀ ms ns : List FM.Mv, eqLs (eqD 19) (ms.map mw) (ns.map mw) = true ↔ ms = ns
  | [], [] => by simp [eqLs]
  | [], n :: ns => by simp [eqLs]
  | m :: ms, [] => by simp [eqLs]
  | m :: ms, n :: ns => by
    have ih := row_eq ms ns
    have e : eqD 19 (mw m) (mw n) = true ↔ m = n := by
      have : eqD 19 (mw m) (mw n) = (decide (m.x = n.x) && (decide (m.y = n.y) && (decide (m.s = n.s) && true))) := rfl
      rw [this]
      obtain ⟨a, b, c⟩ := m
      obtain ⟨d, e, f⟩ := n
      simp
    rw [List.map_cons, List.map_cons]
    show (eqD 19 (mw m) (mw n) && eqLs (eqD 19) (ms.map mw) (ns.map mw)) = true ↔ _
    rw [Bool.and_eq_true, e, ih]
    simp
theorem o_eq_row {ms ns : List FM.Mv} {μ : Mu} {P : D → Prop} (q : ∀ b : Bool, (b = true ↔ ms = ns) → P (.bl b)) : OkO (fEq μ (.tup (ms.map mw)) (.tup (ns.map mw))) P := by
  have e : fEq μ (.tup (ms.map mw)) (.tup (ns.map mw)) = some (.bl (eqLs (eqD 19) (ms.map mw) (ns.map mw))) := if_pos ⟨plain_btn, plain_btn⟩
  rw [e]
  exact q _ (row_eq ms ns)
theorem eq_lots {ms ns : List FM.Mv} {μ : Mu} {Q : D → Mu → Prop} (q : ∀ b : Bool, (b = true ↔ ms = ns) → Q (.bl b) μ) : Ok (m_Lot__eq [lotD ms, lotD ns] μ) Q := by
  have hk : orC (fIsaC "Lot") (fIsaCN "Lot") μ [lotD ns, .glo "Lot"] = some (.bl true) := rfl
  unfold m_Lot__eq
  simp_arith [hk]
  exact o_eq_row fun b h => q b h
theorem eq_oth {ms : List FM.Mv} {v : D} {μ : Mu} {Q : D → Mu → Prop} (h : (tyN μ v).isSome = true) (q : Q (.bl false) μ) : Ok (m_Lot__eq [lotD ms, v] μ) Q := by
  have hk : orC (fIsaC "Lot") (fIsaCN "Lot") μ [v, .glo "Lot"] = some (.bl false) := by
    have e2 : fIsaCN "Lot" μ [v, .glo "Lot"] = some (.bl false) := by
      unfold fIsaCN
      simp only [h, and_self, if_true]
    have e1 : fIsaC "Lot" μ [v, .glo "Lot"] = none := by
      cases v <;> first | rfl | (unfold tyN at h; cases h)
    unfold orC
    rw [e1, e2]
  unfold m_Lot__eq
  simp_arith [hk]
  exact q
abbrev MB : DS := (dSeq (dPar 11 12 (daCons (dMakeS "Lot" m_wrong_button (daCons (dVar 10) (daNil))) (daCons (dBin fEq (dCall m__law_page (daCons (dVar 10) (daNil))) (dCall m__law_page (daCons (dVar 2) (daNil)))) (daNil)))) (dIfS (dTest (dBin fNe (dFn (orC (orC fRepr fReprE) fReprD) (daCons (dLst (daCons (dOwnQ false "Lot" m_Lot__eq (dVar 3) (dVar 11)) (daCons (dOwnQ false "Lot" m_Lot__eq (dVar 11) (dVar 3)) (daCons (dOwnQ true "Lot" m_Lot__eq (dVar 3) (dVar 11)) (daNil))))) (daNil))) (dFn (orC (orC fRepr fReprE) fReprD) (daCons (dLst (daCons (dVar 12) (daCons (dVar 12) (daCons (dNotV (dVar 12)) (daNil))))) (daNil))))) (dRet (dC (.bl false))) (dsNext)))
abbrev TB : DS := (dIfS (dOr (dTest (dOwnQ false "Lot" m_Lot__eq (dVar 3) (dVar 13))) (dOr (dTest (dOwnR "Lot" m_Lot__eq (dVar 13) (dVar 3))) (dNot (dTest (dOwnQ true "Lot" m_Lot__eq (dVar 3) (dVar 13)))))) (dRet (dC (.bl false))) (dsNext))
theorem mate_v {ms ns : List FM.Mv} {g0 g1 g4 g5 g6 g7 g8 g9 g11 g12 g13 g14 : Option D} {μ : Mu} {N B C : Gam → Mu → Prop} {T : D → Mu → Prop} (hb : Btn ms) (hn : Btn ns) (q : ∀ g11 g12, N [g0, g1, some (.tup (ms.map mw)), some (lotD ms), g4, g5, g6, g7, g8, g9, some (.tup (ns.map mw)), g11, g12, g13, g14] μ) :
    OkS (MB [g0, g1, some (.tup (ms.map mw)), some (lotD ms), g4, g5, g6, g7, g8, g9, some (.tup (ns.map mw)), g11, g12, g13, g14] μ) N B C T := by
  unfold MB
  simp_arith
  refine wrong_spec hn ⟨rfl, ?_⟩
  refine lawpage_spec (.inr rfl) hn ?_
  refine lawpage_spec (.inr rfl) hb ?_
  have es : ∀ (μ : Mu) (x z : Str) (P : D → Prop), OkO (fEq μ (.str x) (.str z)) P = P (.bl (x == z)) := fun _ _ _ _ => rfl
  rw [es]
  have hd : ((lotT ns == lotT ms) = true) ↔ ms = ns := by
    rw [beq_iff_eq]
    exact ⟨fun h => (lot_inj h hn hb).symm, fun h => by rw [h]⟩
  generalize (lotT ns == lotT ms) = d at *
  simp_arith [↓ok_ownQ]
  have ck : ∀ μ ms, cmpOk "Lot" μ (lotD ms) = true := fun μ ms => by simp [cmpOk]
  refine ⟨_, rfl, ck _ _, eq_lots fun b1 h1 => ⟨_, rfl, _, rfl, ck _ _, eq_lots fun b2 h2 => ⟨_, rfl, _, rfl, ck _ _, eq_lots fun b3 h3 => ⟨_, rfl, ?_⟩⟩⟩⟩
  have e1 : b1 = d := by rw [Bool.eq_iff_iff, h1, hd]
  have e2 : b2 = d := by rw [Bool.eq_iff_iff, h2, hd]; exact eq_comm
  have e3 : b3 = d := by rw [Bool.eq_iff_iff, h3, hd]
  subst e1 e2 e3
  have sm : SmD 20 40000 (.lst [D.bl b3, D.bl b3, D.bl !b3]) := by
    refine (sm_lst (n := 19) (w := 1) fun d hd => ?_).mono (by simp)
    simp only [List.mem_cons, List.not_mem_nil, or_false] at hd
    rcases hd with rfl | rfl | rfl <;> exact sm_bl
  have e : ∀ μ, orC (orC fRepr fReprE) fReprD μ [.lst [D.bl b3, D.bl b3, D.bl !b3]] = some (.str _) := fun μ => sm.rpF (by decide)
  have en : (b3 != true) = !b3 := by cases b3 <;> rfl
  have ef : (b3 != false) = b3 := by cases b3 <;> rfl
  rw [en, ef, e, oko_some, oko_some]
  have es2 : ∀ (μ : Mu) (z : Str) (P : D → Prop), OkO (fNe μ (.str z) (.str z)) P = P (.bl (!(z == z))) := fun _ _ _ => rfl
  have e1 : ∀ z : Str, (z == z) = true := fun z => by simp
  simp_arith [↓es2, e1]
  exact q _ _
theorem thing_v {ms : List FM.Mv} {v : D} {g0 g1 g2 g4 g5 g6 g7 g8 g9 g10 g11 g12 g14 : Option D} {μ : Mu} {N B C : Gam → Mu → Prop} {T : D → Mu → Prop} (hv : ∀ μ, (tyN μ v).isSome = true) (q : N [g0, g1, g2, some (lotD ms), g4, g5, g6, g7, g8, g9, g10, g11, g12, some v, g14] μ) :
    OkS (TB [g0, g1, g2, some (lotD ms), g4, g5, g6, g7, g8, g9, g10, g11, g12, some v, g14] μ) N B C T := by
  have ck : ∀ μ, cmpOk "Lot" μ v = true := fun μ => by
    have := hv μ
    cases v <;> first | exact this | (unfold tyN at this; cases this)
  unfold TB
  try simp_arith [↓ok_ownQ, ↓ok_ownR]
  refine ⟨_, rfl, ck _, eq_oth (hv _) ⟨_, rfl, ?_⟩⟩
  try simp_arith [↓ok_ownQ, ↓ok_ownR]
  refine ⟨_, rfl, hv _, eq_oth (hv _) ⟨_, rfl, ?_⟩⟩
  try simp_arith [↓ok_ownQ, ↓ok_ownR]
  refine ⟨_, rfl, ck _, eq_oth (hv _) ⟨_, rfl, ?_⟩⟩
  try simp_arith
  exact q
theorem ok_emp [ExW] {Γ : Gam} {μ : Mu} {Q : D → Mu → Prop} : Ok (dEmp Γ μ) Q = Q (.dK []) μ := rfl
@[irreducible] def RS : DS := (dSeq (dDrop (dAppend (dVar 9) (dFn fTuple (daCons (dCall m__law_picked (daCons (dVar 0) (daCons (dVar 2) (daCons (dFn fLen (daCons (dVar 2) (daNil))) (daNil))))) (daNil))))) (dSeq (dDrop (dAppend (dVar 9) (dBin fAdd (dBin fAdd (dSl (dVar 2) (dNoPart) (dPart (dVar 4))) (dTup (daCons (dTup (daCons (dVar 6) (daCons (dVar 5) (daCons (dVar 7) (daNil))))) (daNil)))) (dSl (dVar 2) (dPart (dBin fAdd (dVar 4) (dC (.int 1)))) (dNoPart))))) (dSeq (dDrop (dAppend (dVar 9) (dIf (dTest (dBin fLt (dFn fLen (daCons (dVar 2) (daNil))) (dC (.int 5)))) (dBin fAdd (dVar 2) (dSl (dVar 2) (dNoPart) (dPart (dC (.int 1))))) (dSl (dVar 2) (dNoPart) (dPart (dC (.int 4))))))) (dSeq (dFor (diSeq (dVar 9)) (dgName 10) (dSeq (dPar 11 12 (daCons (dMakeS "Lot" m_wrong_button (daCons (dVar 10) (daNil))) (daCons (dBin fEq (dCall m__law_page (daCons (dVar 10) (daNil))) (dCall m__law_page (daCons (dVar 2) (daNil)))) (daNil)))) (dIfS (dTest (dBin fNe (dFn (orC (orC fRepr fReprE) fReprD) (daCons (dLst (daCons (dOwnQ false "Lot" m_Lot__eq (dVar 3) (dVar 11)) (daCons (dOwnQ false "Lot" m_Lot__eq (dVar 11) (dVar 3)) (daCons (dOwnQ true "Lot" m_Lot__eq (dVar 3) (dVar 11)) (daNil))))) (daNil))) (dFn (orC (orC fRepr fReprE) fReprD) (daCons (dLst (daCons (dVar 12) (daCons (dVar 12) (daCons (dNotV (dVar 12)) (daNil))))) (daNil))))) (dRet (dC (.bl false))) (dsNext)))) (dFor (diSeq (dLst (daCons (dPropO "Lot" m_Lot__text (dVar 3)) (daCons (dVar 2) (daCons (dC .non) (daCons (dC (.int 0)) (daCons (dLst (daCons (dVar 3) (daNil))) (daCons (dTup (daCons (dVar 3) (daNil))) (daCons (dC (.bl true)) (daCons (dEmp) (daCons (dTxtO "Lot" m_Lot__repr (dVar 3)) (daCons (dLenO "Lot" m_Lot__len (dVar 3)) (daNil))))))))))))) (dgName 13) (dIfS (dOr (dTest (dOwnQ false "Lot" m_Lot__eq (dVar 3) (dVar 13))) (dOr (dTest (dOwnR "Lot" m_Lot__eq (dVar 13) (dVar 3))) (dNot (dTest (dOwnQ true "Lot" m_Lot__eq (dVar 3) (dVar 13)))))) (dRet (dC (.bl false))) (dsNext)))))))
def rwD (ns : List FM.Mv) : D := .tup (ns.map mw)
theorem mates_lp {ms : List FM.Mv} {g0 g1 g4 g5 g6 g7 g8 g9 g13 g14 : Option D} {μ : Mu} (hb : Btn ms) : ∀ (xs : List (List FM.Mv)) {g10 g11 g12 : Option D} {N B C : Gam → Mu → Prop} {T : D → Mu → Prop}, (∀ ns ∈ xs, Btn ns) → (∀ g10 g11 g12, N [g0, g1, some (.tup (ms.map mw)), some (lotD ms), g4, g5, g6, g7, g8, g9, g10, g11, g12, g13, g14] μ) →
    OkS (forL (dgName 10) MB (xs.map rwD) [g0, g1, some (.tup (ms.map mw)), some (lotD ms), g4, g5, g6, g7, g8, g9, g10, g11, g12, g13, g14] μ) N B C T
  | [], g10, g11, g12, N, B, C, T, h, q => q _ _ _
  | ns :: xs, g10, g11, g12, N, B, C, T, h, q => by
    rw [List.map_cons, oks_forCons]
    refine mate_v hb (h ns List.mem_cons_self) fun g11 g12 => ?_
    exact mates_lp hb xs (fun n hn => h n (List.mem_cons_of_mem _ hn)) q
theorem things_lp {ms : List FM.Mv} {g0 g1 g2 g4 g5 g6 g7 g8 g9 g10 g11 g12 g14 : Option D} {μ : Mu} : ∀ (vs : List D) {g13 : Option D} {N B C : Gam → Mu → Prop} {T : D → Mu → Prop}, (∀ v ∈ vs, ∀ μ, (tyN μ v).isSome = true) → (∀ g13, N [g0, g1, g2, some (lotD ms), g4, g5, g6, g7, g8, g9, g10, g11, g12, g13, g14] μ) →
    OkS (forL (dgName 13) TB vs [g0, g1, g2, some (lotD ms), g4, g5, g6, g7, g8, g9, g10, g11, g12, g13, g14] μ) N B C T
  | [], g13, N, B, C, T, h, q => q _
  | v :: vs, g13, N, B, C, T, h, q => by
    rw [oks_forCons]
    refine thing_v (h v List.mem_cons_self) ?_
    exact things_lp vs (fun n hn => h n (List.mem_cons_of_mem _ hn)) q
theorem ok_seqL {m : Nat} {μ : Mu} {ds : List D} {Q : List D → Mu → Prop} (e : μ[m]? = some (.lst ds)) : Ok (seqI (.loc m) μ) Q = Q ds (μ.set m (.frz ds)) := by
  unfold seqI
  simp only [e]
  rfl
theorem btn_take {ms : List FM.Mv} {k : Nat} (hb : Btn ms) (hk : 0 < k) : Btn (ms.take k) := ⟨fun e => by
  have := congrArg List.length e
  have := List.length_pos_iff.mpr hb.ne
  rw [List.length_take, List.length_nil] at *
  omega, by rw [List.length_take]; have := hb.le; omega, fun m h => hb.b m (List.mem_of_mem_take h)⟩
theorem btn_ins {ms : List FM.Mv} {a : Nat} {m : FM.Mv} (hb : Btn ms) (ha : a < ms.length) (hm : Bm m) : Btn (ms.take a ++ [m] ++ ms.drop (a + 1)) := ⟨by simp, by
  rw [List.length_append, List.length_append, List.length_take, List.length_drop, List.length_singleton]
  have := hb.le
  omega, fun x h => by
    rcases List.mem_append.mp h with h | h
    · rcases List.mem_append.mp h with h | h
      · exact hb.b x (List.mem_of_mem_take h)
      · rw [List.mem_singleton.mp h]; exact hm
    · exact hb.b x (List.mem_of_mem_drop h)⟩
theorem btn_perm {ms ns : List FM.Mv} (hb : Btn ms) (h : ns.Perm ms) : Btn ns := ⟨fun e => by
  subst e
  exact hb.ne (List.nil_perm.mp h), by rw [h.length_eq]; exact hb.le, fun x hx => hb.b x (h.mem_iff.mp hx)⟩
theorem rest_v {ms : List FM.Mv} {xs : List (List FM.Mv)} {n m9 a : Nat} {x y s : Int} {g1 g8 o10 o11 o12 o13 g14 : Option D} {μ0 μ : Mu} {N B C : Gam → Mu → Prop} {T : D → Mu → Prop} (hb : Btn ms) (hxs : ∀ ns ∈ xs, Btn ns) (hl : xs.length ≤ 100) (ha : a < ms.length) (hm : Bm ⟨x, y, s⟩)
    (w : Wl n μ) (g : Gr n μ0 μ) (h9 : μ0.length ≤ m9) (hn : n < μ0.length) (em : μ[m9]? = some (.lst (xs.map rwD)))
    (q : ∀ μ' o10 o11 o12 o13, Wl n μ' → Gr n μ0 μ' → N [some (.loc n), g1, some (.tup (ms.map mw)), some (lotD ms), some (.int a), some (.int x), some (.int y), some (.int s), g8, some (.loc m9), o10, o11, o12, o13, g14] μ') :
    OkS (RS [some (.loc n), g1, some (.tup (ms.map mw)), some (lotD ms), some (.int a), some (.int x), some (.int y), some (.int s), g8, some (.loc m9), o10, o11, o12, o13, g14] μ) N B C T := by
  have h5 := hb.le
  have h0 : 0 < ms.length := List.length_pos_iff.mpr hb.ne
  have c0 : cutL (ms.map mw) none (some 1) = (ms.take 1).map mw := by rw [show (1 : Int) = ((1 : Nat) : Int) from rfl, cut_take, List.map_take]
  have c4 : cutL (ms.map mw) none (some 4) = (ms.take 4).map mw := by rw [show (4 : Int) = ((4 : Nat) : Int) from rfl, cut_take, List.map_take]
  have ca : cutL (ms.map mw) none (some (a : Int)) = (ms.take a).map mw := by rw [cut_take, List.map_take]
  have cb : cutL (ms.map mw) (some ((a : Int) + 1)) none = (ms.drop (a + 1)).map mw := by rw [show ((a : Int) + 1) = ((a + 1 : Nat) : Int) from by omega, cut_drop, List.map_drop]
  unfold RS
  simp_arith [↓o_place em, List.length_map, c0, c4, ca, cb]
  refine picked_spec w h5 fun fs m μ5 w5 g5 pf hm5 em5 => ?_
  have l5 := g5.len
  have lg := g.len
  have lm := (List.getElem?_eq_some_iff.mp em).1
  have e9 := g5.at_ _ _ (by omega) em
  have ft : fTuple μ5 [.loc m] = some (.tup (fs.map mw)) := by simp [fTuple, seqA, seqL, em5]
  have s9 : ∀ ds, (μ5.set m9 (.lst ds))[m9]? = some (.lst ds) := fun ds => List.getElem?_set_self (by omega)
  have h55 : (ms.length : Int) < 5 ∨ ¬ (ms.length : Int) < 5 := by omega
  rcases h55 with h55 | h55
  all_goals
    simp_arith [ft, ↓o_place e9, ↓o_place (s9 _), List.length_map, List.length_append, c0, c4, ca, cb, h55]
  · refine ⟨by omega, by rw [List.length_take]; omega, by rw [List.length_take, List.length_drop]; omega, by omega, by rw [List.length_take]; omega, by omega, ?_⟩
    have eL : (List.map rwD xs ++ [D.tup (List.map mw fs)] ++ [D.tup (List.map mw (List.take a ms) ++ [D.tup [D.int y, D.int x, D.int s]] ++ List.map mw (List.drop (a + 1) ms))] ++ [D.tup (List.map mw ms ++ List.map mw (List.take 1 ms))]) = (xs ++ [fs] ++ [ms.take a ++ [(⟨y, x, s⟩ : FM.Mv)] ++ ms.drop (a + 1)] ++ [ms ++ ms.take 1]).map rwD := by simp [rwD, mw]
    rw [eL]
    have pA := s9 ((xs ++ [fs] ++ [ms.take a ++ [(⟨y, x, s⟩ : FM.Mv)] ++ ms.drop (a + 1)] ++ [ms ++ ms.take 1]).map rwD)
    rw [ok_seqL pA]
    have wA : Wl n (μ5.set m9 (.frz ((xs ++ [fs] ++ [ms.take a ++ [(⟨y, x, s⟩ : FM.Mv)] ++ ms.drop (a + 1)] ++ [ms ++ ms.take 1]).map rwD))) := w5.set (by omega)
    have gA : Gr n μ0 (μ5.set m9 (.frz ((xs ++ [fs] ++ [ms.take a ++ [(⟨y, x, s⟩ : FM.Mv)] ++ ms.drop (a + 1)] ++ [ms ++ ms.take 1]).map rwD))) := (g.trans g5).setN h9
    refine mates_lp hb _ (fun ns hns => ?_) fun g10 g11 g12 => ?_
    · rcases List.mem_append.mp hns with h | h
      · rcases List.mem_append.mp h with h | h
        · rcases List.mem_append.mp h with h | h
          · exact hxs ns h
          · rw [List.mem_singleton.mp h]; exact btn_perm hb pf
        · rw [List.mem_singleton.mp h]; exact btn_ins hb ha ⟨hm.2.1, hm.1, hm.2.2⟩
      · rw [List.mem_singleton.mp h]
        exact ⟨by simp [hb.ne], by rw [List.length_append, List.length_take]; omega, fun x hx => by
          rcases List.mem_append.mp hx with h | h
          · exact hb.b x h
          · exact hb.b x (List.mem_of_mem_take h)⟩
    · simp_arith [↓ok_emp]
      refine ⟨_, rfl, text_spec hb ?_⟩
      refine ⟨_, rfl, repr_spec hb ⟨_, rfl, ?_⟩⟩
      refine ⟨_, rfl, lenlot_spec ⟨_, rfl, by omega, by omega, ?_⟩⟩
      try simp_arith
      refine things_lp _ (fun v hv => ?_) fun g13 => q _ _ _ _ _ wA gA
      simp only [List.mem_cons, List.not_mem_nil, or_false] at hv
      rcases hv with rfl | rfl | rfl | rfl | rfl | rfl | rfl | rfl | rfl | rfl
      all_goals intro μ; rfl
  · refine ⟨by omega, by rw [List.length_take]; omega, by rw [List.length_take, List.length_drop]; omega, by omega, by omega, ?_⟩
    have eL : (List.map rwD xs ++ [D.tup (List.map mw fs)] ++ [D.tup (List.map mw (List.take a ms) ++ [D.tup [D.int y, D.int x, D.int s]] ++ List.map mw (List.drop (a + 1) ms))] ++ [D.tup (List.map mw (List.take 4 ms))]) = (xs ++ [fs] ++ [ms.take a ++ [(⟨y, x, s⟩ : FM.Mv)] ++ ms.drop (a + 1)] ++ [ms.take 4]).map rwD := by simp [rwD, mw]
    rw [eL]
    have pA := s9 ((xs ++ [fs] ++ [ms.take a ++ [(⟨y, x, s⟩ : FM.Mv)] ++ ms.drop (a + 1)] ++ [ms.take 4]).map rwD)
    rw [ok_seqL pA]
    have wA : Wl n (μ5.set m9 (.frz ((xs ++ [fs] ++ [ms.take a ++ [(⟨y, x, s⟩ : FM.Mv)] ++ ms.drop (a + 1)] ++ [ms.take 4]).map rwD))) := w5.set (by omega)
    have gA : Gr n μ0 (μ5.set m9 (.frz ((xs ++ [fs] ++ [ms.take a ++ [(⟨y, x, s⟩ : FM.Mv)] ++ ms.drop (a + 1)] ++ [ms.take 4]).map rwD))) := (g.trans g5).setN h9
    refine mates_lp hb _ (fun ns hns => ?_) fun g10 g11 g12 => ?_
    · rcases List.mem_append.mp hns with h | h
      · rcases List.mem_append.mp h with h | h
        · rcases List.mem_append.mp h with h | h
          · exact hxs ns h
          · rw [List.mem_singleton.mp h]; exact btn_perm hb pf
        · rw [List.mem_singleton.mp h]; exact btn_ins hb ha ⟨hm.2.1, hm.1, hm.2.2⟩
      · rw [List.mem_singleton.mp h]
        exact btn_take hb (by decide)
    · simp_arith [↓ok_emp]
      refine ⟨_, rfl, text_spec hb ?_⟩
      refine ⟨_, rfl, repr_spec hb ⟨_, rfl, ?_⟩⟩
      refine ⟨_, rfl, lenlot_spec ⟨_, rfl, by omega, by omega, ?_⟩⟩
      try simp_arith
      refine things_lp _ (fun v hv => ?_) fun g13 => q _ _ _ _ _ wA gA
      simp only [List.mem_cons, List.not_mem_nil, or_false] at hv
      rcases hv with rfl | rfl | rfl | rfl | rfl | rfl | rfl | rfl | rfl | rfl
      all_goals intro μ; rfl
theorem right_spec {n : Nat} {μ : Mu} {Q : D → Mu → Prop} (h : Wl n μ) (q : ∀ μ', Q (.bl true) μ') : Ok (m__law_right [.loc n] μ) Q := by
  have hRS : (dSeq (dDrop (dAppend (dVar 9) (dFn fTuple (daCons (dCall m__law_picked (daCons (dVar 0) (daCons (dVar 2) (daCons (dFn fLen (daCons (dVar 2) (daNil))) (daNil))))) (daNil))))) (dSeq (dDrop (dAppend (dVar 9) (dBin fAdd (dBin fAdd (dSl (dVar 2) (dNoPart) (dPart (dVar 4))) (dTup (daCons (dTup (daCons (dVar 6) (daCons (dVar 5) (daCons (dVar 7) (daNil))))) (daNil)))) (dSl (dVar 2) (dPart (dBin fAdd (dVar 4) (dC (.int 1)))) (dNoPart))))) (dSeq (dDrop (dAppend (dVar 9) (dIf (dTest (dBin fLt (dFn fLen (daCons (dVar 2) (daNil))) (dC (.int 5)))) (dBin fAdd (dVar 2) (dSl (dVar 2) (dNoPart) (dPart (dC (.int 1))))) (dSl (dVar 2) (dNoPart) (dPart (dC (.int 4))))))) (dSeq (dFor (diSeq (dVar 9)) (dgName 10) (dSeq (dPar 11 12 (daCons (dMakeS "Lot" m_wrong_button (daCons (dVar 10) (daNil))) (daCons (dBin fEq (dCall m__law_page (daCons (dVar 10) (daNil))) (dCall m__law_page (daCons (dVar 2) (daNil)))) (daNil)))) (dIfS (dTest (dBin fNe (dFn (orC (orC fRepr fReprE) fReprD) (daCons (dLst (daCons (dOwnQ false "Lot" m_Lot__eq (dVar 3) (dVar 11)) (daCons (dOwnQ false "Lot" m_Lot__eq (dVar 11) (dVar 3)) (daCons (dOwnQ true "Lot" m_Lot__eq (dVar 3) (dVar 11)) (daNil))))) (daNil))) (dFn (orC (orC fRepr fReprE) fReprD) (daCons (dLst (daCons (dVar 12) (daCons (dVar 12) (daCons (dNotV (dVar 12)) (daNil))))) (daNil))))) (dRet (dC (.bl false))) (dsNext)))) (dFor (diSeq (dLst (daCons (dPropO "Lot" m_Lot__text (dVar 3)) (daCons (dVar 2) (daCons (dC .non) (daCons (dC (.int 0)) (daCons (dLst (daCons (dVar 3) (daNil))) (daCons (dTup (daCons (dVar 3) (daNil))) (daCons (dC (.bl true)) (daCons (dEmp) (daCons (dTxtO "Lot" m_Lot__repr (dVar 3)) (daCons (dLenO "Lot" m_Lot__len (dVar 3)) (daNil))))))))))))) (dgName 13) (dIfS (dOr (dTest (dOwnQ false "Lot" m_Lot__eq (dVar 3) (dVar 13))) (dOr (dTest (dOwnR "Lot" m_Lot__eq (dVar 13) (dVar 3))) (dNot (dTest (dOwnQ true "Lot" m_Lot__eq (dVar 3) (dVar 13)))))) (dRet (dC (.bl false))) (dsNext))))))) = RS := by unfold RS; rfl
  unfold m__law_right
  rw [hRS]
  simp_arith
  refine oks_forInv (fun pre rest Γ μ' => Wl n μ' ∧ Gr n μ μ' ∧ ∃ o1 o2 o3 o4 o5 o6 o7 o8 o9 o10 o11 o12 o13 o14, Γ = [some (.loc n), o1, o2, o3, o4, o5, o6, o7, o8, o9, o10, o11, o12, o13, o14]) _ [] _ _ ⟨h, Gr.refl, _, _, _, _, _, _, _, _, _, _, _, _, _, _, rfl⟩ ?_ ?_
  · rintro pre d rest Γ μ1 ⟨w1, g1, o1, o2, o3, o4, o5, o6, o7, o8, o9, o10, o11, o12, o13, o14, rfl⟩
    simp_arith
    refine dip_spec w1 (by decide) (by decide) fun k μ2 w2 g2 k0 k1 => ?_
    simp_arith
    refine ⟨by omega, by rw [rngD_len]; omega, row_spec w2 (by omega) (by omega) fun ms μ3 w3 g3 hb => ?_⟩
    have h5 := hb.le
    have h0 : 0 < ms.length := List.length_pos_iff.mpr hb.ne
    try simp_arith
    refine wrong_spec hb ⟨rfl, ?_⟩
    simp_arith [List.length_map]
    refine dip_spec w3 (by omega) (by omega) fun a μ4 w4 g4 a0 a1 => ?_
    obtain ⟨a, rfl⟩ := Int.eq_ofNat_of_zero_le a0
    have ha : a < ms.length := by omega
    have ea : atI (ms.map mw) (a : Int) = some (.tup [.int ms[a].x, .int ms[a].y, .int ms[a].s]) := by
      rw [Ar.atI_nat, List.getElem?_map, List.getElem?_eq_getElem ha]
      rfl
    obtain ⟨b1, b2, b3⟩ := hb.b _ (List.getElem_mem ha)
    generalize ms[a].x = x at *
    generalize ms[a].y = y at *
    generalize ms[a].s = s at *
    have c0 : cutL (ms.map mw) none (some 1) = (ms.take 1).map mw := by rw [show (1 : Int) = ((1 : Nat) : Int) from rfl, cut_take, List.map_take]
    have c1 : cutL (ms.map mw) (some 1) none = (ms.drop 1).map mw := by rw [show (1 : Int) = ((1 : Nat) : Int) from rfl, cut_drop, List.map_drop]
    have ca : cutL (ms.map mw) none (some (a : Int)) = (ms.take a).map mw := by rw [cut_take, List.map_take]
    have cb : cutL (ms.map mw) (some ((a : Int) + 1)) none = (ms.drop (a + 1)).map mw := by rw [show ((a : Int) + 1) = ((a + 1 : Nat) : Int) from by omega, cut_drop, List.map_drop]
    have hs : s < 0 ∨ ¬ s < 0 := by omega
    rcases hs with hs | hs
    · simp_arith [ea, hs, ↓ok_revT, List.length_map, c0, c1, ca, cb]
      refine ⟨_, rfl, by rw [List.length_drop, List.length_take]; omega, by rw [List.length_take]; omega, by rw [List.length_append, List.length_map, List.length_take, List.length_drop, List.length_singleton]; omega, ?_⟩
      have eL : [D.tup (ms.map mw), D.tup (ms.map mw).reverse, D.tup ((ms.drop 1).map mw ++ (ms.take 1).map mw), D.tup ((ms.take a).map mw ++ [D.tup [D.int x, D.int y, D.int (s + 1)]] ++ (ms.drop (a + 1)).map mw)] = [ms, ms.reverse, ms.drop 1 ++ ms.take 1, ms.take a ++ [(⟨x, y, s + 1⟩ : FM.Mv)] ++ ms.drop (a + 1)].map rwD := by simp [rwD, mw]
      rw [eL]
      refine rest_v (xs := [ms, ms.reverse, ms.drop 1 ++ ms.take 1, ms.take a ++ [(⟨x, y, s + 1⟩ : FM.Mv)] ++ ms.drop (a + 1)]) (μ0 := μ) (m9 := μ4.length) hb ?hx (by simp) ha (show Bm ⟨x, y, s⟩ from ⟨b1, b2, b3⟩) w4.app ((((g1.trans g2).trans g3).trans g4).trans Gr.app) (by have := g1.len; have := g2.len; have := g3.len; have := g4.len; omega) h.lt ?em ?qq
      case em => simp
      case qq => exact fun μ' o10 o11 o12 o13 w' g' => ⟨w', g', _, _, _, _, _, _, _, _, _, _, _, _, _, _, rfl⟩
      case hx =>
       intro ns hns
       simp only [List.mem_cons, List.not_mem_nil, or_false] at hns
       rcases hns with rfl | rfl | rfl | rfl
       · exact hb
       · exact btn_perm hb (List.reverse_perm _)
       · refine btn_perm hb ?_
         have := List.perm_append_comm (l₁ := ms.drop 1) (l₂ := ms.take 1)
         rwa [List.take_append_drop] at this
       · exact btn_ins hb ha ⟨b1, b2, by show (s + 1).natAbs ≤ 10 ^ 30; omega⟩
    · simp_arith [ea, hs, ↓ok_revT, List.length_map, c0, c1, ca, cb]
      refine ⟨_, rfl, by rw [List.length_drop, List.length_take]; omega, by rw [List.length_take]; omega, by rw [List.length_append, List.length_map, List.length_take, List.length_drop, List.length_singleton]; omega, ?_⟩
      have eL : [D.tup (ms.map mw), D.tup (ms.map mw).reverse, D.tup ((ms.drop 1).map mw ++ (ms.take 1).map mw), D.tup ((ms.take a).map mw ++ [D.tup [D.int x, D.int y, D.int (s - 1)]] ++ (ms.drop (a + 1)).map mw)] = [ms, ms.reverse, ms.drop 1 ++ ms.take 1, ms.take a ++ [(⟨x, y, s - 1⟩ : FM.Mv)] ++ ms.drop (a + 1)].map rwD := by simp [rwD, mw]
      rw [eL]
      refine rest_v (xs := [ms, ms.reverse, ms.drop 1 ++ ms.take 1, ms.take a ++ [(⟨x, y, s - 1⟩ : FM.Mv)] ++ ms.drop (a + 1)]) (μ0 := μ) (m9 := μ4.length) hb ?hx (by simp) ha (show Bm ⟨x, y, s⟩ from ⟨b1, b2, b3⟩) w4.app ((((g1.trans g2).trans g3).trans g4).trans Gr.app) (by have := g1.len; have := g2.len; have := g3.len; have := g4.len; omega) h.lt ?em ?qq
      case em => simp
      case qq => exact fun μ' o10 o11 o12 o13 w' g' => ⟨w', g', _, _, _, _, _, _, _, _, _, _, _, _, _, _, rfl⟩
      case hx =>
       intro ns hns
       simp only [List.mem_cons, List.not_mem_nil, or_false] at hns
       rcases hns with rfl | rfl | rfl | rfl
       · exact hb
       · exact btn_perm hb (List.reverse_perm _)
       · refine btn_perm hb ?_
         have := List.perm_append_comm (l₁ := ms.drop 1) (l₂ := ms.take 1)
         rwa [List.take_append_drop] at this
       · exact btn_ins hb ha ⟨b1, b2, by show (s - 1).natAbs ≤ 10 ^ 30; omega⟩
  · rintro pre Γ μ1 ⟨w1, g1, o1, o2, o3, o4, o5, o6, o7, o8, o9, o10, o11, o12, o13, o14, rfl⟩
    exact q _
theorem law_true (ns : List Int) (hn : ns.length ≤ 63) : ∃ μ, m_law [.scr (ns.map .int)] [] = .ok (.bl true) μ := by
  refine ok_end ?_
  unfold m_law
  simp_arith
  have hz : ∀ m : Int, 0 ≤ m → m ≤ 63 → m.natAbs < 2305843009213693952 ∧ LenLe (rngD 0 m.toNat) 1000000 (Ok (lcL (dgName 1) dYes (dCall m__law_right (daCons (dCall m__law_well (daCons (dVar 0) (daCons (dVar 1) daNil))) daNil)) [some (D.scr (List.map D.int ns)), none] (rngD 0 m.toNat) []) fun ys μ2 => OkO (fAll μ2 [D.lst ys]) fun z => z = D.bl true) := by
    intro m h0 h1
    refine ⟨by omega, by rw [rngD_len]; omega, ?_⟩
    refine (ok_lcInv (fun acc rest μ' => (∀ d ∈ acc, d = D.bl true) ∧ ∀ d ∈ rest, ∃ i : Int, d = .int i ∧ 0 ≤ i) _ [] _ ⟨fun d hd => (by cases hd), fun d hd => (by obtain ⟨i, e, h, _⟩ := rng_nat hd; exact ⟨i, e, h⟩)⟩ ?_).mono fun ys μ2 hy => all_true hy.1 rfl
    rintro acc d rest μ' ⟨ha, hr⟩
    obtain ⟨i, rfl, hi⟩ := hr d List.mem_cons_self
    simp_arith
    refine well_spec hi hn fun μ3 h3 g3 => right_spec h3 fun μ4 => ⟨fun d hd => ?_, fun d hd => hr d (List.mem_cons_of_mem _ hd)⟩
    rcases List.mem_append.mp hd with z | z
    · exact ha d z
    · exact List.mem_singleton.mp z
  refine hz _ ?_ ?_
  · repeat' split
    all_goals omega
  · rw [List.length_map]
    repeat' split
    all_goals omega

end A18

set_option Elab.async false
set_option linter.all false
set_option maxRecDepth 100000
set_option maxHeartbeats 0
namespace A18
open PySem PySem.Spec PyProof.Rows L2 Ar
section
variable {P : Program} {w : World} {K : PySem.W.Frag} {mg : Str → Option Value} {base : Heap} {f : Addr} {fd : FuncData}
theorem sc__law_well : FnScope (["cells", "turn", "cell", "stirred", "each"] : List Str) (["cells", "turn"] : List Str) (defScope s__law_well) := ⟨rfl, rfl, rfl, by decide +kernel, rfl, by decide +kernel, by decide +kernel⟩
theorem ok__law_well (F : FunD K "_law_well" "_law_well" (defArgs s__law_well) (defBody s__law_well) (defScope s__law_well) [] [] f fd) (b_abs : mg "abs" = none) (b_int : mg "int" = none) (b_len : mg "len" = none) : Pm P w K mg base (L2.CX P w) 1 f fd (["cells", "turn"] : List Str) (spM K m__law_well) := by unfold m__law_well; exact fn_ok F sc__law_well rfl rfl fun cdv A outer s H E hr => have hu := hr.units; have hg := hr.g; qs_cons (q_set 2 sc__law_well.nd (q_if (qt_cmp od_lt (qv 1) (q_callB (cd_len) b_len rfl (qa_cons (qv 0) (qa_nil)))) (q_ix (qv 0) (qv 1)) (q_op od_add (q_op od_mul (q_int) (qv 1)) (q_int)))) (qs_cons (q_set 3 sc__law_well.nd (q_op od_add (q_int) (q_op od_mul (q_int) (qv 1)))) (qs_cons (q_for (passes_of rfl) rfl (qi_seq (q_op od_add (q_sl (qv 0) (qo_none) (qo_some (q_int))) (q_lst (qa_cons (qv 2) (qa_nil))))) (qg_name 4 sc__law_well.nd) (qs_one (q_set 3 sc__law_well.nd (q_op od_modI (q_callTy cd_int b_int rfl (qa_cons (q_op od_add (q_op od_add (q_op od_mul (qv 3) (q_int)) (q_op od_mul (qv 4) (q_int))) (q_int)) (qa_nil))) (q_int))))) (qs_one (q_ret (q_lstM (qa_cons (q_if (qt_w (qw_or (qt_cmp od_lt (qv 2) (q_int)) (qw_one_or (qt_cmp od_ge (qv 2) (q_op od_powI (q_int) (q_int)))))) (q_callB (cd_abs) b_abs rfl (qa_cons (qv 2) (qa_nil))) (q_int)) (qa_cons (qv 3) (qa_cons (q_int) (qa_nil)))))))))
theorem sc_Lot__repr : FnScope (["self"] : List Str) (["self"] : List Str) (defScope s_Lot__repr) := ⟨rfl, rfl, rfl, by decide +kernel, rfl, by decide +kernel, by decide +kernel⟩
theorem ok_Lot__repr (F : FunD K "__repr__" "Lot.__repr__" (defArgs s_Lot__repr) (defBody s_Lot__repr) (defScope s_Lot__repr) [] [] f fd) (b_len : mg "len" = none) (fl_Lot_own_buttons : SltK K "Lot" "own_buttons" 0) : Pm P w K mg base (L2.CX P w) 1 f fd (["self"] : List Str) (spM K m_Lot__repr) := by unfold m_Lot__repr; exact fn_ok F sc_Lot__repr rfl rfl fun cdv A outer s H E hr => have hu := hr.units; have hg := hr.g; qs_one (q_ret (q_js3 (q_str) (q_fmt (q_callB (cd_len) b_len rfl (qa_cons (q_slt fl_Lot_own_buttons (qv 0)) (qa_nil)))) (q_str)))
theorem sc_Lot__eq : FnScope (["self", "other"] : List Str) (["self", "other"] : List Str) (defScope s_Lot__eq) := ⟨rfl, rfl, rfl, by decide +kernel, rfl, by decide +kernel, by decide +kernel⟩
theorem ok_Lot__eq (F : FunD K "__eq__" "Lot.__eq__" (defArgs s_Lot__eq) (defBody s_Lot__eq) (defScope s_Lot__eq) [] [] f fd) (b_isinstance : mg "isinstance" = none) (fl_Lot_own_buttons : SltK K "Lot" "own_buttons" 0) (isi_Lot : IsiK K "Lot") (kc_Lot : GloC K mg "Lot" (.glo "Lot")) (oth_Lot : OthS K (He.ga K "Lot")) : Pm P w K mg base (L2.CX P w) 1 f fd (["self", "other"] : List Str) (spM K m_Lot__eq) := by unfold m_Lot__eq; exact fn_ok F sc_Lot__eq rfl rfl fun cdv A outer s H E hr => have hu := hr.units; have hg := hr.g; qs_one (q_ret (q_and (q_callB ((cd_isaC isi_Lot).or (cd_isaCN oth_Lot)) b_isinstance rfl (qa_cons (qv 1) (qa_cons (q_glob kc_Lot.v) qa_nil))) (q_one (q_cmp (od_eq hu) (q_slt fl_Lot_own_buttons (qv 0)) (q_slt fl_Lot_own_buttons (qv 1))))))
theorem sc_text_of : FnScope (["move", "part"] : List Str) (["move"] : List Str) (defScope s_text_of) := ⟨rfl, rfl, rfl, by decide +kernel, rfl, by decide +kernel, by decide +kernel⟩
theorem ok_text_of (F : FunD K "text_of" "text_of" (defArgs s_text_of) (defBody s_text_of) (defScope s_text_of) [] [] f fd) (b_str : mg "str" = none) : Pm P w K mg base (L2.CX P w) 1 f fd (["move"] : List Str) (spM K m_text_of) := by unfold m_text_of; exact fn_ok F sc_text_of rfl rfl fun cdv A outer s H E hr => have hu := hr.units; have hg := hr.g; qs_one (q_ret (q_join (q_str) (q_lc [("part", 1)] fin_L rfl sc_text_of.nd (qi_seq (qv 0)) (blk rfl (by kernel_rfl) (by kernel_rfl) (by kernel_rfl) (by kernel_rfl)) (qgb_name 1 sc_text_of.nd) (fun _ _ _ _ _ => qts_nil) (fun _ _ _ _ _ => q_callTy (cd_str2 hg hu) b_str rfl (qa_cons (qv 1) (qa_nil))))))
theorem sc_lot_lines : FnScope (["lot", "move"] : List Str) (["lot"] : List Str) (defScope s_lot_lines) := ⟨rfl, rfl, rfl, by decide +kernel, rfl, by decide +kernel, by decide +kernel⟩
theorem ok_lot_lines (F : FunD K "lot_lines" "lot_lines" (defArgs s_lot_lines) (defBody s_lot_lines) (defScope s_lot_lines) [] [] f fd) (k_WORD : GloC K mg "WORD" (.str "button ")) (fl_Lot_own_buttons : SltK K "Lot" "own_buttons" 0) (c_text_of : FnG P w K mg base "text_of" 1 m_text_of) : Pm P w K mg base (L2.CX P w) 2 f fd (["lot"] : List Str) (spM K m_lot_lines) := by unfold m_lot_lines; exact fn_ok F sc_lot_lines rfl rfl fun cdv A outer s H E hr => have hu := hr.units; have hg := hr.g; qs_one (q_ret (q_lc [("move", 1)] fin_L rfl sc_lot_lines.nd (qi_seq (q_slt fl_Lot_own_buttons (qv 0))) (blk rfl (by kernel_rfl) (by kernel_rfl) (by kernel_rfl) (by kernel_rfl)) (qgb_name 1 sc_lot_lines.nd) (fun _ _ _ _ _ => qts_nil) (fun _ _ _ _ _ => q_op od_add (q_glob k_WORD.v) (q_call c_text_of (hr.mono (by decide)) passL (qa_cons (qv 1) (qa_nil))))))
theorem sc_Lot__str : FnScope (["self"] : List Str) (["self"] : List Str) (defScope s_Lot__str) := ⟨rfl, rfl, rfl, by decide +kernel, rfl, by decide +kernel, by decide +kernel⟩
theorem ok_Lot__str (F : FunD K "__str__" "Lot.__str__" (defArgs s_Lot__str) (defBody s_Lot__str) (defScope s_Lot__str) [] [] f fd) (c_lot_lines : FnG P w K mg base "lot_lines" 2 m_lot_lines) : Pm P w K mg base (L2.CX P w) 3 f fd (["self"] : List Str) (spM K m_Lot__str) := by unfold m_Lot__str; exact fn_ok F sc_Lot__str rfl rfl fun cdv A outer s H E hr => have hu := hr.units; have hg := hr.g; qs_one (q_ret (q_join (q_str) (q_call c_lot_lines (hr.mono (by decide)) (passes_call (takes_of rfl rfl rfl rfl) fun _ _ _ _ h => h) (qa_cons (qv 0) (qa_nil)))))
theorem sc_Lot__text : FnScope (["self"] : List Str) (["self"] : List Str) (defScope s_Lot__text) := ⟨rfl, rfl, rfl, by decide +kernel, rfl, by decide +kernel, by decide +kernel⟩
theorem ok_Lot__text (F : FunD K "text" "Lot.text" (defArgs s_Lot__text) (defBody s_Lot__text) (defScope s_Lot__text) [] [] f fd) (b_str : mg "str" = none) (isi_Lot : IsiK K "Lot") (kc_Lot : GloC K mg "Lot" (.glo "Lot")) (me_Lot__str : MethG P w K mg base "Lot" "__str__" 3 m_Lot__str) : Pm P w K mg base (L2.CX P w) 6 f fd (["self"] : List Str) (spM K m_Lot__text) := by unfold m_Lot__text; exact fn_ok F sc_Lot__text rfl rfl fun cdv A outer s H E hr => have hu := hr.units; have hg := hr.g; qs_one (q_ret (q_strO me_Lot__str (hr.mono (by decide)) (passes_call (takes_of rfl rfl rfl rfl) fun _ _ _ _ h => h) b_str (qv 0)))
theorem sc_Lot__len : FnScope (["self"] : List Str) (["self"] : List Str) (defScope s_Lot__len) := ⟨rfl, rfl, rfl, by decide +kernel, rfl, by decide +kernel, by decide +kernel⟩
theorem ok_Lot__len (F : FunD K "__len__" "Lot.__len__" (defArgs s_Lot__len) (defBody s_Lot__len) (defScope s_Lot__len) [] [] f fd) (b_len : mg "len" = none) (fl_Lot_own_buttons : SltK K "Lot" "own_buttons" 0) : Pm P w K mg base (L2.CX P w) 1 f fd (["self"] : List Str) (spM K m_Lot__len) := by unfold m_Lot__len; exact fn_ok F sc_Lot__len rfl rfl fun cdv A outer s H E hr => have hu := hr.units; have hg := hr.g; qs_one (q_ret (q_callB (cd_len) b_len rfl (qa_cons (q_slt fl_Lot_own_buttons (qv 0)) (qa_nil))))
theorem sc__law_dip : FnScope (["well", "sides", "digit", "by"] : List Str) (["well", "sides"] : List Str) (defScope s__law_dip) := ⟨rfl, rfl, rfl, by decide +kernel, rfl, by decide +kernel, by decide +kernel⟩
theorem ok__law_dip (F : FunD K "_law_dip" "_law_dip" (defArgs s__law_dip) (defBody s__law_dip) (defScope s__law_dip) [] [] f fd) (b_divmod : mg "divmod" = none) (b_int : mg "int" = none) : Pm P w K mg base (L2.CX P w) 1 f fd (["well", "sides"] : List Str) (spM K m__law_dip) := by unfold m__law_dip; exact fn_ok F sc__law_dip rfl rfl fun cdv A outer s H E hr => have hu := hr.units; have hg := hr.g; qs_cons (q_asg (q_op od_add (q_ix (qv 0) (q_int)) (q_int)) (qg_sub (qv 0) (q_int))) (qs_cons (q_ifS (qt_cmp od_gt (q_ix (qv 0) (q_int)) (q_int)) (qs_cons (q_asg (q_callB (cd_divmod) b_divmod rfl (qa_cons (q_ix (qv 0) (q_int)) (qa_cons (qv 1) (qa_nil)))) (qg_tup rfl (qgs_cons (qg_sub (qv 0) (q_int)) (qgs_cons (qg_name 2 sc__law_dip.nd) (qgs_nil))))) (qs_one (q_ret (qv 2)))) (qs_nil)) (qs_cons (q_set 3 sc__law_dip.nd (q_op od_add (q_int) (q_op od_mul (q_int) (q_ix (qv 0) (q_int))))) (qs_cons (q_asg (q_op od_modI (q_callTy cd_int b_int rfl (qa_cons (q_op od_add (q_op od_add (q_op od_mul (q_ix (qv 0) (q_int)) (qv 3)) (q_op od_mul (q_int) (q_ix (qv 0) (q_int)))) (q_int)) (qa_nil))) (q_int)) (qg_sub (qv 0) (q_int))) (qs_one (q_ret (q_op od_modI (q_callTy cd_int b_int rfl (qa_cons (q_op od_divI (q_ix (qv 0) (q_int)) (q_int)) (qa_nil))) (qv 1)))))))
theorem sc__law_picked : FnScope (["well", "some", "many", "rest", "found", "k", "at"] : List Str) (["well", "some", "many"] : List Str) (defScope s__law_picked) := ⟨rfl, rfl, rfl, by decide +kernel, rfl, by decide +kernel, by decide +kernel⟩
theorem ok__law_picked (F : FunD K "_law_picked" "_law_picked" (defArgs s__law_picked) (defBody s__law_picked) (defScope s__law_picked) [] [] f fd) (b_len : mg "len" = none) (b_list : mg "list" = none) (b_range : mg "range" = none) (c__law_dip : FnG P w K mg base "_law_dip" 1 m__law_dip) : Pm P w K mg base (L2.CX P w) 2 f fd (["well", "some", "many"] : List Str) (spM K m__law_picked) := by unfold m__law_picked; exact fn_ok F sc__law_picked rfl rfl fun cdv A outer s H E hr => have hu := hr.units; have hg := hr.g; qs_cons (q_par 3 4 rfl sc__law_picked.nd (qa_cons (q_callTy cd_list b_list rfl (qa_cons (qv 1) (qa_nil))) (qa_cons (q_lstM (qa_nil)) (qa_nil)))) (qs_cons (q_for (passes_of rfl) rfl (qi_range1 b_range (qa_cons (qv 2) (qa_nil))) (qg_name 5 sc__law_picked.nd) (qs_cons (q_set 6 sc__law_picked.nd (q_call c__law_dip (hr.mono (by decide)) (passes_call (takes_of rfl rfl rfl rfl) fun _ _ _ _ h => h) (qa_cons (qv 0) (qa_cons (q_callB (cd_len) b_len rfl (qa_cons (qv 3) (qa_nil))) (qa_nil))))) (qs_cons (q_expr (q_append (qv 4) (q_ix (qv 3) (qv 6)))) (qs_one (q_set 3 sc__law_picked.nd (q_op od_add (q_sl (qv 3) (qo_none) (qo_some (qv 6))) (q_sl (qv 3) (qo_some (q_op od_add (qv 6) (q_int))) (qo_none)))))))) (qs_one (q_ret (qv 4))))
theorem sc__law_number : FnScope (["well", "way", "found", "turn"] : List Str) (["well"] : List Str) (defScope s__law_number) := ⟨rfl, rfl, rfl, by decide +kernel, rfl, by decide +kernel, by decide +kernel⟩
theorem ok__law_number (F : FunD K "_law_number" "_law_number" (defArgs s__law_number) (defBody s__law_number) (defScope s__law_number) [] [] f fd) (b_range : mg "range" = none) (c__law_dip : FnG P w K mg base "_law_dip" 1 m__law_dip) : Pm P w K mg base (L2.CX P w) 2 f fd (["well"] : List Str) (spM K m__law_number) := by unfold m__law_number; exact fn_ok F sc__law_number rfl rfl fun cdv A outer s H E hr => have hu := hr.units; have hg := hr.g; qs_cons (q_set 1 sc__law_number.nd (q_call c__law_dip (hr.mono (by decide)) (passes_call (takes_of rfl rfl rfl rfl) fun _ _ _ _ h => h) (qa_cons (qv 0) (qa_cons (q_int) (qa_nil))))) (qs_cons (q_set 2 sc__law_number.nd (q_call c__law_dip (hr.mono (by decide)) (passes_call (takes_of rfl rfl rfl rfl) fun _ _ _ _ h => h) (qa_cons (qv 0) (qa_cons (q_ix (q_lst (qa_cons (q_int) (qa_cons (q_int) (qa_cons (q_int) (qa_cons (q_op od_powI (q_int) (q_int)) (qa_cons (q_op od_powI (q_int) (q_int)) (qa_cons (q_op od_powI (q_int) (q_int)) (qa_nil)))))))) (qv 1)) (qa_nil))))) (qs_cons (q_for (passes_of rfl) rfl (qi_range1 b_range (qa_cons (q_ix (q_lst (qa_cons (q_int) (qa_cons (q_int) (qa_cons (q_int) (qa_cons (q_int) (qa_cons (q_int) (qa_cons (q_int) (qa_nil)))))))) (qv 1)) (qa_nil))) (qg_name 3 sc__law_number.nd) (qs_one (q_set 2 sc__law_number.nd (q_op od_add (q_op od_mul (qv 2) (q_op od_powI (q_int) (q_int))) (q_call c__law_dip (hr.mono (by decide)) (passes_call (takes_of rfl rfl rfl rfl) fun _ _ _ _ h => h) (qa_cons (qv 0) (qa_cons (q_op od_powI (q_int) (q_int)) (qa_nil)))))))) (qs_one (q_ret (q_if (qt_cmp (od_eq hu) (q_call c__law_dip (hr.mono (by decide)) (passes_call (takes_of rfl rfl rfl rfl) fun _ _ _ _ h => h) (qa_cons (qv 0) (qa_cons (q_int) (qa_nil)))) (q_int)) (qv 2) (q_op od_subI (q_int) (qv 2)))))))
theorem sc__law_drawn : FnScope (["well", "way", "found"] : List Str) (["well"] : List Str) (defScope s__law_drawn) := ⟨rfl, rfl, rfl, by decide +kernel, rfl, by decide +kernel, by decide +kernel⟩
theorem ok__law_drawn (F : FunD K "_law_drawn" "_law_drawn" (defArgs s__law_drawn) (defBody s__law_drawn) (defScope s__law_drawn) [] [] f fd) (c__law_dip : FnG P w K mg base "_law_dip" 1 m__law_dip) (c__law_number : FnG P w K mg base "_law_number" 2 m__law_number) : Pm P w K mg base (L2.CX P w) 3 f fd (["well"] : List Str) (spM K m__law_drawn) := by unfold m__law_drawn; exact fn_ok F sc__law_drawn rfl rfl fun cdv A outer s H E hr => have hu := hr.units; have hg := hr.g; qs_cons (q_set 1 sc__law_drawn.nd (q_call c__law_dip (hr.mono (by decide)) (passes_call (takes_of rfl rfl rfl rfl) fun _ _ _ _ h => h) (qa_cons (qv 0) (qa_cons (q_int) (qa_nil))))) (qs_cons (q_ifS (qt_cmp (od_eq hu) (qv 1) (q_int)) (qs_one (q_ret (q_tup (qa_cons (q_op od_subI (q_call c__law_dip (hr.mono (by decide)) (passes_call (takes_of rfl rfl rfl rfl) fun _ _ _ _ h => h) (qa_cons (qv 0) (qa_cons (q_int) (qa_nil)))) (q_int)) (qa_cons (q_op od_subI (q_call c__law_dip (hr.mono (by decide)) (passes_call (takes_of rfl rfl rfl rfl) fun _ _ _ _ h => h) (qa_cons (qv 0) (qa_cons (q_int) (qa_nil)))) (q_int)) (qa_cons (q_op od_subI (q_call c__law_dip (hr.mono (by decide)) (passes_call (takes_of rfl rfl rfl rfl) fun _ _ _ _ h => h) (qa_cons (qv 0) (qa_cons (q_int) (qa_nil)))) (q_int)) (qa_nil))))))) (qs_nil)) (qs_cons (q_set 2 sc__law_drawn.nd (q_lstM (qa_cons (q_call c__law_number (hr.mono (by decide)) (passes_call (takes_of rfl rfl rfl rfl) fun _ _ _ _ h => h) (qa_cons (qv 0) (qa_nil))) (qa_cons (q_call c__law_number (hr.mono (by decide)) (passes_call (takes_of rfl rfl rfl rfl) fun _ _ _ _ h => h) (qa_cons (qv 0) (qa_nil))) (qa_cons (q_call c__law_number (hr.mono (by decide)) (passes_call (takes_of rfl rfl rfl rfl) fun _ _ _ _ h => h) (qa_cons (qv 0) (qa_nil))) (qa_nil)))))) (qs_cons (q_ifS (qt_cmp (od_eq hu) (qv 1) (q_int)) (qs_one (q_asg (q_int) (qg_sub (qv 2) (q_call c__law_dip (hr.mono (by decide)) (passes_call (takes_of rfl rfl rfl rfl) fun _ _ _ _ h => h) (qa_cons (qv 0) (qa_cons (q_int) (qa_nil))))))) (qs_nil)) (qs_one (q_ret (q_tup (qa_cons (q_ix (qv 2) (q_int)) (qa_cons (q_ix (qv 2) (q_int)) (qa_cons (q_ix (qv 2) (q_int)) (qa_nil))))))))))
theorem sc__law_page : FnScope (["some", "each", "part"] : List Str) (["some"] : List Str) (defScope s__law_page) := ⟨rfl, rfl, rfl, by decide +kernel, rfl, by decide +kernel, by decide +kernel⟩
theorem ok__law_page (F : FunD K "_law_page" "_law_page" (defArgs s__law_page) (defBody s__law_page) (defScope s__law_page) [] [] f fd) (b_str : mg "str" = none) : Pm P w K mg base (L2.CX P w) 1 f fd (["some"] : List Str) (spM K m__law_page) := by unfold m__law_page; exact fn_ok F sc__law_page rfl rfl fun cdv A outer s H E hr => have hu := hr.units; have hg := hr.g; qs_one (q_ret (q_join (q_str) (q_lc [("each", 1)] fin_L rfl sc__law_page.nd (qi_seq (qv 0)) (blk rfl (by kernel_rfl) (by kernel_rfl) (by kernel_rfl) (by kernel_rfl)) (qgb_name 1 sc__law_page.nd) (fun _ _ _ _ _ => qts_nil) (fun _ _ _ _ _ => q_op od_add (q_str) (q_join (q_str) (q_lc [("part", 2)] fin_L rfl sc__law_page.nd (qi_seq (qv 1)) (blk rfl (by kernel_rfl) (by kernel_rfl) (by kernel_rfl) (by kernel_rfl)) (qgb_name 2 sc__law_page.nd) (fun _ _ _ _ _ => qts_nil) (fun _ _ _ _ _ => q_callTy (cd_str2 hg hu) b_str rfl (qa_cons (qv 2) (qa_nil)))))))))
theorem sc_is_integer : FnScope (["value"] : List Str) (["value"] : List Str) (defScope s_is_integer) := ⟨rfl, rfl, rfl, by decide +kernel, rfl, by decide +kernel, by decide +kernel⟩
theorem ok_is_integer (F : FunD K "is_integer" "is_integer" (defArgs s_is_integer) (defBody s_is_integer) (defScope s_is_integer) [] [] f fd) (b_bool : mg "bool" = none) (b_int : mg "int" = none) (b_isinstance : mg "isinstance" = none) : Pm P w K mg base (L2.CX P w) 1 f fd (["value"] : List Str) (spM K m_is_integer) := by unfold m_is_integer; exact fn_ok F sc_is_integer rfl rfl fun cdv A outer s H E hr => have hu := hr.units; have hg := hr.g; qs_one (q_ret (q_and (q_callB (cd_isa) b_isinstance rfl (qa_cons (qv 0) (qa_cons (q_ty b_int rfl) (qa_nil)))) (q_one (q_not (q_callB (cd_isa) b_isinstance rfl (qa_cons (qv 0) (qa_cons (q_ty b_bool rfl) (qa_nil))))))))
theorem sc_is_move : FnScope (["value", "part"] : List Str) (["value"] : List Str) (defScope s_is_move) := ⟨rfl, rfl, rfl, by decide +kernel, rfl, by decide +kernel, by decide +kernel⟩
theorem ok_is_move (F : FunD K "is_move" "is_move" (defArgs s_is_move) (defBody s_is_move) (defScope s_is_move) [] [] f fd) (b_all : mg "all" = none) (b_isinstance : mg "isinstance" = none) (b_len : mg "len" = none) (b_tuple : mg "tuple" = none) (c_is_integer : FnG P w K mg base "is_integer" 1 m_is_integer) : Pm P w K mg base (L2.CX P w) 2 f fd (["value"] : List Str) (spM K m_is_move) := by unfold m_is_move; exact fn_ok F sc_is_move rfl rfl fun cdv A outer s H E hr => have hu := hr.units; have hg := hr.g; qs_one (q_ret (q_and (q_callB (cd_isa) b_isinstance rfl (qa_cons (qv 0) (qa_cons (q_ty b_tuple rfl) (qa_nil)))) (q_and (q_cmp (od_eq hu) (q_callB (cd_len) b_len rfl (qa_cons (qv 0) (qa_nil))) (q_int)) (q_one (q_callB (cd_all rfl) b_all rfl (qa_cons (q_lc [("part", 1)] fin_L rfl sc_is_move.nd (qi_seq (qv 0)) (blk rfl (by kernel_rfl) (by kernel_rfl) (by kernel_rfl) (by kernel_rfl)) (qgb_name 1 sc_is_move.nd) (fun _ _ _ _ _ => qts_nil) (fun _ _ _ _ _ => q_call c_is_integer (hr.mono (by decide)) passL (qa_cons (qv 1) (qa_nil)))) (qa_nil)))))))
theorem sc_is_button : FnScope (["value", "part"] : List Str) (["value"] : List Str) (defScope s_is_button) := ⟨rfl, rfl, rfl, by decide +kernel, rfl, by decide +kernel, by decide +kernel⟩
theorem ok_is_button (F : FunD K "is_button" "is_button" (defArgs s_is_button) (defBody s_is_button) (defScope s_is_button) [] [] f fd) (b_abs : mg "abs" = none) (b_all : mg "all" = none) (k_MOST_NUMBER : GloC K mg "MOST_NUMBER" (.int 1000000000000000000000000000000)) (c_is_move : FnG P w K mg base "is_move" 2 m_is_move) : Pm P w K mg base (L2.CX P w) 3 f fd (["value"] : List Str) (spM K m_is_button) := by unfold m_is_button; exact fn_ok F sc_is_button rfl rfl fun cdv A outer s H E hr => have hu := hr.units; have hg := hr.g; qs_one (q_ret (q_and (q_call c_is_move (hr.mono (by decide)) (passes_call (takes_of rfl rfl rfl rfl) fun _ _ _ _ h => h) (qa_cons (qv 0) (qa_nil))) (q_one (q_callB (cd_all rfl) b_all rfl (qa_cons (q_lc [("part", 1)] fin_L rfl sc_is_button.nd (qi_seq (qv 0)) (blk rfl (by kernel_rfl) (by kernel_rfl) (by kernel_rfl) (by kernel_rfl)) (qgb_name 1 sc_is_button.nd) (fun _ _ _ _ _ => qts_nil) (fun _ _ _ _ _ => q_cmp od_le (q_callB (cd_abs) b_abs rfl (qa_cons (qv 1) (qa_nil))) (q_glob k_MOST_NUMBER.v))) (qa_nil))))))
theorem sc_wrong_button : FnScope (["value", "at", "move"] : List Str) (["value"] : List Str) (defScope s_wrong_button) := ⟨rfl, rfl, rfl, by decide +kernel, rfl, by decide +kernel, by decide +kernel⟩
theorem ok_wrong_button (F : FunD K "wrong_button" "wrong_button" (defArgs s_wrong_button) (defBody s_wrong_button) (defScope s_wrong_button) [] [] f fd) (b_enumerate : mg "enumerate" = none) (b_isinstance : mg "isinstance" = none) (b_len : mg "len" = none) (b_tuple : mg "tuple" = none) (k_MOST_BUTTONS : GloC K mg "MOST_BUTTONS" (.int 5)) (c_is_button : FnG P w K mg base "is_button" 3 m_is_button) : Pm P w K mg base (L2.CX P w) 4 f fd (["value"] : List Str) (spM K m_wrong_button) := by unfold m_wrong_button; exact fn_ok F sc_wrong_button rfl rfl fun cdv A outer s H E hr => have hu := hr.units; have hg := hr.g; qs_cons (q_ifS (qt_w (qw_or (qt_not (qt_tru (q_callB (cd_isa) b_isinstance rfl (qa_cons (qv 0) (qa_cons (q_ty b_tuple rfl) (qa_nil)))))) (qw_one_or (qt_cmp (od_eq hu) (q_callB (cd_len) b_len rfl (qa_cons (qv 0) (qa_nil))) (q_int))))) (qs_one (q_ret (q_neg (q_int)))) (qs_nil)) (qs_cons (q_for (passes_of rfl) rfl (qi_enum b_enumerate (qa_cons (qv 0) (qa_nil))) (qg_tup rfl (qgs_cons (qg_name 1 sc_wrong_button.nd) (qgs_cons (qg_name 2 sc_wrong_button.nd) (qgs_nil)))) (qs_one (q_ifS (qt_w (qw_or (qt_cmp (od_eq hu) (qv 1) (q_glob k_MOST_BUTTONS.v)) (qw_one_or (qt_not (qt_tru (q_call c_is_button (hr.mono (by decide)) (passes_call (takes_of rfl rfl rfl rfl) fun _ _ _ _ h => h) (qa_cons (qv 2) (qa_nil)))))))) (qs_one (q_ret (qv 1))) (qs_nil)))) (qs_one (q_ret (q_non))))
theorem sc__law_right : FnScope (["well", "turn", "some", "mine", "k", "x", "y", "s", "fresh", "others_here", "each", "mate", "due", "thing", "again"] : List Str) (["well"] : List Str) (defScope s__law_right) := ⟨rfl, rfl, rfl, by decide +kernel, rfl, by decide +kernel, by decide +kernel⟩
theorem ok__law_right (F : FunD K "_law_right" "_law_right" (defArgs s__law_right) (defBody s__law_right) (defScope s__law_right) [] [] f fd) (b_len : mg "len" = none) (b_range : mg "range" = none) (b_repr : mg "repr" = none) (b_tuple : mg "tuple" = none) (mk_Lot : MkS P w K mg base "Lot" 5 m_wrong_button) (isi_Lot : IsiK K "Lot") (kc_Lot : GloC K mg "Lot" (.glo "Lot")) (ne_Lot : NeK K "Lot") (oth_Lot : OthS K (He.ga K "Lot")) (c__law_dip : FnG P w K mg base "_law_dip" 1 m__law_dip) (c__law_drawn : FnG P w K mg base "_law_drawn" 3 m__law_drawn) (c__law_page : FnG P w K mg base "_law_page" 1 m__law_page) (c__law_picked : FnG P w K mg base "_law_picked" 2 m__law_picked) (me_Lot__eq : MethG P w K mg base "Lot" "__eq__" 1 m_Lot__eq) (me_Lot__len : MethG P w K mg base "Lot" "__len__" 1 m_Lot__len) (me_Lot__repr : MethG P w K mg base "Lot" "__repr__" 1 m_Lot__repr) (me_Lot__text : PropG P w K mg base "Lot" "text" 6 m_Lot__text) : Pm P w K mg base (L2.CX P w) 9 f fd (["well"] : List Str) (spM K m__law_right) := by unfold m__law_right; exact fn_ok F sc__law_right rfl rfl fun cdv A outer s H E hr => have hu := hr.units; have hg := hr.g; qs_cons (q_for (passes_of rfl) rfl (qi_range1 b_range (qa_cons (q_int) (qa_nil))) (qg_name 1 sc__law_right.nd) (qs_cons (q_set 2 sc__law_right.nd (q_callTy cd_tuple b_tuple rfl (qa_cons (q_lc [("again", 14)] fin_L rfl sc__law_right.nd (qi_range1 b_range (qa_cons (q_op od_add (q_int) (q_call c__law_dip (hr.mono (by decide)) (passes_call (takes_of rfl rfl rfl rfl) fun _ _ _ _ h => h) (qa_cons (qv 0) (qa_cons (q_int) (qa_nil))))) (qa_nil))) (blk rfl (by kernel_rfl) (by kernel_rfl) (by kernel_rfl) (by kernel_rfl)) (qgb_name 14 sc__law_right.nd) (fun _ _ _ _ _ => qts_nil) (fun _ _ _ _ _ => q_call c__law_drawn (hr.mono (by decide)) passL (qa_cons (qv 0) (qa_nil)))) (qa_nil)))) (qs_cons (q_set 3 sc__law_right.nd (q_makeS mk_Lot (hr.mono (by decide)) (passes_call (takes_of rfl rfl rfl rfl) fun _ _ _ _ h => h) (qa_cons (qv 2) (qa_nil)))) (qs_cons (q_set 4 sc__law_right.nd (q_call c__law_dip (hr.mono (by decide)) (passes_call (takes_of rfl rfl rfl rfl) fun _ _ _ _ h => h) (qa_cons (qv 0) (qa_cons (q_callB (cd_len) b_len rfl (qa_cons (qv 2) (qa_nil))) (qa_nil))))) (qs_cons (q_asg (q_ix (qv 2) (qv 4)) (qg_tup rfl (qgs_cons (qg_name 5 sc__law_right.nd) (qgs_cons (qg_name 6 sc__law_right.nd) (qgs_cons (qg_name 7 sc__law_right.nd) (qgs_nil)))))) (qs_cons (q_set 8 sc__law_right.nd (q_tup (qa_cons (qv 5) (qa_cons (qv 6) (qa_cons (q_if (qt_cmp od_lt (qv 7) (q_int)) (q_op od_add (qv 7) (q_int)) (q_op od_subI (qv 7) (q_int))) (qa_nil)))))) (qs_cons (q_set 9 sc__law_right.nd (q_lstM (qa_cons (qv 2) (qa_cons (q_revT (qv 2)) (qa_cons (q_op od_add (q_sl (qv 2) (qo_some (q_int)) (qo_none)) (q_sl (qv 2) (qo_none) (qo_some (q_int)))) (qa_cons (q_op od_add (q_op od_add (q_sl (qv 2) (qo_none) (qo_some (qv 4))) (q_tup (qa_cons (qv 8) (qa_nil)))) (q_sl (qv 2) (qo_some (q_op od_add (qv 4) (q_int))) (qo_none))) (qa_nil))))))) (qs_cons (q_expr (q_append (qv 9) (q_callTy cd_tuple b_tuple rfl (qa_cons (q_call c__law_picked (hr.mono (by decide)) (passes_call (takes_of rfl rfl rfl rfl) fun _ _ _ _ h => h) (qa_cons (qv 0) (qa_cons (qv 2) (qa_cons (q_callB (cd_len) b_len rfl (qa_cons (qv 2) (qa_nil))) (qa_nil))))) (qa_nil))))) (qs_cons (q_expr (q_append (qv 9) (q_op od_add (q_op od_add (q_sl (qv 2) (qo_none) (qo_some (qv 4))) (q_tup (qa_cons (q_tup (qa_cons (qv 6) (qa_cons (qv 5) (qa_cons (qv 7) (qa_nil))))) (qa_nil)))) (q_sl (qv 2) (qo_some (q_op od_add (qv 4) (q_int))) (qo_none))))) (qs_cons (q_expr (q_append (qv 9) (q_if (qt_cmp od_lt (q_callB (cd_len) b_len rfl (qa_cons (qv 2) (qa_nil))) (q_int)) (q_op od_add (qv 2) (q_sl (qv 2) (qo_none) (qo_some (q_int)))) (q_sl (qv 2) (qo_none) (qo_some (q_int)))))) (qs_cons (q_for (passes_of rfl) rfl (qi_seq (qv 9)) (qg_name 10 sc__law_right.nd) (qs_cons (q_par 11 12 rfl sc__law_right.nd (qa_cons (q_makeS mk_Lot (hr.mono (by decide)) (passes_call (takes_of rfl rfl rfl rfl) fun _ _ _ _ h => h) (qa_cons (qv 10) (qa_nil))) (qa_cons (q_cmp (od_eq hu) (q_call c__law_page (hr.mono (by decide)) (passes_call (takes_of rfl rfl rfl rfl) fun _ _ _ _ h => h) (qa_cons (qv 10) (qa_nil))) (q_call c__law_page (hr.mono (by decide)) (passes_call (takes_of rfl rfl rfl rfl) fun _ _ _ _ h => h) (qa_cons (qv 2) (qa_nil)))) (qa_nil)))) (qs_one (q_ifS (qt_cmp (od_ne hu) (q_callB ((((cd_repr hg hu).or (cd_reprE hg hu)).or (cd_reprD hg hu))) b_repr rfl (qa_cons (q_lst (qa_cons (q_ownEq me_Lot__eq (hr.mono (by decide)) (passes_call (takes_of rfl rfl rfl rfl) fun _ _ _ _ h => h) (qv 3) (qv 11)) (qa_cons (q_ownEq me_Lot__eq (hr.mono (by decide)) (passes_call (takes_of rfl rfl rfl rfl) fun _ _ _ _ h => h) (qv 11) (qv 3)) (qa_cons (q_ownNe me_Lot__eq ne_Lot (hr.mono (by decide)) (passes_call (takes_of rfl rfl rfl rfl) fun _ _ _ _ h => h) (qv 3) (qv 11)) (qa_nil))))) (qa_nil))) (q_callB ((((cd_repr hg hu).or (cd_reprE hg hu)).or (cd_reprD hg hu))) b_repr rfl (qa_cons (q_lst (qa_cons (qv 12) (qa_cons (qv 12) (qa_cons (q_not (qv 12)) (qa_nil))))) (qa_nil)))) (qs_one (q_ret (q_bl))) (qs_nil))))) (qs_one (q_for (passes_of rfl) rfl (qi_seq (q_lst (qa_cons (q_propO me_Lot__text (hr.mono (by decide)) (qv 3)) (qa_cons (qv 2) (qa_cons (q_non) (qa_cons (q_int) (qa_cons (q_lst (qa_cons (qv 3) (qa_nil))) (qa_cons (q_tup (qa_cons (qv 3) (qa_nil))) (qa_cons (q_bl) (qa_cons (q_emp) (qa_cons (q_reprO me_Lot__repr (hr.mono (by decide)) (passes_call (takes_of rfl rfl rfl rfl) fun _ _ _ _ h => h) b_repr (qv 3)) (qa_cons (q_lenO me_Lot__len (hr.mono (by decide)) (passes_call (takes_of rfl rfl rfl rfl) fun _ _ _ _ h => h) b_len (qv 3)) (qa_nil))))))))))))) (qg_name 13 sc__law_right.nd) (qs_one (q_ifS (qt_w (qw_or (qt_ownEq me_Lot__eq (hr.mono (by decide)) (passes_call (takes_of rfl rfl rfl rfl) fun _ _ _ _ h => h) (qv 3) (qv 13)) (qw_or (qt_ownR me_Lot__eq oth_Lot (hr.mono (by decide)) (passes_call (takes_of rfl rfl rfl rfl) fun _ _ _ _ h => h) (qv 13) (qv 3)) (qw_one_or (qt_not (qt_ownNe me_Lot__eq ne_Lot (hr.mono (by decide)) (passes_call (takes_of rfl rfl rfl rfl) fun _ _ _ _ h => h) (qv 3) (qv 13))))))) (qs_one (q_ret (q_bl))) (qs_nil)))))))))))))))) (qs_one (q_ret (q_bl)))
theorem sc_law : FnScope (["cells", "turn"] : List Str) (["cells"] : List Str) (defScope s_law) := ⟨rfl, rfl, rfl, by decide +kernel, rfl, by decide +kernel, by decide +kernel⟩
theorem ok_law (F : FunD K "law" "law" (defArgs s_law) (defBody s_law) (defScope s_law) [] [] f fd) (b_all : mg "all" = none) (b_len : mg "len" = none) (b_max : mg "max" = none) (b_min : mg "min" = none) (b_range : mg "range" = none) (c__law_right : FnG P w K mg base "_law_right" 9 m__law_right) (c__law_well : FnG P w K mg base "_law_well" 1 m__law_well) : Pm P w K mg base (L2.CX P w) 10 f fd (["cells"] : List Str) (spM K m_law) := by unfold m_law; exact fn_ok F sc_law rfl rfl fun cdv A outer s H E hr => have hu := hr.units; have hg := hr.g; qs_one (q_ret (q_callB (cd_all rfl) b_all rfl (qa_cons (q_lc [("turn", 1)] fin_L rfl sc_law.nd (qi_range1 b_range (qa_cons (q_callB (cd_max rfl) b_max rfl (qa_cons (q_int) (qa_cons (q_callB (cd_min rfl) b_min rfl (qa_cons (q_callB (cd_len) b_len rfl (qa_cons (qv 0) (qa_nil))) (qa_cons (q_int) (qa_nil)))) (qa_nil)))) (qa_nil))) (blk rfl (by kernel_rfl) (by kernel_rfl) (by kernel_rfl) (by kernel_rfl)) (qgb_name 1 sc_law.nd) (fun _ _ _ _ _ => qts_nil) (fun _ _ _ _ _ => q_call c__law_right (hr.mono (by decide)) passL (qa_cons (q_call c__law_well (hr.mono (by decide)) passL (qa_cons (qv 0) (qa_cons (qv 1) (qa_nil)))) (qa_nil)))) (qa_nil))))
theorem sci_Lot : FnScope (["self", "buttons", "at"] : List Str) (["self", "buttons"] : List Str) (defScope i_Lot) := ⟨rfl, rfl, rfl, by decide +kernel, rfl, by decide +kernel, by decide +kernel⟩
theorem ini_Lot (F : FunD K "__init__" "Lot.__init__" (defArgs i_Lot) (defBody i_Lot) (defScope i_Lot) [] [] f fd) (sk : SltK K "Lot" "own_buttons" 0) (c_g : FnG P w K mg base "wrong_button" 4 m_wrong_button) : Pm P w K mg base (L2.CX P w) 5 f fd (["self", "buttons"] : List Str) (spSlot K "Lot" m_wrong_button) := init_slot F sci_Lot sk fun cdv A outer s H E hr => by
  obtain ⟨te, a1, a2⟩ := (q_call (X := cxOf (L2.CX P w) P w K mg base (["self", "buttons", "at"] : List Str) "Lot.__init__" (defScope i_Lot) f cdv A outer s H E) (pos := _) (p := _) (E := E) c_g (hr.mono (by decide)) (passes_call (takes_of rfl rfl rfl rfl) fun _ _ _ _ h => h) (qa_cons (qv 1 (pos := _)) qa_nil)).ex
  obtain ⟨tc, b1, b2⟩ := (qt_cmp (X := cxOf (L2.CX P w) P w K mg base (["self", "buttons", "at"] : List Str) "Lot.__init__" (defScope i_Lot) f cdv A outer s H E) (E := E) od_isNot (qv 2) q_non).ex
  exact ⟨te, tc, a2, b2, (pss_cons (ps_set sci_Lot.nd rfl (Or.inl rfl) a1 rfl (Or.inl rfl)) (pss_cons (ps_if b1 pss_never pss_nil) (pss_one (SlX.ps_sl (pe_var rfl (Or.inl rfl)) (pe_var rfl (Or.inl rfl))))))⟩
end
end A18

set_option Elab.async false
set_option linter.all false
set_option maxRecDepth 100000
set_option maxHeartbeats 0
namespace A18
open PySem PySem.Spec PyProof.Rows L2 Ar
def dd (i : Nat) (x : Str) : He.DefD := ⟨(x, none), x, x, defArgs (top i), defBody (top i), defScope (top i), [], []⟩
def ddi (i j : Nat) (x : Str) : He.DefD := ⟨(x, some "__init__"), "__init__", x ++ ".__init__", defArgs (clsAt (top i) j), defBody (clsAt (top i) j), defScope (clsAt (top i) j), [], []⟩
def ddm (i j : Nat) (x nm q : Str) : He.DefD := ⟨(x, some nm), nm, q, defArgs (clsAt (top i) j), defBody (clsAt (top i) j), defScope (clsAt (top i) j), [], []⟩
def wd (i j : Nat) (C nm : Str) (kd : String) (q : Str) : WrD := ⟨(C, nm, kd), nm, q, defArgs (clsAt (top i) j), defBody (clsAt (top i) j), defScope (clsAt (top i) j)⟩
def fn : List He.DefD := ([dd 23 "_law_well", ddm 19 9 "Lot" "__repr__" "Lot.__repr__", ddm 19 7 "Lot" "__eq__" "Lot.__eq__", dd 13 "text_of", dd 20 "lot_lines", ddm 19 8 "Lot" "__str__" "Lot.__str__", ddm 19 6 "Lot" "__len__" "Lot.__len__", dd 24 "_law_dip", dd 26 "_law_picked", dd 27 "_law_number", dd 28 "_law_drawn", dd 29 "_law_page", dd 9 "is_integer", dd 12 "is_move", dd 17 "is_button", dd 18 "wrong_button", dd 30 "_law_right", dd 31 "law", ddi 19 1 "Lot"] : List He.DefD)
def fa : List He.Fa := ([.glo "_law_well", .meth "Lot" "__repr__", .meth "Lot" "__eq__", .glo "text_of", .glo "lot_lines", .meth "Lot" "__str__", .meth "Lot" "__len__", .glo "_law_dip", .glo "_law_picked", .glo "_law_number", .glo "_law_drawn", .glo "_law_page", .glo "is_integer", .glo "is_move", .glo "is_button", .glo "wrong_button", .glo "_law_right", .glo "law", .free "abs", .free "all", .free "bool", .free "divmod", .free "enumerate", .free "int", .free "isinstance", .free "len", .free "list", .free "max", .free "min", .free "range"] : List He.Fa) ++ ([.free "repr", .free "str", .free "tuple", .int "MOST_BUTTONS" 5, .int "MOST_NUMBER" 1000000000000000000000000000000, .str "WORD" "button ", .glo "Lot", .mkr "Lot"] : List He.Fa)
def ex (K : PySem.W.Frag) : Bool := sltB K "Lot" "own_buttons" && (isiB K "Lot" && (neB K "Lot" && (othB K "Lot")))
abbrev R : PySem.W.OpenRow := PySem.W.OpenLaw.row PySem.Challenge.rw_arealots_k18_lots_compared
def ts : List He.Tab := []
def asL : List Addr := ([3, 79, 89, 94, 104, 111, 191, 199, 211, 218, 232, 239, 246, 251, 256, 261, 78, 88, 93, 103, 110, 190, 198, 210, 217, 231, 238, 245, 250, 255] : List Addr) ++ ([260, 126, 152, 166, 173, 180, 187, 192, 125, 151, 165, 172, 179, 186, 150] : List Addr)
def wr : List WrD := [wd 19 4 "Lot" "text" "property" "Lot.text"]
abbrev hk : PySem.W.Hook := hookL asL fa fn ts wr ex
def loose1 : List Str := (["_wall", "__name__", "WrongValue", "InvalidText", "InvalidButtons", "MOST_BUTTONS", "MOST_NUMBER", "DIGITS", "is_integer", "written_integer", "is_move", "text_of", "text_move", "WORD", "is_button", "wrong_button", "Lot", "lot_lines", "text_lot", "_law_well", "_law_dip", "_law_one_of", "_law_picked", "_law_number", "_law_drawn", "_law_page", "_law_right"] : List Str)
theorem facts {P : Program} {w : World} {K : PySem.W.Frag} {h : Heap} {mg : Str → Option Value} {f : Addr} (X : K.In h) (G : h.Ns mainGlobals mg) (hfa : mg ("law" : Str) = some (.ref f)) (ccz : SaysZ fa fn ts wr ex w K) :
    ∃ fd : FuncData, (∀ (s : Shared) (v : Value), BindsTo s fd ⟨[v], []⟩ [("cells", v)]) ∧ ∀ base : Heap, K.In base → base.Ns mainGlobals mg → Pm P w K mg base (L2.CX P w) 10 f fd ["cells"] (spM K m_law) := by
  have cc := ccz.y
  obtain ⟨c, cx⟩ := cc.x.both
  obtain ⟨x_slt_Lot, cx⟩ := He.ba cx
  obtain ⟨x_isi_Lot, cx⟩ := He.ba cx
  obtain ⟨x_ne_Lot, cx⟩ := He.ba cx
  have x_oth_Lot := cx
  obtain ⟨fd__law_well, F__law_well⟩ := c.def_ 0 (d := dd 23 "_law_well") rfl
  have g__law_well := He.glo_ok X G (c.fact 0 (f := .glo "_law_well") rfl)
  obtain ⟨fd_Lot__repr, F_Lot__repr⟩ := c.def_ 1 (d := ddm 19 9 "Lot" "__repr__" "Lot.__repr__") rfl
  have g_Lot__repr := He.meth_ok (c.fact 1 (f := .meth "Lot" "__repr__") rfl)
  obtain ⟨fd_Lot__eq, F_Lot__eq⟩ := c.def_ 2 (d := ddm 19 7 "Lot" "__eq__" "Lot.__eq__") rfl
  have g_Lot__eq := He.meth_ok (c.fact 2 (f := .meth "Lot" "__eq__") rfl)
  obtain ⟨fd_text_of, F_text_of⟩ := c.def_ 3 (d := dd 13 "text_of") rfl
  have g_text_of := He.glo_ok X G (c.fact 3 (f := .glo "text_of") rfl)
  obtain ⟨fd_lot_lines, F_lot_lines⟩ := c.def_ 4 (d := dd 20 "lot_lines") rfl
  have g_lot_lines := He.glo_ok X G (c.fact 4 (f := .glo "lot_lines") rfl)
  obtain ⟨fd_Lot__str, F_Lot__str⟩ := c.def_ 5 (d := ddm 19 8 "Lot" "__str__" "Lot.__str__") rfl
  have g_Lot__str := He.meth_ok (c.fact 5 (f := .meth "Lot" "__str__") rfl)
  obtain ⟨fd_Lot__len, F_Lot__len⟩ := c.def_ 6 (d := ddm 19 6 "Lot" "__len__" "Lot.__len__") rfl
  have g_Lot__len := He.meth_ok (c.fact 6 (f := .meth "Lot" "__len__") rfl)
  obtain ⟨fd__law_dip, F__law_dip⟩ := c.def_ 7 (d := dd 24 "_law_dip") rfl
  have g__law_dip := He.glo_ok X G (c.fact 7 (f := .glo "_law_dip") rfl)
  obtain ⟨fd__law_picked, F__law_picked⟩ := c.def_ 8 (d := dd 26 "_law_picked") rfl
  have g__law_picked := He.glo_ok X G (c.fact 8 (f := .glo "_law_picked") rfl)
  obtain ⟨fd__law_number, F__law_number⟩ := c.def_ 9 (d := dd 27 "_law_number") rfl
  have g__law_number := He.glo_ok X G (c.fact 9 (f := .glo "_law_number") rfl)
  obtain ⟨fd__law_drawn, F__law_drawn⟩ := c.def_ 10 (d := dd 28 "_law_drawn") rfl
  have g__law_drawn := He.glo_ok X G (c.fact 10 (f := .glo "_law_drawn") rfl)
  obtain ⟨fd__law_page, F__law_page⟩ := c.def_ 11 (d := dd 29 "_law_page") rfl
  have g__law_page := He.glo_ok X G (c.fact 11 (f := .glo "_law_page") rfl)
  obtain ⟨fd_is_integer, F_is_integer⟩ := c.def_ 12 (d := dd 9 "is_integer") rfl
  have g_is_integer := He.glo_ok X G (c.fact 12 (f := .glo "is_integer") rfl)
  obtain ⟨fd_is_move, F_is_move⟩ := c.def_ 13 (d := dd 12 "is_move") rfl
  have g_is_move := He.glo_ok X G (c.fact 13 (f := .glo "is_move") rfl)
  obtain ⟨fd_is_button, F_is_button⟩ := c.def_ 14 (d := dd 17 "is_button") rfl
  have g_is_button := He.glo_ok X G (c.fact 14 (f := .glo "is_button") rfl)
  obtain ⟨fd_wrong_button, F_wrong_button⟩ := c.def_ 15 (d := dd 18 "wrong_button") rfl
  have g_wrong_button := He.glo_ok X G (c.fact 15 (f := .glo "wrong_button") rfl)
  obtain ⟨fd__law_right, F__law_right⟩ := c.def_ 16 (d := dd 30 "_law_right") rfl
  have g__law_right := He.glo_ok X G (c.fact 16 (f := .glo "_law_right") rfl)
  obtain ⟨fd_law, F_law⟩ := c.def_ 17 (d := dd 31 "law") rfl
  have g_law := He.glo_ok X G (c.fact 17 (f := .glo "law") rfl)
  obtain ⟨w_Lot__text, fd_Lot__text, F_Lot__text⟩ := ccz.wr_ 0 (d := wd 19 4 "Lot" "text" "property" "Lot.text") rfl
  have b_abs := He.free_ok X G (c.fact 18 (f := .free "abs") rfl)
  have b_all := He.free_ok X G (c.fact 19 (f := .free "all") rfl)
  have b_bool := He.free_ok X G (c.fact 20 (f := .free "bool") rfl)
  have b_divmod := He.free_ok X G (c.fact 21 (f := .free "divmod") rfl)
  have b_enumerate := He.free_ok X G (c.fact 22 (f := .free "enumerate") rfl)
  have b_int := He.free_ok X G (c.fact 23 (f := .free "int") rfl)
  have b_isinstance := He.free_ok X G (c.fact 24 (f := .free "isinstance") rfl)
  have b_len := He.free_ok X G (c.fact 25 (f := .free "len") rfl)
  have b_list := He.free_ok X G (c.fact 26 (f := .free "list") rfl)
  have b_max := He.free_ok X G (c.fact 27 (f := .free "max") rfl)
  have b_min := He.free_ok X G (c.fact 28 (f := .free "min") rfl)
  have b_range := He.free_ok X G (c.fact 29 (f := .free "range") rfl)
  have b_repr := He.free_ok X G (c.fact 30 (f := .free "repr") rfl)
  have b_str := He.free_ok X G (c.fact 31 (f := .free "str") rfl)
  have b_tuple := He.free_ok X G (c.fact 32 (f := .free "tuple") rfl)
  have k_MOST_BUTTONS := glo_int X G (c.fact 33 (f := .int "MOST_BUTTONS" 5) rfl)
  have k_MOST_NUMBER := glo_int X G (c.fact 34 (f := .int "MOST_NUMBER" 1000000000000000000000000000000) rfl)
  have k_WORD := glo_str X G (c.fact 35 (f := .str "WORD" "button ") rfl)
  have gc_Lot := He.glo_ok X G (c.fact 36 (f := .glo "Lot") rfl)
  have fl_Lot_own_buttons : SltK K "Lot" "own_buttons" 0 := sltB_ok x_slt_Lot
  have isi_Lot : IsiK K "Lot" := isiB_ok x_slt_Lot x_isi_Lot
  have kc_Lot : GloC K mg "Lot" (.glo "Lot") := glo_cls X G (c.fact 36 (f := .glo "Lot") rfl)
  have oth_Lot : OthS K (He.ga K "Lot") := othB_ok x_oth_Lot
  have ne_Lot : NeK K "Lot" := neB_ok x_ne_Lot
  obtain ⟨fdi_Lot, Fi_Lot⟩ := c.def_ 18 (d := ddi 19 1 "Lot") rfl
  have mkr_Lot := He.mkr_ok (c.fact 37 (f := .mkr "Lot") rfl)
  have e := hfa.symm.trans g_law
  cases e
  have b := FunD.bindsA (ps := ["cells"]) F_law fun _ _ _ _ _ _ us hl => match us, hl with | [_], _ => rfl
  refine ⟨fd_law, fun s v => b s [v] rfl, fun base _ _ => ?_⟩
  have o__law_well : Pm P w K mg base (L2.CX P w) 1 _ fd__law_well _ (spM K m__law_well) := ok__law_well F__law_well b_abs b_int b_len
  have c__law_well : FnG P w K mg base "_law_well" 1 m__law_well := fng F__law_well g__law_well (fun _ _ _ _ _ _ us hl => match us, hl with | [_, _], _ => rfl) o__law_well
  have o_Lot__repr : Pm P w K mg base (L2.CX P w) 1 _ fd_Lot__repr _ (spM K m_Lot__repr) := ok_Lot__repr F_Lot__repr b_len fl_Lot_own_buttons
  have me_Lot__repr : MethG P w K mg base "Lot" "__repr__" 1 m_Lot__repr := methg F_Lot__repr g_Lot__repr.at_ g_Lot__repr.fn g_Lot__repr.kp (fun _ _ _ _ _ _ us hl => match us, hl with | [_], _ => rfl) o_Lot__repr
  have o_Lot__eq : Pm P w K mg base (L2.CX P w) 1 _ fd_Lot__eq _ (spM K m_Lot__eq) := ok_Lot__eq F_Lot__eq b_isinstance fl_Lot_own_buttons isi_Lot kc_Lot oth_Lot
  have me_Lot__eq : MethG P w K mg base "Lot" "__eq__" 1 m_Lot__eq := methg F_Lot__eq g_Lot__eq.at_ g_Lot__eq.fn g_Lot__eq.kp (fun _ _ _ _ _ _ us hl => match us, hl with | [_, _], _ => rfl) o_Lot__eq
  have o_text_of : Pm P w K mg base (L2.CX P w) 1 _ fd_text_of _ (spM K m_text_of) := ok_text_of F_text_of b_str
  have c_text_of : FnG P w K mg base "text_of" 1 m_text_of := fng F_text_of g_text_of (fun _ _ _ _ _ _ us hl => match us, hl with | [_], _ => rfl) o_text_of
  have o_lot_lines : Pm P w K mg base (L2.CX P w) 2 _ fd_lot_lines _ (spM K m_lot_lines) := ok_lot_lines F_lot_lines k_WORD fl_Lot_own_buttons c_text_of
  have c_lot_lines : FnG P w K mg base "lot_lines" 2 m_lot_lines := fng F_lot_lines g_lot_lines (fun _ _ _ _ _ _ us hl => match us, hl with | [_], _ => rfl) o_lot_lines
  have o_Lot__str : Pm P w K mg base (L2.CX P w) 3 _ fd_Lot__str _ (spM K m_Lot__str) := ok_Lot__str F_Lot__str c_lot_lines
  have me_Lot__str : MethG P w K mg base "Lot" "__str__" 3 m_Lot__str := methg F_Lot__str g_Lot__str.at_ g_Lot__str.fn g_Lot__str.kp (fun _ _ _ _ _ _ us hl => match us, hl with | [_], _ => rfl) o_Lot__str
  have o_Lot__text : Pm P w K mg base (L2.CX P w) 6 _ fd_Lot__text _ (spM K m_Lot__text) := ok_Lot__text F_Lot__text b_str isi_Lot kc_Lot me_Lot__str
  have me_Lot__text : PropG P w K mg base "Lot" "text" 6 m_Lot__text := propg (d := wd 19 4 "Lot" "text" "property" "Lot.text") rfl w_Lot__text isi_Lot.s F_Lot__text (fun _ _ _ _ _ _ us hl => match us, hl with | [_], _ => rfl) o_Lot__text
  have o_Lot__len : Pm P w K mg base (L2.CX P w) 1 _ fd_Lot__len _ (spM K m_Lot__len) := ok_Lot__len F_Lot__len b_len fl_Lot_own_buttons
  have me_Lot__len : MethG P w K mg base "Lot" "__len__" 1 m_Lot__len := methg F_Lot__len g_Lot__len.at_ g_Lot__len.fn g_Lot__len.kp (fun _ _ _ _ _ _ us hl => match us, hl with | [_], _ => rfl) o_Lot__len
  have o__law_dip : Pm P w K mg base (L2.CX P w) 1 _ fd__law_dip _ (spM K m__law_dip) := ok__law_dip F__law_dip b_divmod b_int
  have c__law_dip : FnG P w K mg base "_law_dip" 1 m__law_dip := fng F__law_dip g__law_dip (fun _ _ _ _ _ _ us hl => match us, hl with | [_, _], _ => rfl) o__law_dip
  have o__law_picked : Pm P w K mg base (L2.CX P w) 2 _ fd__law_picked _ (spM K m__law_picked) := ok__law_picked F__law_picked b_len b_list b_range c__law_dip
  have c__law_picked : FnG P w K mg base "_law_picked" 2 m__law_picked := fng F__law_picked g__law_picked (fun _ _ _ _ _ _ us hl => match us, hl with | [_, _, _], _ => rfl) o__law_picked
  have o__law_number : Pm P w K mg base (L2.CX P w) 2 _ fd__law_number _ (spM K m__law_number) := ok__law_number F__law_number b_range c__law_dip
  have c__law_number : FnG P w K mg base "_law_number" 2 m__law_number := fng F__law_number g__law_number (fun _ _ _ _ _ _ us hl => match us, hl with | [_], _ => rfl) o__law_number
  have o__law_drawn : Pm P w K mg base (L2.CX P w) 3 _ fd__law_drawn _ (spM K m__law_drawn) := ok__law_drawn F__law_drawn c__law_dip c__law_number
  have c__law_drawn : FnG P w K mg base "_law_drawn" 3 m__law_drawn := fng F__law_drawn g__law_drawn (fun _ _ _ _ _ _ us hl => match us, hl with | [_], _ => rfl) o__law_drawn
  have o__law_page : Pm P w K mg base (L2.CX P w) 1 _ fd__law_page _ (spM K m__law_page) := ok__law_page F__law_page b_str
  have c__law_page : FnG P w K mg base "_law_page" 1 m__law_page := fng F__law_page g__law_page (fun _ _ _ _ _ _ us hl => match us, hl with | [_], _ => rfl) o__law_page
  have o_is_integer : Pm P w K mg base (L2.CX P w) 1 _ fd_is_integer _ (spM K m_is_integer) := ok_is_integer F_is_integer b_bool b_int b_isinstance
  have c_is_integer : FnG P w K mg base "is_integer" 1 m_is_integer := fng F_is_integer g_is_integer (fun _ _ _ _ _ _ us hl => match us, hl with | [_], _ => rfl) o_is_integer
  have o_is_move : Pm P w K mg base (L2.CX P w) 2 _ fd_is_move _ (spM K m_is_move) := ok_is_move F_is_move b_all b_isinstance b_len b_tuple c_is_integer
  have c_is_move : FnG P w K mg base "is_move" 2 m_is_move := fng F_is_move g_is_move (fun _ _ _ _ _ _ us hl => match us, hl with | [_], _ => rfl) o_is_move
  have o_is_button : Pm P w K mg base (L2.CX P w) 3 _ fd_is_button _ (spM K m_is_button) := ok_is_button F_is_button b_abs b_all k_MOST_NUMBER c_is_move
  have c_is_button : FnG P w K mg base "is_button" 3 m_is_button := fng F_is_button g_is_button (fun _ _ _ _ _ _ us hl => match us, hl with | [_], _ => rfl) o_is_button
  have o_wrong_button : Pm P w K mg base (L2.CX P w) 4 _ fd_wrong_button _ (spM K m_wrong_button) := ok_wrong_button F_wrong_button b_enumerate b_isinstance b_len b_tuple k_MOST_BUTTONS c_is_button
  have c_wrong_button : FnG P w K mg base "wrong_button" 4 m_wrong_button := fng F_wrong_button g_wrong_button (fun _ _ _ _ _ _ us hl => match us, hl with | [_], _ => rfl) o_wrong_button
  have mk_Lot : MkS P w K mg base "Lot" 5 m_wrong_button := mkS Fi_Lot mkr_Lot gc_Lot (fun _ _ _ _ _ _ us hl => match us, hl with | [_, _], _ => rfl) (ini_Lot Fi_Lot fl_Lot_own_buttons c_wrong_button)
  have o__law_right : Pm P w K mg base (L2.CX P w) 9 _ fd__law_right _ (spM K m__law_right) := ok__law_right F__law_right b_len b_range b_repr b_tuple mk_Lot isi_Lot kc_Lot ne_Lot oth_Lot c__law_dip c__law_drawn c__law_page c__law_picked me_Lot__eq me_Lot__len me_Lot__repr me_Lot__text
  have c__law_right : FnG P w K mg base "_law_right" 9 m__law_right := fng F__law_right g__law_right (fun _ _ _ _ _ _ us hl => match us, hl with | [_], _ => rfl) o__law_right
  exact ok_law F_law b_all b_len b_max b_min b_range c__law_right c__law_well
end A18

set_option Elab.async false
set_option linter.all false
set_option maxRecDepth 100000
set_option maxHeartbeats 0
open PySem PySem.W PySem.Calls PyProof.Rows
theorem PySem.Challenge.cw_arealots_k18_lots_compared_holds : PySem.Challenge.rw_arealots_k18_lots_compared.Holds := by
  w_on; o_law
  o_head A18.hk
  case hw => w_witness2
  case hc =>
    refine Ar.walk (l := PySem.Challenge.rw_arealots_k18_lots_compared) (n := 63) (k := 10) (x := "cells") rfl (by decide) rfl ⟨⟨rfl, by decide, by decide⟩, rfl⟩ ?F
    intro w mg fa h Y G hmg0
    obtain ⟨K, KX, c⟩ := Y
    have hmg : mg ("law" : PySem.Str) = some (.ref fa) := hmg0
    obtain ⟨fd, hb, hF⟩ := A18.facts (P := (PySem.Challenge.rw_arealots_k18_lots_compared).prog) (w := w) KX G hmg c
    exact ⟨K, fd, A18.m_law, KX, hb, A18.law_true, hF⟩
