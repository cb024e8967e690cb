import PyProof.Rows.All
import HandS.ForMost
import HandS.Wide
import HandS.Conv
import HandS.Zip
import HandS.IsInst
import HandS.SortInts
import HandS.Deep
import HandS.TupAny
import HandS.TupMul
import HandS.Flow
import HandS.More
import HandS.ForExc
import HandS.Defaults
import HandS.HeadHook4
import KE.KDictSum
import KE.GoesZip
import KE.GoesMore
import KE.GoesEnum
import HandS.TryMany
import HandS.ExcIs
import HandS.Style
import KE.SortData
import HandS.Iter
import HandS.SetFor
import HandS.Strs
import HandS.DictTup
import HandS.ListItems
import PyProof.Transfer
import KE.KDictPairs
import HandS.Codes
import PyProof.P3Eq
import PySem.Challenge.RW_lotwander_k14_whole_costs
import HandS.Head0
import HandS.Head1
import HandS.Head2
import HandS.HeadEnd

section
set_option Elab.async false
set_option linter.all false
set_option maxRecDepth 100000
set_option maxHeartbeats 2000000
set_option autoImplicit false
/-! DL: a layer of values over HandS: what an expression, a block, a def is worth, as a plain function of data. -/
namespace DL
open PySem PySem.Spec PyProof.Rows L2

abbrev D := PyData
abbrev Rho := List (Option D)

/-! ### results -/
inductive Res (α : Type) where
  | ok (a : α)
  | exc (c : Str)
  | bad
def Res.bind {α β : Type} (x : Res α) (f : α → Res β) : Res β :=
  match x with
  | .ok a => f a
  | .exc c => .exc c
  | .bad => .bad
@[simp] theorem bind_ok {α β : Type} (a : α) (f : α → Res β) : (Res.ok a).bind f = f a := rfl
@[simp] theorem bind_exc {α β : Type} (c : Str) (f : α → Res β) : (Res.exc c).bind f = Res.exc c := rfl
@[simp] theorem bind_bad {α β : Type} (f : α → Res β) : (Res.bad : Res α).bind f = Res.bad := rfl
/-- where nothing may be raised -/
def Res.calm {α : Type} : Res α → Res α
  | .ok a => .ok a
  | _ => .bad
@[simp] theorem calm_ok {α : Type} (a : α) : (Res.ok a).calm = .ok a := rfl

/-! ### heaps -/
open Classical in
noncomputable def Cut (A : Addr → Prop) (H : Hp) : Hp := fun a => if A a then none else H a
theorem cut_in {A : Addr → Prop} {H : Hp} {a : Addr} (h : A a) : Cut A H a = none := by unfold Cut; rw [if_pos h]
theorem cut_out {A : Addr → Prop} {H : Hp} {a : Addr} (h : ¬ A a) : Cut A H a = H a := by unfold Cut; rw [if_neg h]
theorem cut_some {A : Addr → Prop} {H : Hp} {a : Addr} {o : HO} (h : Cut A H a = some o) : ¬ A a ∧ H a = some o := by
  by_cases c : A a
  · rw [cut_in c] at h; cases h
  · rw [cut_out c] at h; exact ⟨c, h⟩
theorem cut_same {A : Addr → Prop} {H H' : Hp} (s : Same H H') : Same (Cut A H) (Cut A H') := fun a o h => by
  obtain ⟨c, e⟩ := cut_some h
  rw [cut_out c]; exact s a o e
theorem cut_sub {A : Addr → Prop} {H : Hp} : Same (Cut A H) H := fun a o h => (cut_some h).2
theorem cut_mono {A A' : Addr → Prop} {H : Hp} (s : ∀ a, A' a → A a) : Same (Cut A H) (Cut A' H) := fun a o h => by
  obtain ⟨c, e⟩ := cut_some h
  rw [cut_out fun z => c (s a z)]; exact e
theorem cut_upd_in {A : Addr → Prop} {H : Hp} {a : Addr} {o : HO} (h : A a) : Cut A (upd H a o) = Cut A H := by
  funext b
  by_cases c : A b
  · rw [cut_in c, cut_in c]
  · rw [cut_out c, cut_out c, upd_ne]
    intro e; subst e; exact c h
theorem same_new {H : Hp} {p : Addr} {o : HO} (h : H p = none) : Same H (upd H p o) := fun b x e => by
  rw [upd_ne (ne_of_none e h)]; exact e
theorem cut_new {A : Addr → Prop} {H : Hp} {p : Addr} {o : HO} (h : ¬ A p) : Cut A (upd H p o) p = some o := by
  rw [cut_out h, upd_same]
/-- owned things are tracked -/
def Dom (A : Addr → Prop) (H : Hp) : Prop := ∀ a, A a → H a ≠ none
theorem Dom.new {A : Addr → Prop} {H : Hp} (d : Dom A H) {p : Addr} (h : H p = none) : ¬ A p := fun z => d p z h
theorem Dom.same {A : Addr → Prop} {H H' : Hp} (d : Dom A H) (s : Same H H') : Dom A H' := fun a h z => by
  cases q : H a with
  | none => exact d a h q
  | some o => rw [s a o q] at z; cases z

/-! ### what represents what -/
def keyD : Key → D
  | .inl i => .int i
  | .inr x => .str x
mutual
inductive R (K : PySem.W.Frag) (H : Hp) : V → D → Prop
  | non : R K H .non .none
  | bl (b : Bool) : R K H (.bl b) (.bool b)
  | int (i : Int) : R K H (.int i) (.int i)
  | str (x : Str) : R K H (.str x) (.str x)
  | lst {a : Addr} {xs : List V} {ds : List D} : H a = some (.lst xs) → RAll K H xs ds → R K H (.ref a) (.list ds)
  | scr {a : Addr} {ns : List Int} : SqL K H a (ns.map V.int) → R K H (.ref a) (.dict [(.none, .list (ns.map PyData.int))])
  | tup {a : Addr} {xs : List V} {ds : List D} : SqT K H a xs → RAll K H xs ds → R K H (.ref a) (.tuple ds)
  | dic {a : Addr} {kvs : List (Key × V)} {ds : List (D × D)} : H a = some (.dK kvs) → RKV K H kvs ds → R K H (.ref a) (.dict ds)
  | fdic {a : Addr} {o : Obj} {kvs : List (Key × V)} {ds : List (D × D)} : H a = some (.frz o (.dK kvs)) → RKV K H kvs ds → R K H (.ref a) (.dict ds)
inductive RAll (K : PySem.W.Frag) (H : Hp) : List V → List D → Prop
  | nil : RAll K H [] []
  | cons {v : V} {vs : List V} {d : D} {ds : List D} : R K H v d → RAll K H vs ds → RAll K H (v :: vs) (d :: ds)
inductive RKV (K : PySem.W.Frag) (H : Hp) : List (Key × V) → List (D × D) → Prop
  | nil : RKV K H [] []
  | cons {k : Key} {v : V} {kvs : List (Key × V)} {d : D} {ds : List (D × D)} : R K H v d → RKV K H kvs ds → RKV K H ((k, v) :: kvs) ((keyD k, d) :: ds)
end
section
variable {K : PySem.W.Frag} {H H' : Hp}
theorem sqT_same {a : Addr} {xs : List V} (e : Same H H') (h : SqT K H a xs) : SqT K H' a xs := by
  rcases h with (h | ⟨o, h⟩) | h
  · exact .inl (.inl (e _ _ h))
  · exact .inl (.inr ⟨o, e _ _ h⟩)
  · exact .inr h
mutual
theorem R.mono (s : Same H H') : ∀ {v : V} {d : D}, R K H v d → R K H' v d
  | _, _, .non => .non
  | _, _, .bl b => .bl b
  | _, _, .int i => .int i
  | _, _, .str x => .str x
  | _, _, .lst h r => .lst (s _ _ h) (RAll.mono s r)
  | _, _, .scr h => .scr (s.seq h)
  | _, _, .tup h r => .tup (sqT_same s h) (RAll.mono s r)
  | _, _, .dic h r => .dic (s _ _ h) (RKV.mono s r)
  | _, _, .fdic h r => .fdic (s _ _ h) (RKV.mono s r)
theorem RAll.mono (s : Same H H') : ∀ {vs : List V} {ds : List D}, RAll K H vs ds → RAll K H' vs ds
  | _, _, .nil => .nil
  | _, _, .cons h r => .cons (R.mono s h) (RAll.mono s r)
theorem RKV.mono (s : Same H H') : ∀ {vs : List (Key × V)} {ds : List (D × D)}, RKV K H vs ds → RKV K H' vs ds
  | _, _, .nil => .nil
  | _, _, .cons h r => .cons (R.mono s h) (RKV.mono s r)
end
theorem RAll.length : ∀ {vs : List V} {ds : List D}, RAll K H vs ds → vs.length = ds.length
  | _, _, .nil => rfl
  | _, _, .cons _ r => by rw [List.length_cons, List.length_cons, RAll.length r]
theorem RAll.get : ∀ {vs : List V} {ds : List D}, RAll K H vs ds → ∀ {i : Nat} {d : D}, ds[i]? = some d → ∃ v, vs[i]? = some v ∧ R K H v d
  | _, _, .nil, i, d, h => by simp at h
  | _, _, .cons r _, 0, d, h => by simp at h; subst h; exact ⟨_, rfl, r⟩
  | _, _, .cons _ t, i + 1, d, h => by
    obtain ⟨v, a, b⟩ := RAll.get t (i := i) (d := d) (by simpa using h)
    exact ⟨v, by simpa using a, b⟩
theorem RAll.getV : ∀ {vs : List V} {ds : List D}, RAll K H vs ds → ∀ {i : Nat} {v : V}, vs[i]? = some v → ∃ d, ds[i]? = some d ∧ R K H v d
  | _, _, .nil, i, d, h => by simp at h
  | _, _, .cons r _, 0, d, h => by simp at h; subst h; exact ⟨_, rfl, r⟩
  | _, _, .cons _ t, i + 1, d, h => by
    obtain ⟨v, a, b⟩ := RAll.getV t (i := i) (v := d) (by simpa using h)
    exact ⟨v, by simpa using a, b⟩
theorem RAll.set {v : V} {d : D} (r : R K H v d) : ∀ {vs : List V} {ds : List D} (i : Nat), RAll K H vs ds → RAll K H (vs.set i v) (ds.set i d)
  | _, _, _, .nil => .nil
  | _, _, 0, .cons _ t => .cons r t
  | _, _, i + 1, .cons q t => .cons q (RAll.set r i t)
theorem RAll.append : ∀ {vs ws : List V} {ds es : List D}, RAll K H vs ds → RAll K H ws es → RAll K H (vs ++ ws) (ds ++ es)
  | _, _, _, _, .nil, s => s
  | _, _, _, _, .cons r t, s => .cons r (RAll.append t s)
theorem RAll.take : ∀ {vs : List V} {ds : List D} (n : Nat), RAll K H vs ds → RAll K H (vs.take n) (ds.take n)
  | _, _, 0, _ => .nil
  | _, _, _ + 1, .nil => .nil
  | _, _, n + 1, .cons r t => .cons r (RAll.take n t)
theorem RAll.drop : ∀ {vs : List V} {ds : List D} (n : Nat), RAll K H vs ds → RAll K H (vs.drop n) (ds.drop n)
  | _, _, 0, r => r
  | _, _, _ + 1, .nil => .nil
  | _, _, n + 1, .cons _ t => RAll.drop n t
theorem RAll.reverse {vs : List V} {ds : List D} (h : RAll K H vs ds) : RAll K H vs.reverse ds.reverse := by
  induction vs generalizing ds with
  | nil => cases h; exact .nil
  | cons v r ih =>
    cases h with
    | cons a b => rw [List.reverse_cons, List.reverse_cons]; exact (ih b).append (.cons a .nil)
theorem R.int_of {v : V} {i : Int} (h : R K H v (.int i)) : v = .int i := by cases h; rfl
theorem R.bool_of {v : V} {b : Bool} (h : R K H v (.bool b)) : v = .bl b := by cases h; rfl
theorem R.str_of {v : V} {x : Str} (h : R K H v (.str x)) : v = .str x := by cases h; rfl
theorem R.none_of {v : V} (h : R K H v .none) : v = .non := by cases h; rfl
theorem R.list_of {v : V} {ds : List D} (h : R K H v (.list ds)) : ∃ a xs, v = .ref a ∧ H a = some (.lst xs) ∧ RAll K H xs ds := by cases h with | lst a b => exact ⟨_, _, rfl, a, b⟩
theorem R.tuple_of {v : V} {ds : List D} (h : R K H v (.tuple ds)) : ∃ a xs, v = .ref a ∧ SqT K H a xs ∧ RAll K H xs ds := by cases h with | tup a b => exact ⟨_, _, rfl, a, b⟩
/-- the law's script, of which only the places are read -/
abbrev scrD (ns : List Int) : D := .dict [(.none, .list (ns.map PyData.int))]
/-- no dict within: what == may be asked of -/
def plainD (d : D) : Bool := SeqAt.shaped d
mutual
theorem R.dp : ∀ {v : V} {d : D}, R K H v d → d.canLay0 = true → Dp K H v d
  | _, _, .non, _ => .non
  | _, _, .bl b, _ => .bl b
  | _, _, .int i, _ => .int i
  | _, _, .str x, _ => .str x
  | _, _, .lst h r, c => .lst (.of h) (RAll.dp r (by simpa [PyData.canLay0] using c))
  | _, _, .scr _, c => by simp [PyData.canLay0] at c
  | _, _, .tup h r, c => .tup h (RAll.dp r (by simpa [PyData.canLay0] using c))
  | _, _, .dic _ _, c => by simp [PyData.canLay0] at c
  | _, _, .fdic _ _, c => by simp [PyData.canLay0] at c
theorem RAll.dp : ∀ {vs : List V} {ds : List D}, RAll K H vs ds → PyData.canLayAll0 ds = true → DpAll K H vs ds
  | _, _, .nil, _ => .nil
  | _, _, .cons h r, c => by
    simp only [PyData.canLayAll0, Bool.and_eq_true] at c
    exact .cons (R.dp h c.1) (RAll.dp r c.2)
end
end

/-! ### the names of a def: what each slot is worth; which slots hold lists, dicts of the def's own that it still changes -/
def OwnA (own : List Nat) (σ : L2.St) (a : Addr) : Prop := ∃ i, i ∈ own ∧ σ[i]? = some (some (.ref a))
def AllA (O : Addr → Prop) (own : List Nat) (σ : L2.St) (a : Addr) : Prop := O a ∨ OwnA own σ a
inductive OwnR (K : PySem.W.Frag) (C H : Hp) (a : Addr) : D → Prop
  | lst {vs : List V} {ds : List D} : H a = some (.lst vs) → RAll K C vs ds → OwnR K C H a (.list ds)
  | dic {kvs : List (Key × V)} {ds : List (D × D)} : H a = some (.dK kvs) → RKV K C kvs ds → OwnR K C H a (.dict ds)
structure EnvOk (K : PySem.W.Frag) (O : Addr → Prop) (H0 : Hp) (own : List Nat) (ρ : Rho) (σ : L2.St) (H : Hp) : Prop where
  len : σ.length = ρ.length
  base : Same H0 H
  dom : Dom O H0
  new : ∀ a, OwnA own σ a → H0 a = none
  live : ∀ a, OwnA own σ a → H a ≠ none
  inj : ∀ i j a, i ∈ own → j ∈ own → σ[i]? = some (some (.ref a)) → σ[j]? = some (some (.ref a)) → i = j
  sh : ∀ i d, i ∉ own → ρ[i]? = some (some d) → ∃ v, σ[i]? = some (some v) ∧ R K (Cut (AllA O own σ) H) v d
  ow : ∀ i d, i ∈ own → ρ[i]? = some (some d) → ∃ a, σ[i]? = some (some (.ref a)) ∧ OwnR K (Cut (AllA O own σ) H) H a d
section
variable {K : PySem.W.Frag} {O : Addr → Prop} {H0 H H' : Hp} {own own' : List Nat} {ρ : Rho} {σ : L2.St}
theorem EnvOk.domA (e : EnvOk K O H0 own ρ σ H) : Dom (AllA O own σ) H := fun a h z => by
  rcases h with h | h
  · exact (e.dom.same e.base) a h z
  · exact e.live a h z
theorem EnvOk.notO (e : EnvOk K O H0 own ρ σ H) {a : Addr} (h : OwnA own σ a) : ¬ O a := fun z => e.dom a z (e.new a h)
theorem EnvOk.mono (e : EnvOk K O H0 own ρ σ H) (s : Same H H') : EnvOk K O H0 own ρ σ H' where
  len := e.len
  base := e.base.trans s
  dom := e.dom
  new := e.new
  live := fun a h z => by
    cases q : H a with
    | none => exact e.live a h q
    | some o => rw [s a o q] at z; cases z
  inj := e.inj
  sh := fun i d h q => by
    obtain ⟨v, a, b⟩ := e.sh i d h q
    exact ⟨v, a, b.mono (cut_same s)⟩
  ow := fun i d h q => by
    obtain ⟨a, b, c⟩ := e.ow i d h q
    refine ⟨a, b, ?_⟩
    cases c with
    | lst x y => exact .lst (s _ _ x) (y.mono (cut_same s))
    | dic x y => exact .dic (s _ _ x) (y.mono (cut_same s))
theorem own_sub (s : ∀ i ∈ own', i ∈ own) {a : Addr} (h : OwnA own' σ a) : OwnA own σ a := let ⟨i, m, q⟩ := h; ⟨i, s i m, q⟩
theorem all_sub (s : ∀ i ∈ own', i ∈ own) {a : Addr} (h : AllA O own' σ a) : AllA O own σ a := h.imp id (own_sub s)
/-- a list that is changed no more -/
theorem EnvOk.freeze (e : EnvOk K O H0 own ρ σ H) (s : ∀ i ∈ own', i ∈ own) : EnvOk K O H0 own' ρ σ H where
  len := e.len
  base := e.base
  dom := e.dom
  new := fun a h => e.new a (own_sub s h)
  live := fun a h => e.live a (own_sub s h)
  inj := fun i j a h h' => e.inj i j a (s i h) (s j h')
  sh := fun i d h q => by
    have mo : Same (Cut (AllA O own σ) H) (Cut (AllA O own' σ) H) := cut_mono fun a z => all_sub s z
    by_cases c : i ∈ own
    · obtain ⟨a, b, r⟩ := e.ow i d c q
      have oa : OwnA own σ a := ⟨i, c, b⟩
      have na : ¬ AllA O own' σ a := by
        rintro (z | ⟨j, m, z⟩)
        · exact e.notO oa z
        · exact h (e.inj i j a c (s j m) b z ▸ m)
      refine ⟨.ref a, b, ?_⟩
      cases r with
      | lst x y => exact .lst (by rw [cut_out na]; exact x) (y.mono mo)
      | dic x y => exact .dic (by rw [cut_out na]; exact x) (y.mono mo)
    · obtain ⟨v, a, b⟩ := e.sh i d c q
      exact ⟨v, a, b.mono mo⟩
  ow := fun i d h q => by
    obtain ⟨a, b, c⟩ := e.ow i d (s i h) q
    have mo : Same (Cut (AllA O own σ) H) (Cut (AllA O own' σ) H) := cut_mono fun a z => all_sub s z
    refine ⟨a, b, ?_⟩
    cases c with
    | lst x y => exact .lst x (y.mono mo)
    | dic x y => exact .dic x (y.mono mo)
theorem own_set {i : Nat} {v : V} (h : i ∉ own) {a : Addr} : OwnA own (σ.set i (some v)) a ↔ OwnA own σ a := by
  constructor
  · rintro ⟨j, m, q⟩
    have ne : i ≠ j := fun z => h (z ▸ m)
    rw [List.getElem?_set_ne ne] at q
    exact ⟨j, m, q⟩
  · rintro ⟨j, m, q⟩
    have ne : i ≠ j := fun z => h (z ▸ m)
    exact ⟨j, m, by rw [List.getElem?_set_ne ne]; exact q⟩
theorem all_set {i : Nat} {v : V} (h : i ∉ own) : AllA O own (σ.set i (some v)) = AllA O own σ := by
  funext a
  exact propext (or_congr Iff.rfl (own_set (v := v) h))
/-- a name is given a value that nobody changes -/
theorem EnvOk.setSh (e : EnvOk K O H0 own ρ σ H) {i : Nat} {v : V} {d : D} (h : i ∉ own) (r : R K (Cut (AllA O own σ) H) v d) : EnvOk K O H0 own (ρ.set i (some d)) (σ.set i (some v)) H where
  len := by rw [List.length_set, List.length_set]; exact e.len
  base := e.base
  dom := e.dom
  new := fun a z => e.new a ((own_set h).mp z)
  live := fun a z => e.live a ((own_set h).mp z)
  inj := fun j k a m m' q q' => by
    have ne : i ≠ j := fun z => h (z ▸ m)
    have ne' : i ≠ k := fun z => h (z ▸ m')
    rw [List.getElem?_set_ne ne] at q
    rw [List.getElem?_set_ne ne'] at q'
    exact e.inj j k a m m' q q'
  sh := fun j d' m q => by
    rw [all_set h]
    by_cases c : i = j
    · subst c
      by_cases l : i < ρ.length
      · rw [List.getElem?_set_self l] at q
        cases q
        exact ⟨v, by rw [List.getElem?_set_self (by rw [e.len]; exact l)], r⟩
      · rw [List.getElem?_eq_none (by rw [List.length_set]; omega)] at q; cases q
    · rw [List.getElem?_set_ne c] at q ⊢
      exact e.sh j d' m q
  ow := fun j d' m q => by
    rw [all_set h]
    have ne : i ≠ j := fun z => h (z ▸ m)
    rw [List.getElem?_set_ne ne] at q ⊢
    exact e.ow j d' m q
/-- a slot is forgotten -/
theorem EnvOk.forget (e : EnvOk K O H0 own ρ σ H) {ρ' : Rho} (hl : ρ'.length = ρ.length) (h : ∀ (i : Nat) (d : D), ρ'[i]? = some (some d) → ρ[i]? = some (some d)) : EnvOk K O H0 own ρ' σ H :=
  ⟨e.len.trans hl.symm, e.base, e.dom, e.new, e.live, e.inj, fun i d m q => e.sh i d m (h i d q), fun i d m q => e.ow i d m (h i d q)⟩
theorem own_put {i : Nat} {p : Addr} (h : i ∉ own) {a : Addr} (z : OwnA (i :: own) (σ.set i (some (.ref p))) a) : a = p ∨ OwnA own σ a := by
  obtain ⟨j, m, q⟩ := z
  by_cases c : i = j
  · subst c
    by_cases l : i < σ.length
    · rw [List.getElem?_set_self l] at q
      exact .inl (by cases q; rfl)
    · rw [List.getElem?_eq_none (by rw [List.length_set]; omega)] at q; cases q
  · rw [List.getElem?_set_ne c] at q
    rcases List.mem_cons.mp m with z | z
    · exact (c z.symm).elim
    · exact .inr ⟨j, z, q⟩
/-- a name is given a new list, a new dict that the def is going to change -/
theorem EnvOk.setOw (e : EnvOk K O H0 own ρ σ H) {i : Nat} {p : Addr} {o : HO} {d : D} (h : i ∉ own) (np : H p = none) (r : OwnR K (Cut (AllA O own σ) H) (upd H p o) p d) :
    EnvOk K O H0 (i :: own) (ρ.set i (some d)) (σ.set i (some (.ref p))) (upd H p o) := by
  have sn : Same H (upd H p o) := same_new np
  have mo : Same (Cut (AllA O own σ) H) (Cut (AllA O (i :: own) (σ.set i (some (.ref p)))) (upd H p o)) := fun a x z => by
    obtain ⟨c, q⟩ := cut_some z
    have na : a ≠ p := ne_of_none q np
    rw [cut_out, upd_ne na]
    · exact q
    · rintro (w | w)
      · exact c (.inl w)
      · rcases own_put h w with w | w
        · exact na w
        · exact c (.inr w)
  refine ⟨by rw [List.length_set, List.length_set]; exact e.len, e.base.trans sn, e.dom, fun a z => ?_, fun a z => ?_, fun j k a m m' q q' => ?_, fun j d' m q => ?_, fun j d' m q => ?_⟩
  · rcases own_put h z with w | w
    · subst w; exact e.base.free np
    · exact e.new a w
  · rcases own_put h z with w | w
    · subst w; rw [upd_same]; intro x; cases x
    · intro x
      cases y : H a with
      | none => exact e.live a w y
      | some u => rw [sn a u y] at x; cases x
  · by_cases c : i = j
    · by_cases c' : i = k
      · exact c.symm.trans c'
      · rw [List.getElem?_set_ne c'] at q'
        have m2 : k ∈ own := (List.mem_cons.mp m').resolve_left fun z => c' z.symm
        subst c
        by_cases l : i < σ.length
        · rw [List.getElem?_set_self l] at q
          cases q
          exact (e.live _ ⟨k, m2, q'⟩ np).elim
        · rw [List.getElem?_eq_none (by rw [List.length_set]; omega)] at q; cases q
    · rw [List.getElem?_set_ne c] at q
      have m1 : j ∈ own := (List.mem_cons.mp m).resolve_left fun z => c z.symm
      by_cases c' : i = k
      · subst c'
        by_cases l : i < σ.length
        · rw [List.getElem?_set_self l] at q'
          cases q'
          exact (e.live _ ⟨j, m1, q⟩ np).elim
        · rw [List.getElem?_eq_none (by rw [List.length_set]; omega)] at q'; cases q'
      · rw [List.getElem?_set_ne c'] at q'
        exact e.inj j k a m1 ((List.mem_cons.mp m').resolve_left fun z => c' z.symm) q q'
  · have c : i ≠ j := fun z => m (List.mem_cons.mpr (.inl z.symm))
    rw [List.getElem?_set_ne c] at q ⊢
    obtain ⟨v, a, b⟩ := e.sh j d' (fun z => m (List.mem_cons.mpr (.inr z))) q
    exact ⟨v, a, b.mono mo⟩
  · by_cases c : i = j
    · subst c
      by_cases l : i < ρ.length
      · rw [List.getElem?_set_self l] at q
        cases q
        refine ⟨p, by rw [List.getElem?_set_self (by rw [e.len]; exact l)], ?_⟩
        cases r with
        | lst x y => exact .lst x (y.mono mo)
        | dic x y => exact .dic x (y.mono mo)
      · rw [List.getElem?_eq_none (by rw [List.length_set]; omega)] at q; cases q
    · rw [List.getElem?_set_ne c] at q ⊢
      obtain ⟨a, b, r'⟩ := e.ow j d' ((List.mem_cons.mp m).resolve_left fun z => c z.symm) q
      refine ⟨a, b, ?_⟩
      cases r' with
      | lst x y => exact .lst (sn _ _ x) (y.mono mo)
      | dic x y => exact .dic (sn _ _ x) (y.mono mo)
/-- an own list, an own dict is changed -/
theorem EnvOk.write (e : EnvOk K O H0 own ρ σ H) {i : Nat} {a : Addr} {o : HO} {d : D} (m : i ∈ own) (hi : σ[i]? = some (some (.ref a))) (r : OwnR K (Cut (AllA O own σ) H) (upd H a o) a d) :
    EnvOk K O H0 own (ρ.set i (some d)) σ (upd H a o) := by
  have oa : OwnA own σ a := ⟨i, m, hi⟩
  have ce : Cut (AllA O own σ) (upd H a o) = Cut (AllA O own σ) H := cut_upd_in (.inr oa)
  refine ⟨by rw [List.length_set]; exact e.len, fun b x z => ?_, e.dom, e.new, fun b z => ?_, e.inj, fun j d' m' q => ?_, fun j d' m' q => ?_⟩
  · rw [upd_ne]
    · exact e.base b x z
    · intro w; subst w; rw [e.new _ oa] at z; cases z
  · by_cases w : b = a
    · subst w; rw [upd_same]; intro x; cases x
    · rw [upd_ne w]; exact e.live b z
  · rw [ce]
    have c : i ≠ j := fun z => m' (z ▸ m)
    rw [List.getElem?_set_ne c] at q
    exact e.sh j d' m' q
  · rw [ce]
    by_cases c : i = j
    · subst c
      by_cases l : i < ρ.length
      · rw [List.getElem?_set_self l] at q
        cases q
        exact ⟨a, hi, r⟩
      · rw [List.getElem?_eq_none (by rw [List.length_set]; omega)] at q; cases q
    · rw [List.getElem?_set_ne c] at q
      obtain ⟨b, hb, r'⟩ := e.ow j d' m' q
      have ne : b ≠ a := fun z => c (e.inj i j a m m' hi (z ▸ hb))
      refine ⟨b, hb, ?_⟩
      cases r' with
      | lst x y => exact .lst (by rw [upd_ne ne]; exact x) y
      | dic x y => exact .dic (by rw [upd_ne ne]; exact x) y
end
end DL
end

section
set_option Elab.async false
set_option linter.all false
set_option maxRecDepth 100000
set_option maxHeartbeats 2000000
set_option autoImplicit false
/-! DL2: the rules for expressions. -/
namespace DL
open PySem PySem.Spec PyProof.Rows L2

/-! ### what is wanted of a result -/
def ResW {α : Type} (mg : Str → Option Value) (E : XK) (H : Hp) (P : α → Prop) : Res α → Prop
  | .ok a => P a
  | .exc c => ∃ C, mg c = some (.ref C) ∧ ∀ H', Same H H' → E (.ref C) none H'
  | .bad => False
section
variable {α β : Type} {mg : Str → Option Value} {E : XK} {H H1 : Hp}
theorem resW_bind {P : β → Prop} {x : Res α} {g : α → Res β} : ResW mg E H P (x.bind g) = ResW mg E H (fun a => ResW mg E H P (g a)) x := by cases x <;> rfl
theorem ResW.mono {P P' : α → Prop} {x : Res α} (h : ResW mg E H P x) (s : Same H H1) (hp : ∀ a, P a → P' a) : ResW mg E H1 P' x := by
  cases x with
  | ok a => exact hp a h
  | exc c => obtain ⟨C, a, b⟩ := h; exact ⟨C, a, fun H' s' => b H' (s.trans s')⟩
  | bad => exact h
end
/-- of an operation that raises nothing: none, where the layer does not serve it -/
def OkW {α : Type} (P : α → Prop) : Option α → Prop
  | some a => P a
  | none => False
def ofO {α : Type} : Option α → Res α
  | some a => .ok a
  | none => .bad
@[simp] theorem ofO_some {α : Type} (a : α) : ofO (some a) = .ok a := rfl
@[simp] theorem ofO_none {α : Type} : ofO (none : Option α) = .bad := rfl
theorem okW_of {α : Type} {mg : Str → Option Value} {E : XK} {H : Hp} {P : α → Prop} {x : Option α} (h : ResW mg E H P (ofO x)) : OkW P x := by cases x <;> exact h
theorem OkW.mono {α : Type} {P P' : α → Prop} {x : Option α} (h : OkW P x) (hp : ∀ a, P a → P' a) : OkW P' x := by
  cases x with
  | some a => exact hp a h
  | none => exact h

abbrev Ex := Rho → Res D
abbrev Tx := Rho → Res Bool
abbrev Ax := Rho → Res (List D)

def TEok (K : PySem.W.Frag) (mg : Str → Option Value) (E : XK) (own : List Nat) (t : TE) (f : Ex) : Prop :=
  ∀ (O : Addr → Prop) (H0 : Hp) (ρ : Rho) (σ : L2.St) (H : Hp) (Q : VK), EnvOk K O H0 own ρ σ H → ResW mg E H (fun d => ∀ v H', Same H H' → R K (Cut (AllA O own σ) H') v d → Q v H') (f ρ) → t σ H Q
def TTok (K : PySem.W.Frag) (mg : Str → Option Value) (E : XK) (own : List Nat) (t : TT) (f : Tx) : Prop :=
  ∀ (O : Addr → Prop) (H0 : Hp) (ρ : Rho) (σ : L2.St) (H : Hp) (Q : Bool → Hp → Prop), EnvOk K O H0 own ρ σ H → ResW mg E H (fun b => ∀ H', Same H H' → Q b H') (f ρ) → t σ H Q
def TAok (K : PySem.W.Frag) (mg : Str → Option Value) (E : XK) (own : List Nat) (t : TA) (f : Ax) : Prop :=
  ∀ (O : Addr → Prop) (H0 : Hp) (ρ : Rho) (σ : L2.St) (H : Hp) (Q : List V → Hp → Prop), EnvOk K O H0 own ρ σ H → ResW mg E H (fun ds => ∀ vs H', Same H H' → RAll K (Cut (AllA O own σ) H') vs ds → Q vs H') (f ρ) → t σ H Q

structure DE (X : Cx) (K : PySem.W.Frag) (mg : Str → Option Value) (E : XK) (own : List Nat) (e : Expr) (t : TE) (f : Ex) : Prop where
  pe : PE X e t
  ok : TEok K mg E own t f
structure DT (X : Cx) (K : PySem.W.Frag) (mg : Str → Option Value) (E : XK) (own : List Nat) (e : Expr) (t : TT) (f : Tx) : Prop where
  pt : PT X e t
  ok : TTok K mg E own t f
structure DW (X : Cx) (K : PySem.W.Frag) (mg : Str → Option Value) (E : XK) (own : List Nat) (e : Expr) (t : TT) (f : Tx) : Prop where
  pw : PW X e t
  ok : TTok K mg E own t f
structure DA (X : Cx) (K : PySem.W.Frag) (mg : Str → Option Value) (E : XK) (own : List Nat) (es : List Expr) (t : TA) (f : Ax) : Prop where
  pa : PA X es t
  ok : TAok K mg E own t f

/-! ### what is read of a container: one that stands, or an own one -/
inductive CRep (K : PySem.W.Frag) (C H : Hp) : V → D → Prop
  | sh {v : V} {d : D} : R K C v d → CRep K C H v d
  | ow {a : Addr} {d : D} : OwnR K C H a d → CRep K C H (.ref a) d
section
variable {K : PySem.W.Frag} {C H : Hp} {v : V}
theorem CRep.list_of {ds : List D} (h : CRep K C H v (.list ds)) (s : Same C H) : ∃ a xs, v = .ref a ∧ H a = some (.lst xs) ∧ RAll K C xs ds := by
  cases h with
  | sh r => obtain ⟨a, xs, e, q, z⟩ := r.list_of; exact ⟨a, xs, e, s _ _ q, z⟩
  | ow r => cases r with | lst q z => exact ⟨_, _, rfl, q, z⟩
theorem CRep.tuple_of {ds : List D} (h : CRep K C H v (.tuple ds)) (s : Same C H) : ∃ a xs, v = .ref a ∧ SqT K H a xs ∧ RAll K C xs ds := by
  cases h with
  | sh r => obtain ⟨a, xs, e, q, z⟩ := r.tuple_of; exact ⟨a, xs, e, sqT_same s q, z⟩
  | ow r => cases r
theorem CRep.str_of {x : Str} (h : CRep K C H v (.str x)) : v = .str x := by
  cases h with
  | sh r => exact r.str_of
  | ow r => cases r
/-- a dict, not the script -/
def isDic (kvs : List (D × D)) : Bool := match kvs with
  | (.none, _) :: _ => false
  | _ => true
theorem CRep.dict_of {ds : List (D × D)} (h : CRep K C H v (.dict ds)) (s : Same C H) (hd : isDic ds = true) : ∃ a kvs, v = .ref a ∧ Rd H a (.dK kvs) ∧ RKV K C kvs ds := by
  cases h with
  | sh r => cases r with
    | dic q z => exact ⟨_, _, rfl, .inl (s _ _ q), z⟩
    | fdic q z => exact ⟨_, _, rfl, .inr ⟨_, s _ _ q⟩, z⟩
    | scr q => simp [isDic] at hd
  | ow r => cases r with | dic q z => exact ⟨_, _, rfl, .inl q, z⟩
theorem rd_same {H H' : Hp} {a : Addr} {u : HO} (h : Rd H a u) (s : Same H H') : Rd H' a u := h.imp (s _ _) fun ⟨o, q⟩ => ⟨o, s _ _ q⟩
end
def TCok (K : PySem.W.Frag) (mg : Str → Option Value) (E : XK) (own : List Nat) (t : TE) (f : Ex) : Prop :=
  ∀ (O : Addr → Prop) (H0 : Hp) (ρ : Rho) (σ : L2.St) (H : Hp) (Q : VK), EnvOk K O H0 own ρ σ H → ResW mg E H (fun d => ∀ v H', Same H H' → CRep K (Cut (AllA O own σ) H') H' v d → Q v H') (f ρ) → t σ H Q
structure DC (X : Cx) (K : PySem.W.Frag) (mg : Str → Option Value) (E : XK) (own : List Nat) (e : Expr) (t : TE) (f : Ex) : Prop where
  pe : PE X e t
  ok : TCok K mg E own t f

/-! ### names -/
def rd (i : Nat) : Ex := fun ρ => match ρ[i]? with
  | some (some d) => .ok d
  | _ => .bad
section
variable {X : Cx} {K : PySem.W.Frag} {mg : Str → Option Value} {E : XK} {own : List Nat}
theorem rd_ok {ρ : Rho} {i : Nat} {mg : Str → Option Value} {H : Hp} {P : D → Prop} (h : ResW mg E H P (rd i ρ)) : ∃ d, ρ[i]? = some (some d) ∧ P d := by
  unfold rd at h
  cases q : ρ[i]? with
  | none => rw [q] at h; exact h.elim
  | some o => cases o with
    | none => rw [q] at h; exact h.elim
    | some d => rw [q] at h; exact ⟨d, rfl, h⟩
theorem de_var (i : Nat) {x : Str} {pos : Pos} (hi : i ∉ own := by decide) (hN : X.N[i]? = some x := by rfl) (hv : Vis X.env.scope x := by first | exact Or.inl rfl | exact Or.inr (Or.inl rfl) | exact Or.inr (Or.inr rfl)) (hd : (x == ("__debug__" : Str)) = false := by decide)
    (hcd : (x == ("__classdict__" : Str)) = false := by decide) : DE X K mg E own (.Name x pos) (tVar i) (rd i) :=
  ⟨pe_var hN hv hd hcd, fun O H0 ρ σ H Q e w => by
    obtain ⟨d, q, w⟩ := rd_ok w
    obtain ⟨v, a, b⟩ := e.sh i d hi q
    exact ⟨v, a, w v H (Same.refl H) b⟩⟩
theorem dc_own (i : Nat) {x : Str} {pos : Pos} (hi : i ∈ own := by decide) (hN : X.N[i]? = some x := by rfl) (hv : Vis X.env.scope x := by first | exact Or.inl rfl | exact Or.inr (Or.inl rfl) | exact Or.inr (Or.inr rfl)) (hd : (x == ("__debug__" : Str)) = false := by decide)
    (hcd : (x == ("__classdict__" : Str)) = false := by decide) : DC X K mg E own (.Name x pos) (tVar i) (rd i) :=
  ⟨pe_var hN hv hd hcd, fun O H0 ρ σ H Q e w => by
    obtain ⟨d, q, w⟩ := rd_ok w
    obtain ⟨a, b, c⟩ := e.ow i d hi q
    exact ⟨.ref a, b, w _ H (Same.refl H) (.ow c)⟩⟩
theorem dc_of {e : Expr} {t : TE} {f : Ex} (h : DE X K mg E own e t f) : DC X K mg E own e t f :=
  ⟨h.pe, fun O H0 ρ σ H Q en w => h.ok O H0 ρ σ H Q en (w.mono (Same.refl H) fun d k v H' s r => k v H' s (.sh r))⟩

/-! ### constants -/
def kc (d : D) : Ex := fun _ => .ok d
theorem te_c {v : V} {d : D} {K : PySem.W.Frag} {mg : Str → Option Value} (r : ∀ H, R K H v d) : TEok K mg E own (tC v) (kc d) := fun O H0 ρ σ H Q e w => w v H (Same.refl H) (r _)
theorem de_int {i : Int} {j pos} : DE X K mg E own (.Constant (.int i) j pos) (tC (.int i)) (kc (.int i)) := ⟨pe_int, te_c fun _ => .int i⟩
theorem de_bl {b : Bool} {j pos} : DE X K mg E own (.Constant (.bool b) j pos) (tC (.bl b)) (kc (.bool b)) := ⟨pe_bl, te_c fun _ => .bl b⟩
theorem de_non {j pos} : DE X K mg E own (.Constant .none j pos) (tC .non) (kc .none) := ⟨pe_non, te_c fun _ => .non⟩
theorem de_str {x : Str} {j pos} : DE X K mg E own (.Constant (.str x) j pos) (tC (.str x)) (kc (.str x)) := ⟨pe_str, te_c fun _ => .str x⟩
/-- a constant of the module: an int; a tuple -/
theorem de_glob {x : Str} {v : V} {u : Value} {d : D} {pos : Pos} (hg : Gl X x) (hm : X.mg x = some u) (r : RelV v u) (hr : ∀ H, R X.K H v d) (hd : (x == ("__debug__" : Str)) = false := by decide) (hK : X.K = K := by rfl) : DE X K mg E own (.Name x pos) (tC v) (kc d) := by
  subst hK
  exact ⟨pe_glob hg hm r hd, te_c hr⟩

/-! ### one, two, many in a row -/
def bin (fa fb : Ex) (op : D → D → Option D) : Ex := fun ρ => (fa ρ).bind fun a => (fb ρ).bind fun b => ofO (op a b)
def OpD (K : PySem.W.Frag) (r : R2) (op : D → D → Option D) : Prop :=
  ∀ (A : Addr → Prop) (H : Hp) (x y : V) (a b : D) (Q : VK), Dom A H → R K (Cut A H) x a → R K (Cut A H) y b → OkW (fun d => ∀ v H', Same H H' → R K (Cut A H') v d → Q v H') (op a b) → r x y H Q
/-- the left, the right one a container -/
def OpCL (K : PySem.W.Frag) (r : R2) (op : D → D → Option D) : Prop :=
  ∀ (A : Addr → Prop) (H : Hp) (x y : V) (a b : D) (Q : VK), Dom A H → CRep K (Cut A H) H x a → R K (Cut A H) y b → OkW (fun d => ∀ v H', Same H H' → R K (Cut A H') v d → Q v H') (op a b) → r x y H Q
def OpCR (K : PySem.W.Frag) (r : R2) (op : D → D → Option D) : Prop :=
  ∀ (A : Addr → Prop) (H : Hp) (x y : V) (a b : D) (Q : VK), Dom A H → R K (Cut A H) x a → CRep K (Cut A H) H y b → OkW (fun d => ∀ v H', Same H H' → R K (Cut A H') v d → Q v H') (op a b) → r x y H Q
theorem crep_same {K : PySem.W.Frag} {A : Addr → Prop} {H H' : Hp} {v : V} {d : D} (r : CRep K (Cut A H) H v d) (s : Same H H') : CRep K (Cut A H') H' v d := by
  cases r with
  | sh r => exact .sh (r.mono (cut_same s))
  | ow r => cases r with
    | lst q z => exact .ow (.lst (s _ _ q) (z.mono (cut_same s)))
    | dic q z => exact .ow (.dic (s _ _ q) (z.mono (cut_same s)))
section
variable {K : PySem.W.Frag} {mg : Str → Option Value} {ta tb : TE} {fa fb : Ex} {op : D → D → Option D} {r : R2}
theorem te_op (hr : OpD K r op) (ha : TEok K mg E own ta fa) (hb : TEok K mg E own tb fb) : TEok K mg E own (tOp r ta tb) (bin fa fb op) := fun O H0 ρ σ H Q e w => by
  unfold bin at w
  rw [resW_bind] at w
  refine ha O H0 ρ σ H _ e (w.mono (Same.refl H) fun a wa v1 H1 s1 r1 => ?_)
  rw [resW_bind] at wa
  refine hb O H0 ρ σ H1 _ (e.mono s1) (wa.mono s1 fun b wb v2 H2 s2 r2 => ?_)
  exact hr _ H2 v1 v2 a b Q (e.domA.same (s1.trans s2)) (r1.mono (cut_same s2)) r2 ((okW_of wb).mono fun d k v H' s r => k v H' ((s1.trans s2).trans s) r)
theorem te_opL (hr : OpCL K r op) (ha : TCok K mg E own ta fa) (hb : TEok K mg E own tb fb) : TEok K mg E own (tOp r ta tb) (bin fa fb op) := fun O H0 ρ σ H Q e w => by
  unfold bin at w
  rw [resW_bind] at w
  refine ha O H0 ρ σ H _ e (w.mono (Same.refl H) fun a wa v1 H1 s1 r1 => ?_)
  rw [resW_bind] at wa
  refine hb O H0 ρ σ H1 _ (e.mono s1) (wa.mono s1 fun b wb v2 H2 s2 r2 => ?_)
  exact hr _ H2 v1 v2 a b Q (e.domA.same (s1.trans s2)) (crep_same r1 s2) r2 ((okW_of wb).mono fun d k v H' s r => k v H' ((s1.trans s2).trans s) r)
theorem te_opR (hr : OpCR K r op) (ha : TEok K mg E own ta fa) (hb : TCok K mg E own tb fb) : TEok K mg E own (tOp r ta tb) (bin fa fb op) := fun O H0 ρ σ H Q e w => by
  unfold bin at w
  rw [resW_bind] at w
  refine ha O H0 ρ σ H _ e (w.mono (Same.refl H) fun a wa v1 H1 s1 r1 => ?_)
  rw [resW_bind] at wa
  refine hb O H0 ρ σ H1 _ (e.mono s1) (wa.mono s1 fun b wb v2 H2 s2 r2 => ?_)
  exact hr _ H2 v1 v2 a b Q (e.domA.same (s1.trans s2)) (r1.mono (cut_same s2)) r2 ((okW_of wb).mono fun d k v H' s r => k v H' ((s1.trans s2).trans s) r)
end
def aNil : Ax := fun _ => .ok []
def aCons (fa : Ex) (fr : Ax) : Ax := fun ρ => (fa ρ).bind fun a => (fr ρ).bind fun r => .ok (a :: r)
theorem da_nil : DA X K mg E own [] tNil aNil := ⟨pa_nil, fun O H0 ρ σ H Q e w => w [] H (Same.refl H) .nil⟩
theorem da_cons {e : Expr} {es : List Expr} {te : TE} {t : TA} {f : Ex} {g : Ax} (ha : DE X K mg E own e te f) (hr : DA X K mg E own es t g) (hs : starEach (e :: es) X.env = (false, eval e X.env) :: starEach es X.env := by rfl) : DA X K mg E own (e :: es) (tCons te t) (aCons f g) :=
  ⟨pa_cons ha.pe hr.pa hs, fun O H0 ρ σ H Q en w => by
    unfold aCons at w
    rw [resW_bind] at w
    refine ha.ok O H0 ρ σ H _ en (w.mono (Same.refl H) fun a wa v1 H1 s1 r1 => ?_)
    rw [resW_bind] at wa
    refine hr.ok O H0 ρ σ H1 _ (en.mono s1) (wa.mono s1 fun b wb vs H2 s2 r2 => ?_)
    exact wb (v1 :: vs) H2 (s1.trans s2) (.cons (r1.mono (cut_same s2)) r2)⟩

/-! ### displays -/
def mkTup (g : Ax) : Ex := fun ρ => (g ρ).bind fun ds => if ds.length ≤ sizeLine then .ok (.tuple ds) else .bad
def mkLst (g : Ax) : Ex := fun ρ => (g ρ).bind fun ds => if ds.length ≤ sizeLine then .ok (.list ds) else .bad
theorem de_tup {es : List Expr} {t : TA} {g : Ax} {x1 pos} (h : DA X K mg E own es t g) : DE X K mg E own (.Tuple es x1 pos) (tTup t) (mkTup g) :=
  ⟨pe_tup h.pa, fun O H0 ρ σ H Q en w => by
    unfold mkTup at w
    rw [resW_bind] at w
    refine h.ok O H0 ρ σ H _ en (w.mono (Same.refl H) fun ds wd vs H1 s1 r1 => ?_)
    by_cases c : ds.length ≤ sizeLine
    · rw [if_pos c] at wd
      refine ⟨by rw [r1.length]; exact c, fun p np => wd _ _ (s1.trans (same_new np)) (.tup (.inl (.inl (cut_new ?_))) (r1.mono (cut_same (same_new np))))⟩
      exact (en.domA.same s1).new np
    · rw [if_neg c] at wd; exact wd.elim⟩
theorem te_lst {K : PySem.W.Frag} {mg : Str → Option Value} {t : TA} {g : Ax} (h : TAok K mg E own t g) : TEok K mg E own (tLst t) (mkLst g) := fun O H0 ρ σ H Q en w => by
    unfold mkLst at w
    rw [resW_bind] at w
    refine h O H0 ρ σ H _ en (w.mono (Same.refl H) fun ds wd vs H1 s1 r1 => ?_)
    by_cases c : ds.length ≤ sizeLine
    · rw [if_pos c] at wd
      refine ⟨by rw [r1.length]; exact c, fun p np => wd _ _ (s1.trans (same_new np)) (.lst (cut_new ?_) (r1.mono (cut_same (same_new np))))⟩
      exact (en.domA.same s1).new np
    · rw [if_neg c] at wd; exact wd.elim
theorem de_lst {es : List Expr} {t : TA} {g : Ax} {pos} (h : DA X K mg E own es t g) : DE X K mg E own (.List es pos) (tLst t) (mkLst g) := ⟨pe_lst h.pa, te_lst h.ok⟩

/-! ### operators -/
variable {a b c : Expr} {ta tb : TE} {fa fb : Ex} {op : D → D → Option D} {r : R2} {pos : Pos}
theorem de_op {o : Operator} (ho : OpR X (binaryOp o) r) (hr : OpD K r op) (ha : DE X K mg E own a ta fa) (hb : DE X K mg E own b tb fb) : DE X K mg E own (.BinOp a o b pos) (tOp r ta tb) (bin fa fb op) :=
  ⟨pe_op ho ha.pe hb.pe, te_op hr ha.ok hb.ok⟩
theorem de_cmp {o : CmpOp} (ho : OpR X (compareOp o) r) (hr : OpD K r op) (ha : DE X K mg E own a ta fa) (hb : DE X K mg E own b tb fb) (hm : behindInMarks o b = false) : DE X K mg E own (.Compare a [o] [b] pos) (tOp r ta tb) (bin fa fb op) :=
  ⟨pe_cmpR ho ha.pe hb.pe hm, te_op hr ha.ok hb.ok⟩
theorem de_cmpC {o : CmpOp} (ho : OpR X (compareOp o) r) (hr : OpCR K r op) (ha : DE X K mg E own a ta fa) (hb : DC X K mg E own b tb fb) (hm : behindInMarks o b = false) : DE X K mg E own (.Compare a [o] [b] pos) (tOp r ta tb) (bin fa fb op) :=
  ⟨pe_cmpR ho ha.pe hb.pe hm, te_opR hr ha.ok hb.ok⟩
theorem de_ixC (ho : IxR X r) (hr : OpCL K r op) (ha : DC X K mg E own a ta fa) (hb : DE X K mg E own b tb fb) (hs : PlainIx b) : DE X K mg E own (.Subscript a b pos) (tOp r ta tb) (bin fa fb op) :=
  ⟨pe_ix ho ha.pe hb.pe hs, te_opL hr ha.ok hb.ok⟩

/-! ### tests -/
def asB (f : Ex) : Tx := fun ρ => (f ρ).bind fun d => match d with
  | .bool b => .ok b
  | _ => .bad
theorem dt_val {e : Expr} {t : TE} {f : Ex} (h : DE X K mg E own e t f) (he : ∀ whole, isTrue e X.env whole = (do let v ← whole; standAt e.pos; holding [v] (truthy v)) := by intro _; rfl) : DT X K mg E own e (tB t) (asB f) :=
  ⟨pt_val h.pe he, fun O H0 ρ σ H Q en w => by
    unfold asB at w
    rw [resW_bind] at w
    refine h.ok O H0 ρ σ H _ en (w.mono (Same.refl H) fun d wd v H1 s1 r1 => ?_)
    cases d <;> first | exact wd.elim | skip
    rw [r1.bool_of]
    exact ⟨_, rfl, wd H1 s1⟩⟩
def andT (f g : Tx) : Tx := fun ρ => (f ρ).bind fun b => if b = true then g ρ else .ok false
def orT (f g : Tx) : Tx := fun ρ => (f ρ).bind fun b => if b = true then .ok true else g ρ
def notT (f : Tx) : Tx := fun ρ => (f ρ).bind fun b => .ok (!b)
variable {rest : List Expr} {tt tu : TT} {f g : Tx}
theorem dw_and1 (ha : DT X K mg E own a tt f) : DW X K mg E own (.BoolOp .And [a] pos) tt f := ⟨pw_and1 ha.pt, ha.ok⟩
theorem dw_or1 (ha : DT X K mg E own a tt f) : DW X K mg E own (.BoolOp .Or [a] pos) tt f := ⟨pw_or1 ha.pt, ha.ok⟩
theorem dw_and (ha : DT X K mg E own a tt f) (hb : DW X K mg E own (.BoolOp .And (b :: rest) pos) tu g) : DW X K mg E own (.BoolOp .And (a :: b :: rest) pos) (tAnd tt tu) (andT f g) :=
  ⟨pw_and ha.pt hb.pw, fun O H0 ρ σ H Q en w => by
    unfold andT at w
    rw [resW_bind] at w
    refine ha.ok O H0 ρ σ H _ en (w.mono (Same.refl H) fun k wk H1 s1 => ?_)
    cases k with
    | true => exact iteT (hb.ok O H0 ρ σ H1 _ (en.mono s1) ((show ResW _ _ _ _ (g ρ) from wk).mono s1 fun k h H' s => h H' (s1.trans s)))
    | false => exact iteF (show _ from wk H1 s1)⟩
theorem dw_or (ha : DT X K mg E own a tt f) (hb : DW X K mg E own (.BoolOp .Or (b :: rest) pos) tu g) : DW X K mg E own (.BoolOp .Or (a :: b :: rest) pos) (tOr tt tu) (orT f g) :=
  ⟨pw_or ha.pt hb.pw, fun O H0 ρ σ H Q en w => by
    unfold orT at w
    rw [resW_bind] at w
    refine ha.ok O H0 ρ σ H _ en (w.mono (Same.refl H) fun k wk H1 s1 => ?_)
    cases k with
    | false => exact iteF (hb.ok O H0 ρ σ H1 _ (en.mono s1) ((show ResW _ _ _ _ (g ρ) from wk).mono s1 fun k h H' s => h H' (s1.trans s)))
    | true => exact iteT (show _ from wk H1 s1)⟩
theorem dt_w {e : Expr} (h : DW X K mg E own e tt f) : DT X K mg E own e tt f := ⟨h.pw.pt, h.ok⟩
theorem dt_not (ha : DT X K mg E own a tt f) : DT X K mg E own (.UnaryOp .Not a pos) (tNot tt) (notT f) :=
  ⟨pt_not ha.pt, fun O H0 ρ σ H Q en w => by
    unfold notT at w
    rw [resW_bind] at w
    exact ha.ok O H0 ρ σ H _ en (w.mono (Same.refl H) fun k wk H1 s1 => wk H1 s1)⟩
/-- .. as values -/
def andV (fa fb : Ex) : Ex := fun ρ => (fa ρ).bind fun d => match d with
  | .bool true => fb ρ
  | .bool false => .ok (.bool false)
  | _ => .bad
def orV (fa fb : Ex) : Ex := fun ρ => (fa ρ).bind fun d => match d with
  | .bool true => .ok (.bool true)
  | .bool false => fb ρ
  | _ => .bad
def notV (fa : Ex) : Ex := fun ρ => (fa ρ).bind fun d => match d with
  | .bool b => .ok (.bool (!b))
  | _ => .bad
theorem de_one {o : BoolOp} (h : DE X K mg E own a ta fa) : DE X K mg E own (.BoolOp o [a] pos) ta fa := ⟨pe_one h.pe, h.ok⟩
theorem de_and (ha : DE X K mg E own a ta fa) (hb : DE X K mg E own (.BoolOp .And (b :: rest) pos) tb fb) : DE X K mg E own (.BoolOp .And (a :: b :: rest) pos) (tAndV ta tb) (andV fa fb) :=
  ⟨pe_and ha.pe hb.pe, fun O H0 ρ σ H Q en w => by
    unfold andV at w
    rw [resW_bind] at w
    refine ha.ok O H0 ρ σ H _ en (w.mono (Same.refl H) fun d wd v H1 s1 r1 => ?_)
    cases d <;> first | exact wd.elim | skip
    rename_i k
    rw [r1.bool_of]
    refine ⟨k, rfl, ?_⟩
    cases k with
    | true => exact iteT (hb.ok O H0 ρ σ H1 _ (en.mono s1) (ResW.mono wd s1 fun k h v H' s => h v H' (s1.trans s)))
    | false => exact iteF (wd _ H1 s1 (.bl false))⟩
theorem de_or (ha : DE X K mg E own a ta fa) (hb : DE X K mg E own (.BoolOp .Or (b :: rest) pos) tb fb) : DE X K mg E own (.BoolOp .Or (a :: b :: rest) pos) (tOrV ta tb) (orV fa fb) :=
  ⟨pe_or ha.pe hb.pe, fun O H0 ρ σ H Q en w => by
    unfold orV at w
    rw [resW_bind] at w
    refine ha.ok O H0 ρ σ H _ en (w.mono (Same.refl H) fun d wd v H1 s1 r1 => ?_)
    cases d <;> first | exact wd.elim | skip
    rename_i k
    rw [r1.bool_of]
    refine ⟨k, rfl, ?_⟩
    cases k with
    | false => exact iteF (hb.ok O H0 ρ σ H1 _ (en.mono s1) (ResW.mono wd s1 fun k h v H' s => h v H' (s1.trans s)))
    | true => exact iteT (wd _ H1 s1 (.bl true))⟩
theorem de_not (ha : DE X K mg E own a ta fa) : DE X K mg E own (.UnaryOp .Not a pos) (tNotV ta) (notV fa) :=
  ⟨pe_not ha.pe, fun O H0 ρ σ H Q en w => by
    unfold notV at w
    rw [resW_bind] at w
    refine ha.ok O H0 ρ σ H _ en (w.mono (Same.refl H) fun d wd v H1 s1 r1 => ?_)
    cases d <;> first | exact wd.elim | skip
    rename_i k
    rw [r1.bool_of]
    exact ⟨k, rfl, wd _ H1 s1 (.bl _)⟩⟩
end
end DL
end

section
set_option Elab.async false
set_option linter.all false
set_option maxRecDepth 100000
set_option maxHeartbeats 2000000
set_option autoImplicit false
/-! DL3: the operations on data. -/
namespace DL
open PySem PySem.Spec PyProof.Rows L2

theorem OkW.of_some {α : Type} {P : α → Prop} {x : Option α} (h : OkW P x) : ∃ a, x = some a ∧ P a := by
  cases x with
  | some a => exact ⟨a, rfl, h⟩
  | none => exact h.elim
theorem okW_if {α : Type} {P : α → Prop} {c : Prop} [Decidable c] {a : α} (h : OkW P (if c then some a else none)) : c ∧ P a := by
  by_cases k : c
  · rw [if_pos k] at h; exact ⟨k, h⟩
  · rw [if_neg k] at h; exact h.elim

/-! ### numbers, texts, + -/
def dAdd : D → D → Option D
  | .int i, .int j => some (.int (i + j))
  | .str x, .str y => if x.length + y.length ≤ sizeLine then some (.str (x ++ y)) else none
  | .list xs, .list ys => if xs.length + ys.length ≤ sizeLine then some (.list (xs ++ ys)) else none
  | .tuple xs, .tuple ys => if xs.length + ys.length ≤ sizeLine then some (.tuple (xs ++ ys)) else none
  | _, _ => none
def rAddD (K : PySem.W.Frag) : R2 := fun x y H Q => (rI0 fun i j => V.int (i + j)) x y H Q ∨ (∃ i j, x = .str i ∧ y = .str j ∧ i.length + j.length ≤ sizeLine ∧ Q (.str (i ++ j)) H) ∨ rCat x y H Q ∨ rCatA K x y H Q
theorem op_addD {X : Cx} : OpR X (binaryOp .Add) (rAddD X.K) := op_add.or (op_add_str.or (op_cat.or op_catA))
theorem od_add {K : PySem.W.Frag} : OpD K (rAddD K) dAdd := by
  intro A H x y a b Q dom ra rb w
  unfold dAdd at w
  split at w
  · rw [ra.int_of, rb.int_of]
    exact .inl ⟨_, _, rfl, rfl, w _ H (Same.refl H) (.int _)⟩
  · obtain ⟨c, w⟩ := okW_if w
    rw [ra.str_of, rb.str_of]
    exact .inr (.inl ⟨_, _, rfl, rfl, c, w _ H (Same.refl H) (.str _)⟩)
  · obtain ⟨c, w⟩ := okW_if w
    obtain ⟨l, xs, rfl, h1, r1⟩ := ra.list_of
    obtain ⟨l2, ys, rfl, h2, r2⟩ := rb.list_of
    refine .inr (.inr (.inl ⟨l, l2, xs, ys, rfl, rfl, cut_sub _ _ h1, cut_sub _ _ h2, by rw [r1.length, r2.length]; exact c, fun p np => ?_⟩))
    exact w _ _ (same_new np) (.lst (cut_new (dom.new np)) ((r1.append r2).mono (cut_same (same_new np))))
  · obtain ⟨c, w⟩ := okW_if w
    obtain ⟨l, xs, rfl, h1, r1⟩ := ra.tuple_of
    obtain ⟨l2, ys, rfl, h2, r2⟩ := rb.tuple_of
    refine .inr (.inr (.inr ⟨l, l2, xs, ys, rfl, rfl, sqT_same cut_sub h1, sqT_same cut_sub h2, by rw [r1.length, r2.length]; exact c, fun e => ?_, fun _ e => ?_, fun _ _ p np => ?_⟩))
    · subst e
      cases r1
      exact w _ H (Same.refl H) (.tup h2 r2)
    · subst e
      cases r2
      exact w _ H (Same.refl H) (.tup h1 (by rw [List.append_nil]; exact r1))
    · exact w _ _ (same_new np) (.tup (.inl (.inl (cut_new (dom.new np)))) ((r1.append r2).mono (cut_same (same_new np))))
  · exact w.elim
def dSub : D → D → Option D
  | .int i, .int j => some (.int (i - j))
  | _, _ => none
theorem od_sub {K : PySem.W.Frag} : OpD K (rI0 fun i j => .int (i - j)) dSub := by
  intro A H x y a b Q dom ra rb w
  unfold dSub at w
  split at w
  · rw [ra.int_of, rb.int_of]
    exact ⟨_, _, rfl, rfl, w _ H (Same.refl H) (.int _)⟩
  · exact w.elim
/-- the model's own bound on a product -/
def mulOk (i j : Int) : Bool := !(decide (Builtin.Int.intBits i > shortFactorBits) && decide (Builtin.Int.intBits j > shortFactorBits) && Builtin.Int.intTooBig (Builtin.Int.intBits i + Builtin.Int.intBits j))
theorem mulOk_iff {i j : Int} : mulOk i j = true ↔ IntMulOk i j := by
  unfold mulOk IntMulOk
  rw [Bool.not_eq_true', Bool.not_eq_true]
def dMul : D → D → Option D
  | .int i, .int j => if mulOk i j = true then some (.int (i * j)) else none
  | .tuple xs, .int k => if xs ≠ [] ∧ 2 ≤ k ∧ k ≤ 1000 ∧ xs.length ≤ 1000 then some (.tuple (List.replicate k.toNat xs).flatten) else none
  | .list xs, .int k => if 0 ≤ k ∧ k ≤ 1000 ∧ xs.length ≤ 1000 then some (.list (List.replicate k.toNat xs).flatten) else none
  | _, _ => none
def rMulD (K : PySem.W.Frag) : R2 := fun x y H Q => (rI IntMulOk fun i j => V.int (i * j)) x y H Q ∨ rRepT K x y H Q ∨ rRep x y H Q
theorem op_mulA {X : Cx} : OpR X (binaryOp .Mult) (rI IntMulOk fun i j => .int (i * j)) := opI fun _ _ _ _ _ _ _ hc q => mul_int q hc
theorem op_mulD {X : Cx} : OpR X (binaryOp .Mult) (rMulD X.K) := op_mulA.or (op_repT.or op_rep)
theorem RAll.rep {K : PySem.W.Frag} {H : Hp} {vs : List V} {ds : List D} (h : RAll K H vs ds) : ∀ n : Nat, RAll K H (List.replicate n vs).flatten (List.replicate n ds).flatten
  | 0 => .nil
  | n + 1 => by
    rw [List.replicate_succ, List.replicate_succ, List.flatten_cons, List.flatten_cons]
    exact h.append (RAll.rep h n)
theorem line_le {n : Nat} (h : n ≤ 16000000) : n ≤ sizeLine := by rw [sizeLine_eq]; omega
theorem od_mul {K : PySem.W.Frag} : OpD K (rMulD K) dMul := by
  intro A H x y a b Q dom ra rb w
  unfold dMul at w
  split at w
  · obtain ⟨c, w⟩ := okW_if w
    rw [ra.int_of, rb.int_of]
    exact .inl ⟨_, _, rfl, rfl, mulOk_iff.mp c, w _ H (Same.refl H) (.int _)⟩
  · obtain ⟨⟨c0, c1, c2, c3⟩, w⟩ := okW_if w
    obtain ⟨l, xs, rfl, h1, r1⟩ := ra.tuple_of
    rw [rb.int_of]
    refine .inr (.inl ⟨l, _, xs, rfl, rfl, sqT_same cut_sub h1, fun e => c0 ?_, c1, c2, by rw [r1.length]; exact c3, fun p np => ?_⟩)
    · subst e; cases r1; rfl
    · exact w _ _ (same_new np) (.tup (.inl (.inl (cut_new (dom.new np)))) ((r1.rep _).mono (cut_same (same_new np))))
  · obtain ⟨⟨c1, c2, c3⟩, w⟩ := okW_if w
    obtain ⟨l, xs, rfl, h1, r1⟩ := ra.list_of
    rw [rb.int_of]
    rename_i ys k _
    refine .inr (.inr ⟨l, _, xs, rfl, rfl, cut_sub _ _ h1, by omega, by omega, ?_, fun p np => ?_⟩)
    · rw [r1.length]
      refine line_le ?_
      have h2 : k.toNat ≤ 1000 := by omega
      have := Nat.mul_le_mul c3 h2
      omega
    · exact w _ _ (same_new np) (.lst (cut_new (dom.new np)) ((r1.rep _).mono (cut_same (same_new np))))
  · exact w.elim
def dDiv : D → D → Option D
  | .int i, .int j => if j ≠ 0 ∧ Builtin.divisionGoesByPylong i j = false then some (.int (i.fdiv j)) else none
  | _, _ => none
theorem op_divD {X : Cx} : OpR X (binaryOp .FloorDiv) (rI (fun i j => j ≠ 0 ∧ Builtin.divisionGoesByPylong i j = false) fun i j => .int (i.fdiv j)) := opI fun _ _ _ _ _ _ _ hc q => floordiv_int hc.1 q (.inl hc.2)
theorem od_div {K : PySem.W.Frag} : OpD K (rI (fun i j => j ≠ 0 ∧ Builtin.divisionGoesByPylong i j = false) fun i j => .int (i.fdiv j)) dDiv := by
  intro A H x y a b Q dom ra rb w
  unfold dDiv at w
  split at w
  · obtain ⟨c, w⟩ := okW_if w
    rw [ra.int_of, rb.int_of]
    exact ⟨_, _, rfl, rfl, c, w _ H (Same.refl H) (.int _)⟩
  · exact w.elim
def dMod : D → D → Option D
  | .int i, .int j => if j ≠ 0 then some (.int (i.fmod j)) else none
  | _, _ => none
theorem od_mod {K : PySem.W.Frag} : OpD K (rI (fun _ j => j ≠ 0) fun i j => .int (i.fmod j)) dMod := by
  intro A H x y a b Q dom ra rb w
  unfold dMod at w
  split at w
  · obtain ⟨c, w⟩ := okW_if w
    rw [ra.int_of, rb.int_of]
    exact ⟨_, _, rfl, rfl, c, w _ H (Same.refl H) (.int _)⟩
  · exact w.elim
def dPow : D → D → Option D
  | .int i, .int j => if 0 ≤ j ∧ j ≤ 1000 ∧ i.natAbs < 1000 then some (.int (i ^ j.toNat)) else none
  | _, _ => none
theorem od_pow {K : PySem.W.Frag} : OpD K (rI CPow fun i j => .int (i ^ j.toNat)) dPow := by
  intro A H x y a b Q dom ra rb w
  unfold dPow at w
  split at w
  · obtain ⟨⟨c1, c2, c3⟩, w⟩ := okW_if w
    rw [ra.int_of, rb.int_of]
    refine ⟨_, _, rfl, rfl, ⟨c1, by omega, Nat.lt_trans c3 (by decide)⟩, w _ H (Same.refl H) (.int _)⟩
  · exact w.elim
def dCmp (p : Int → Int → Bool) : D → D → Option D
  | .int i, .int j => some (.bool (p i j))
  | _, _ => none
theorem od_cmp {K : PySem.W.Frag} (p : Int → Int → Bool) : OpD K (rI0 fun i j => .bl (p i j)) (dCmp p) := by
  intro A H x y a b Q dom ra rb w
  unfold dCmp at w
  split at w
  · rw [ra.int_of, rb.int_of]
    exact ⟨_, _, rfl, rfl, w _ H (Same.refl H) (.bl _)⟩
  · exact w.elim
abbrev dLt : D → D → Option D := dCmp fun i j => decide (i < j)
abbrev dLe : D → D → Option D := dCmp fun i j => decide (i ≤ j)
abbrev dGt : D → D → Option D := dCmp fun i j => decide (j < i)
abbrev dGe : D → D → Option D := dCmp fun i j => decide (j ≤ i)

/-! ### == and != -/
/-- the script is a list, where it is compared -/
def deScr : D → D
  | .dict [(.none, .list ds)] => .list ds
  | d => d
def dEq (a b : D) : Option D := if SeqAt.shaped (deScr a) = true ∧ SeqAt.shaped b = true then some (.bool (PyData.eqv (deScr a) b)) else none
def dNe (a b : D) : Option D := if SeqAt.shaped a = true ∧ SeqAt.shaped b = true then some (.bool (!PyData.eqv a b)) else none
theorem Dp_mono {K : PySem.W.Frag} {C H : Hp} (s : Same C H) {v : V} {d : D} (r : R K C v d) (h : SeqAt.shaped d = true) : Dp K H v d := (r.mono s).dp (SeqAt.canLay_of_shaped h)
theorem DpAll_ints {K : PySem.W.Frag} {H : Hp} : ∀ ns : List Int, DpAll K H (ns.map V.int) (ns.map PyData.int)
  | [] => .nil
  | n :: r => .cons (.int n) (DpAll_ints r)
theorem deScr_dp {K : PySem.W.Frag} {C H : Hp} (s : Same C H) {v : V} {d : D} (r : R K C v d) (h : SeqAt.shaped (deScr d) = true) : Dp K H v (deScr d) := by
  cases r with
  | scr q => exact .lst (s.seq q) (DpAll_ints _)
  | dic q r =>
    exfalso
    rename_i kvs ds
    have e : deScr (.dict ds) = .dict ds := by
      cases r with
      | nil => rfl
      | cons a b =>
        rename_i k _ _ _ _
        cases k <;> rfl
    rw [e] at h
    have := SeqAt.canLay_of_shaped h
    simp [PyData.canLay0] at this
  | fdic q r =>
    exfalso
    rename_i kvs ds
    have e : deScr (.dict ds) = .dict ds := by
      cases r with
      | nil => rfl
      | cons a b =>
        rename_i k _ _ _ _
        cases k <;> rfl
    rw [e] at h
    have := SeqAt.canLay_of_shaped h
    simp [PyData.canLay0] at this
  | non => exact Dp_mono s .non h
  | bl b => exact Dp_mono s (.bl b) h
  | int i => exact Dp_mono s (.int i) h
  | str x => exact Dp_mono s (.str x) h
  | lst a b => exact Dp_mono s (.lst a b) h
  | tup a b => exact Dp_mono s (.tup a b) h
theorem od_eq {K : PySem.W.Frag} : OpD K (rEqD K) dEq := by
  intro A H x y a b Q dom ra rb w
  obtain ⟨⟨c1, c2⟩, w⟩ := okW_if w
  exact ⟨deScr a, b, deScr_dp cut_sub ra c1, Dp_mono cut_sub rb c2, c1, c2, w _ H (Same.refl H) (.bl _)⟩
theorem od_ne {K : PySem.W.Frag} : OpD K (rNeD K) dNe := by
  intro A H x y a b Q dom ra rb w
  obtain ⟨⟨c1, c2⟩, w⟩ := okW_if w
  exact ⟨a, b, Dp_mono cut_sub ra c1, Dp_mono cut_sub rb c2, c1, c2, w _ H (Same.refl H) (.bl _)⟩
def isN : D → Bool
  | .none => true
  | _ => false
def dIs (a b : D) : Option D := if isN b = true then some (.bool (isN a)) else none
def dIsNot (a b : D) : Option D := if isN b = true then some (.bool (!isN a)) else none
theorem R.isN {K : PySem.W.Frag} {H : Hp} {v : V} {d : D} (r : R K H v d) : decide (v = V.non) = DL.isN d := by cases r <;> first | rfl | exact decide_eq_false (fun e => nomatch e)
theorem isN_of {d : D} (h : isN d = true) : d = .none := by cases d <;> first | rfl | cases h
theorem od_is {K : PySem.W.Frag} : OpD K (fun x y H Q => y = .non ∧ Q (.bl (decide (x = .non))) H) dIs := by
  intro A H x y a b Q dom ra rb w
  obtain ⟨c, w⟩ := okW_if w
  have e := isN_of c
  subst e
  refine ⟨rb.none_of, ?_⟩
  rw [ra.isN]
  exact w _ H (Same.refl H) (.bl _)
theorem od_isnot {K : PySem.W.Frag} : OpD K (fun x y H Q => y = .non ∧ Q (.bl (!decide (x = .non))) H) dIsNot := by
  intro A H x y a b Q dom ra rb w
  obtain ⟨c, w⟩ := okW_if w
  have e := isN_of c
  subst e
  refine ⟨rb.none_of, ?_⟩
  rw [ra.isN]
  exact w _ H (Same.refl H) (.bl _)

/-! ### dicts -/
def keyOf : D → Option Key
  | .int i => some (.inl i)
  | .str x => some (.inr x)
  | _ => none
theorem keyOf_keyD (k : Key) : keyOf (keyD k) = some k := by cases k <;> rfl
def lookD (kvs : List (D × D)) (k : Key) : Option D := (kvs.find? fun p => decide (keyOf p.1 = some k)).map (·.2)
def putD (kvs : List (D × D)) (k : Key) (v : D) : List (D × D) :=
  if (kvs.any fun p => decide (keyOf p.1 = some k)) = true then kvs.map (fun p => if keyOf p.1 = some k then (p.1, v) else p) else kvs ++ [(keyD k, v)]
section
variable {K : PySem.W.Frag} {H : Hp}
theorem R.key {v : V} {d : D} {k : Key} (r : R K H v d) (h : keyOf d = some k) : v = kV k := by
  cases r <;> first | (cases h; rfl) | cases h
theorem RKV.length : ∀ {kvs : List (Key × V)} {ds : List (D × D)}, RKV K H kvs ds → kvs.length = ds.length
  | _, _, .nil => rfl
  | _, _, .cons _ r => by rw [List.length_cons, List.length_cons, RKV.length r]
theorem RKV.look (k : Key) : ∀ {kvs : List (Key × V)} {ds : List (D × D)}, RKV K H kvs ds → (valV kvs k = none ∧ lookD ds k = none) ∨ ∃ v d, valV kvs k = some v ∧ lookD ds k = some d ∧ R K H v d
  | _, _, .nil => .inl ⟨rfl, rfl⟩
  | _, _, .cons (k := j) (v := v) (kvs := kvs) (d := d) (ds := ds) r t => by
    by_cases e : j = k
    · exact .inr ⟨v, d, valV_pos e, by simp [lookD, keyOf_keyD, e], r⟩
    · have h1 : valV ((j, v) :: kvs) k = valV kvs k := valV_neg e
      have h2 : lookD ((keyD j, d) :: ds) k = lookD ds k := by simp [lookD, keyOf_keyD, e]
      rw [h1, h2]
      exact RKV.look k t
theorem RKV.any (k : Key) : ∀ {kvs : List (Key × V)} {ds : List (D × D)}, RKV K H kvs ds → (kvs.any fun p => decide (p.1 = k)) = ds.any fun p => decide (keyOf p.1 = some k)
  | _, _, .nil => rfl
  | _, _, .cons (k := j) r t => by
    rw [List.any_cons, List.any_cons, RKV.any k t]
    simp [keyOf_keyD]
theorem RKV.repl (k : Key) {y : V} {z : D} (ry : R K H y z) : ∀ {kvs : List (Key × V)} {ds : List (D × D)}, RKV K H kvs ds → RKV K H (kvs.map fun p => if p.1 = k then (p.1, y) else p) (ds.map fun p => if keyOf p.1 = some k then (p.1, z) else p)
  | _, _, .nil => .nil
  | _, _, .cons (k := j) r t => by
    rw [List.map_cons, List.map_cons]
    by_cases e : j = k
    · subst e
      simp only [keyOf_keyD, if_true]
      exact .cons ry (RKV.repl j ry t)
    · have e' : ¬ some j = some k := fun z => e (Option.some.inj z)
      simp only [keyOf_keyD, e, e', if_false]
      exact .cons r (RKV.repl k ry t)
theorem RKV.append : ∀ {kvs kvs' : List (Key × V)} {ds ds' : List (D × D)}, RKV K H kvs ds → RKV K H kvs' ds' → RKV K H (kvs ++ kvs') (ds ++ ds')
  | _, _, _, _, .nil, s => s
  | _, _, _, _, .cons r t, s => .cons r (RKV.append t s)
theorem RKV.put {k : Key} {y : V} {z : D} (ry : R K H y z) {kvs : List (Key × V)} {ds : List (D × D)} (h : RKV K H kvs ds) : RKV K H (putK kvs k y) (putD ds k z) := by
  unfold putK putD
  rw [h.any k]
  split
  · exact h.repl k ry
  · exact h.append (.cons ry .nil)
theorem RKV.keys : ∀ {kvs : List (Key × V)} {ds : List (D × D)}, RKV K H kvs ds → RAll K H (kvs.map fun p => kV p.1) (ds.map (·.1))
  | _, _, .nil => .nil
  | _, _, .cons (k := j) r t => by
    refine .cons ?_ (RKV.keys t)
    cases j with
    | inl i => exact .int i
    | inr x => exact .str x
theorem RKV.vals : ∀ {kvs : List (Key × V)} {ds : List (D × D)}, RKV K H kvs ds → RAll K H (kvs.map fun p => p.2) (ds.map (·.2))
  | _, _, .nil => .nil
  | _, _, .cons r t => .cons r (RKV.vals t)
end

/-! ### in -/
def dHas : D → D → Option Bool
  | d, .list ds => if SeqAt.shaped d = true ∧ SeqAt.shaped (.list ds) = true then some (ds.any fun z => PyData.eqv z d) else none
  | d, .dict kvs => if isDic kvs = true then (keyOf d).map fun k => (lookD kvs k).isSome else none
  | .str x, .str y => some (!(Builtin.Str.occurrences y x 0 y.length 1).isEmpty)
  | _, _ => none
def dIn (a b : D) : Option D := (dHas a b).map .bool
def dNotIn (a b : D) : Option D := (dHas a b).map fun c => .bool (!c)
def rInDic : R2 := fun x y H Q => ∃ a o, y = .ref a ∧ DGet H a x o ∧ Q (.bl o.isSome) H
def rNotInDic : R2 := fun x y H Q => ∃ a o, y = .ref a ∧ DGet H a x o ∧ Q (.bl (!o.isSome)) H
theorem op_inDic {X : Cx} (hu : X.A.units + 1 < cLine) : OpR X (compareOp .In) rInDic := by
  intro pins s σ H x y v u Q I rx ry h
  obtain ⟨a, o, rfl, g, q⟩ := h
  cases ry
  exact d_in hu I g rx fun s' I' => ⟨.bl o.isSome, H, I', rfl, q⟩
theorem op_notInDic {X : Cx} (hu : X.A.units + 1 < cLine) : OpR X (compareOp .NotIn) rNotInDic := by
  intro pins s σ H x y v u Q I rx ry h
  obtain ⟨a, o, rfl, g, q⟩ := h
  cases ry
  exact d_notIn hu I g rx fun s' I' => ⟨.bl (!o.isSome), H, I', rfl, q⟩
def rInA (K : PySem.W.Frag) : R2 := fun x y H Q => rInD K x y H Q ∨ rInDic x y H Q ∨ ∃ i j, x = .str i ∧ y = .str j ∧ Q (.bl (!(Builtin.Str.occurrences j i 0 j.length 1).isEmpty)) H
def rNotInA (K : PySem.W.Frag) : R2 := fun x y H Q => rNotInD K x y H Q ∨ rNotInDic x y H Q ∨ ∃ i j, x = .str i ∧ y = .str j ∧ Q (.bl (!(!(Builtin.Str.occurrences j i 0 j.length 1).isEmpty))) H
theorem op_inA {X : Cx} (hu : X.A.units + 65 < cLine) : OpR X (compareOp .In) (rInA X.K) := (op_inD hu).or ((op_inDic (by omega)).or op_in_str)
theorem op_notInA {X : Cx} (hu : X.A.units + 65 < cLine) : OpR X (compareOp .NotIn) (rNotInA X.K) := (op_notInD hu).or ((op_notInDic (by omega)).or op_notin_str)
theorem CRep.dp {K : PySem.W.Frag} {A : Addr → Prop} {H : Hp} {v : V} {ds : List D} (h : CRep K (Cut A H) H v (.list ds)) (c : SeqAt.shaped (.list ds) = true) : Dp K H v (.list ds) := by
  obtain ⟨a, xs, rfl, q, r⟩ := h.list_of cut_sub
  refine .lst (.of q) ((r.mono cut_sub).dp ?_)
  have := SeqAt.canLay_of_shaped c
  simpa [PyData.canLay0] using this
theorem dget_of {K : PySem.W.Frag} {C H : Hp} {a : Addr} {kvs : List (Key × V)} {ds : List (D × D)} {k : Key} (h : Rd H a (.dK kvs)) (r : RKV K C kvs ds) :
    ∃ o, DGet H a (kV k) o ∧ o.isSome = (lookD ds k).isSome := by
  refine ⟨valV kvs k, .inl ⟨kvs, k, h, rfl, rfl⟩, ?_⟩
  rcases r.look k with ⟨e1, e2⟩ | ⟨v, d, e1, e2, _⟩ <;> rw [e1, e2] <;> rfl
theorem oc_in {K : PySem.W.Frag} : OpCR K (rInA K) dIn := by
  intro A H x y a b Q dom ra rb w
  unfold dIn at w
  obtain ⟨r, e, w2⟩ := OkW.of_some w
  clear w
  obtain ⟨c, e2, rfl⟩ := Option.map_eq_some_iff.mp e
  unfold dHas at e2
  split at e2
  · split at e2
    · rename_i k
      cases e2
      exact .inl ⟨_, _, Dp_mono cut_sub ra k.1, rb.dp k.2, k.1, k.2, w2 _ H (Same.refl H) (.bl _)⟩
    · cases e2
  · split at e2
    · rename_i hd
      obtain ⟨k, hk, e3⟩ := Option.map_eq_some_iff.mp e2
      obtain ⟨p, kvs, rfl, q, r⟩ := rb.dict_of cut_sub hd
      obtain ⟨o, g, ho⟩ := dget_of (k := k) q r
      refine .inr (.inl ⟨p, o, rfl, by rw [ra.key hk]; exact g, ?_⟩)
      rw [ho, e3]
      exact w2 _ H (Same.refl H) (.bl _)
    · cases e2
  · cases e2
    exact .inr (.inr ⟨_, _, ra.str_of, rb.str_of, w2 _ H (Same.refl H) (.bl _)⟩)
  · cases e2
theorem oc_notin {K : PySem.W.Frag} : OpCR K (rNotInA K) dNotIn := by
  intro A H x y a b Q dom ra rb w
  unfold dNotIn at w
  obtain ⟨r, e, w2⟩ := OkW.of_some w
  clear w
  obtain ⟨c, e2, rfl⟩ := Option.map_eq_some_iff.mp e
  unfold dHas at e2
  split at e2
  · split at e2
    · rename_i k
      cases e2
      exact .inl ⟨_, _, Dp_mono cut_sub ra k.1, rb.dp k.2, k.1, k.2, w2 _ H (Same.refl H) (.bl _)⟩
    · cases e2
  · split at e2
    · rename_i hd
      obtain ⟨k, hk, e3⟩ := Option.map_eq_some_iff.mp e2
      obtain ⟨p, kvs, rfl, q, r⟩ := rb.dict_of cut_sub hd
      obtain ⟨o, g, ho⟩ := dget_of (k := k) q r
      refine .inr (.inl ⟨p, o, rfl, by rw [ra.key hk]; exact g, ?_⟩)
      rw [ho, e3]
      exact w2 _ H (Same.refl H) (.bl _)
    · cases e2
  · cases e2
    exact .inr (.inr ⟨_, _, ra.str_of, rb.str_of, w2 _ H (Same.refl H) (.bl _)⟩)
  · cases e2

/-! ### items -/
def allI : List D → Option (List Int)
  | [] => some []
  | .int b :: r => (allI r).map (b :: ·)
  | _ => none
theorem allI_map (bs : List Int) : allI (bs.map .int) = some bs := by
  induction bs with
  | nil => rfl
  | cons b r ih => show (allI (r.map .int)).map (b :: ·) = _; rw [ih]; rfl
theorem RAll.ints {K : PySem.W.Frag} {H : Hp} : ∀ {vs : List V} {ds : List D} {bs : List Int}, RAll K H vs ds → allI ds = some bs → vs = bs.map V.int
  | _, _, _, .nil, h => by cases h; rfl
  | _, _, bs, .cons (d := d) (ds := ds) r t, h => by
    cases d <;> first | cases h | skip
    rename_i k
    have h' : (allI ds).map (k :: ·) = some bs := h
    obtain ⟨cs, e, rfl⟩ := Option.map_eq_some_iff.mp h'
    rw [r.int_of, RAll.ints t e]
    rfl
theorem RAll.ofInts {K : PySem.W.Frag} {H : Hp} : ∀ ns : List Int, RAll K H (ns.map V.int) (ns.map PyData.int)
  | [] => .nil
  | n :: r => .cons (.int n) (RAll.ofInts r)
def dIx : D → D → Option D
  | .list ds, .int i => atI ds i
  | .tuple ds, .int i => atI ds i
  | .str z, .int i => if z.length ≤ sizeLine then (atI z.cps.toList i).map fun c => .str ⟨#[c]⟩ else none
  | .dict [(.none, .list ds)], .int i => (allI ds).bind fun ns => (atI ns i).map .int
  | _, _ => none
theorem RAll.atI {K : PySem.W.Frag} {H : Hp} {vs : List V} {ds : List D} {i : Int} {d : D} (r : RAll K H vs ds) (h : L2.atI ds i = some d) : ∃ v, L2.atI vs i = some v ∧ R K H v d := by
  unfold L2.atI at h ⊢
  rw [r.length]
  obtain ⟨j, e1, e2⟩ := Option.bind_eq_some_iff.mp h
  obtain ⟨v, a, b⟩ := r.get e2
  exact ⟨v, by rw [e1]; exact a, b⟩
theorem allI_eq : ∀ {ds : List D} {ns : List Int}, allI ds = some ns → ds = ns.map PyData.int
  | [], ns, h => by cases h; rfl
  | d :: ds, ns, h => by
    cases d <;> first | cases h | skip
    rename_i k
    have h' : (allI ds).map (k :: ·) = some ns := h
    obtain ⟨cs, e, rfl⟩ := Option.map_eq_some_iff.mp h'
    rw [allI_eq e]
    rfl
theorem CRep.scr_of {K : PySem.W.Frag} {C H : Hp} {v : V} {ds : List D} {ns : List Int} (h : CRep K C H v (.dict [(.none, .list ds)])) (s : Same C H) (e : allI ds = some ns) : ∃ a, v = .ref a ∧ SqL K H a (ns.map V.int) := by
  cases h with
  | sh r =>
    generalize hd : (PyData.dict [(.none, .list ds)]) = d at r
    cases r with
    | scr q =>
      rename_i ms
      injection hd with hd
      injection hd with hd _
      injection hd with _ hd
      injection hd with hd
      rw [hd, allI_map] at e
      cases e
      exact ⟨_, rfl, s.seq q⟩
    | dic q r =>
      injection hd with hd
      subst hd
      exfalso
      generalize hk : (PyData.none) = kd at r
      cases r with
      | cons a b =>
        rename_i k _ _
        cases k <;> cases hk
    | fdic q r =>
      injection hd with hd
      subst hd
      exfalso
      generalize hk : (PyData.none) = kd at r
      cases r with
      | cons a b =>
        rename_i k _ _
        cases k <;> cases hk
    | non => cases hd
    | bl => cases hd
    | int => cases hd
    | str => cases hd
    | lst => cases hd
    | tup => cases hd
  | ow r =>
    exfalso
    generalize hd : (PyData.dict [(.none, .list ds)]) = d at r
    cases r with
    | lst => cases hd
    | dic q r =>
      injection hd with hd
      subst hd
      generalize hk : (PyData.none) = kd at r
      cases r with
      | cons a b =>
        rename_i k _ _
        cases k <;> cases hk
theorem oc_ix {K : PySem.W.Frag} : OpCL K (rIx K) dIx := by
  intro A H x y a b Q dom ra rb w
  obtain ⟨d, e, w2⟩ := OkW.of_some w
  clear w
  unfold dIx at e
  split at e
  · obtain ⟨p, xs, rfl, q, r⟩ := ra.list_of cut_sub
    obtain ⟨v, hv, rv⟩ := r.atI e
    exact .inl ⟨p, xs, _, v, rfl, rb.int_of, .of q, hv, w2 v H (Same.refl H) rv⟩
  · obtain ⟨p, xs, rfl, q, r⟩ := ra.tuple_of cut_sub
    obtain ⟨v, hv, rv⟩ := r.atI e
    exact .inr (.inl ⟨p, xs, _, v, rfl, rb.int_of, q, hv, w2 v H (Same.refl H) rv⟩)
  · split at e
    · rename_i c
      obtain ⟨k, e2, rfl⟩ := Option.map_eq_some_iff.mp e
      exact .inr (.inr ⟨_, _, k, ra.str_of, rb.int_of, c, e2, w2 _ H (Same.refl H) (.str _)⟩)
    · cases e
  · obtain ⟨ns, e1, e2⟩ := Option.bind_eq_some_iff.mp e
    obtain ⟨k, e3, rfl⟩ := Option.map_eq_some_iff.mp e2
    obtain ⟨p, rfl, q⟩ := ra.scr_of cut_sub e1
    refine .inl ⟨p, _, _, .int k, rfl, rb.int_of, q, ?_, w2 _ H (Same.refl H) (.int _)⟩
    unfold L2.atI at e3 ⊢
    rw [List.length_map]
    obtain ⟨j, f1, f2⟩ := Option.bind_eq_some_iff.mp e3
    rw [f1]
    show (ns.map V.int)[j]? = some (V.int k)
    rw [List.getElem?_map, f2]
    rfl
  · cases e
def dDix : D → D → Option D
  | .dict kvs, k => if isDic kvs = true then (keyOf k).bind (lookD kvs) else none
  | _, _ => none
theorem dlook_of {K : PySem.W.Frag} {C H : Hp} {a : Addr} {kvs : List (Key × V)} {ds : List (D × D)} {k : Key} {d : D} (h : Rd H a (.dK kvs)) (r : RKV K C kvs ds) (l : lookD ds k = some d) :
    ∃ v, DGet H a (kV k) (some v) ∧ R K C v d := by
  rcases r.look k with ⟨e1, e2⟩ | ⟨v, d', e1, e2, q⟩
  · rw [e2] at l; cases l
  · rw [e2] at l; cases l
    exact ⟨v, by rw [← e1]; exact .inl ⟨kvs, k, h, rfl, rfl⟩, q⟩
section
variable {X : Cx} {K : PySem.W.Frag} {mg : Str → Option Value} {E : XK} {own : List Nat} {a b c : Expr} {ta tb tc : TE} {fa fb fc : Ex} {pos : Pos}
theorem de_ix (ha : DC X K mg E own a ta fa) (hb : DE X K mg E own b tb fb) (hs : PlainIx b := by intro _ _; rfl) (hK : X.K = K := by rfl) : DE X K mg E own (.Subscript a b pos) (tOp (rIx K) ta tb) (bin fa fb dIx) := by
  subst hK
  exact de_ixC ix_seq oc_ix ha hb hs
theorem de_dix (hu : X.A.units + 1 < cLine) (ha : DC X K mg E own a ta fa) (hb : DE X K mg E own b tb fb) (hs : NoSl b := by intro _ _; rfl) : DE X K mg E own (.Subscript a b pos) (tDGet ta tb) (bin fa fb dDix) :=
  ⟨pe_dget hu ha.pe hb.pe hs, fun O H0 ρ σ H Q e w => by
    unfold bin at w
    rw [resW_bind] at w
    refine ha.ok O H0 ρ σ H _ e (w.mono (Same.refl H) fun a wa v1 H1 s1 r1 => ?_)
    rw [resW_bind] at wa
    refine hb.ok O H0 ρ σ H1 _ (e.mono s1) (wa.mono s1 fun b wb v2 H2 s2 r2 => ?_)
    obtain ⟨d, e1, wd⟩ := OkW.of_some (okW_of wb)
    unfold dDix at e1
    split at e1
    · split at e1
      · rename_i hd
        obtain ⟨k, hk, hl⟩ := Option.bind_eq_some_iff.mp e1
        obtain ⟨p, kvs, rfl, q, r⟩ := (crep_same r1 s2).dict_of cut_sub hd
        obtain ⟨v, g, rv⟩ := dlook_of q r hl
        exact ⟨p, v, rfl, by rw [r2.key hk]; exact g, wd v H2 (s1.trans s2) rv⟩
      · cases e1
    · cases e1⟩
def getV (fa fb fc : Ex) : Ex := fun ρ => (fa ρ).bind fun a => match a with
  | .dict kvs => if isDic kvs = true then (fb ρ).bind fun b => (fc ρ).bind fun c => ofO ((keyOf b).map fun k => (lookD kvs k).getD c) else .bad
  | _ => .bad
theorem isD_k {H : Hp} {a : Addr} {kvs : List (Key × V)} (h : Rd H a (.dK kvs)) : IsD H a := .inl ⟨kvs, h⟩
theorem de_get2 {apos cpos : Pos} (hu : X.A.units + 1 < cLine) (ha : DC X K mg E own a ta fa) (hb : DE X K mg E own b tb fb) (hc : DE X K mg E own c tc fc)
    (m : M2 X a "get" apos b c cpos := by exact ⟨rfl, rfl, rfl, rfl⟩) : DE X K mg E own (.Call (.Attribute a "get" apos) [b, c] [] cpos) (tDGet2 ta tb tc) (getV fa fb fc) :=
  ⟨pe_dget2 hu ha.pe hb.pe hc.pe m, fun O H0 ρ σ H Q e w => by
    unfold getV at w
    rw [resW_bind] at w
    refine ha.ok O H0 ρ σ H _ e (w.mono (Same.refl H) fun a wa v1 H1 s1 r1 => ?_)
    cases a <;> first | exact wa.elim | skip
    rename_i kv0
    by_cases hdic : isDic kv0 = true
    · replace wa : ResW _ _ _ _ (if isDic kv0 = true then (fb ρ).bind fun b => (fc ρ).bind fun c => ofO ((keyOf b).map fun k => (lookD kv0 k).getD c) else .bad) := wa
      rw [if_pos hdic, resW_bind] at wa
      obtain ⟨p, kvs, rfl, q, r⟩ := r1.dict_of cut_sub hdic
      refine ⟨p, rfl, isD_k q, ?_⟩
      refine hb.ok O H0 ρ σ H1 _ (e.mono s1) (wa.mono s1 fun b wb v2 H2 s2 r2 => ?_)
      rw [resW_bind] at wb
      refine hc.ok O H0 ρ σ H2 _ ((e.mono s1).mono s2) (wb.mono (s1.trans s2) fun c wc v3 H3 s3 r3 => ?_)
      obtain ⟨d, e1, wd⟩ := OkW.of_some (okW_of wc)
      obtain ⟨k, hk, rfl⟩ := Option.map_eq_some_iff.mp e1
      have q3 := rd_same q (s2.trans s3)
      have r' := r.mono (cut_same (A := AllA O own σ) (s2.trans s3))
      refine ⟨valV kvs k, by rw [r2.key hk]; exact .inl ⟨kvs, k, q3, rfl, rfl⟩, ?_⟩
      rcases r'.look k with ⟨e1, e2⟩ | ⟨v, d', e1, e2, q⟩
      · rw [e1]
        rw [e2] at wd
        exact wd v3 H3 ((s1.trans s2).trans s3) r3
      · rw [e1]
        rw [e2] at wd
        exact wd v H3 ((s1.trans s2).trans s3) q
    · replace wa : ResW _ _ _ _ (if isDic kv0 = true then (fb ρ).bind fun b => (fc ρ).bind fun c => ofO ((keyOf b).map fun k => (lookD kv0 k).getD c) else .bad) := wa
      rw [if_neg hdic] at wa
      exact wa.elim⟩
end
end DL
end

section
set_option Elab.async false
set_option linter.all false
set_option maxRecDepth 100000
set_option maxHeartbeats 2000000
set_option autoImplicit false
/-! DL4: built-ins, new lists and dicts, comprehensions. -/
namespace DL
open PySem PySem.Spec PyProof.Rows L2

/-! ### built-ins of one argument -/
def un (fa : Ex) (op : D → Option D) : Ex := fun ρ => (fa ρ).bind fun a => ofO (op a)
def CallC (K : PySem.W.Frag) (r : List V → Hp → VK → Prop) (op : D → Option D) : Prop :=
  ∀ (A : Addr → Prop) (H : Hp) (x : V) (a : D) (Q : VK), Dom A H → CRep K (Cut A H) H x a → OkW (fun d => ∀ v H', Same H H' → R K (Cut A H') v d → Q v H') (op a) → r [x] H Q
section
variable {X : Cx} {K : PySem.W.Frag} {mg : Str → Option Value} {E : XK} {own : List Nat} {a b : Expr} {ta tb : TE} {fa fb : Ex} {op : D → Option D} {r : List V → Hp → VK → Prop} {p pos : Pos} {x : Str}
theorem te_call1 {K : PySem.W.Frag} {mg : Str → Option Value} (hr : CallC K r op) (ha : TCok K mg E own ta fa) : TEok K mg E own (tCB r (tCons ta tNil)) (un fa op) := fun O H0 ρ σ H Q e w => by
  unfold un at w
  rw [resW_bind] at w
  refine ha O H0 ρ σ H _ e (w.mono (Same.refl H) fun a wa v1 H1 s1 r1 => ?_)
  exact hr _ H1 v1 a Q (e.domA.same s1) r1 ((okW_of wa).mono fun d k v H' s r => k v H' (s1.trans s) r)
theorem de_callB1 {id : String} (hc : CallR X (.builtin id) r) (hr : CallC K r op) (hg : Gl X x) (hm : X.mg x = none) (hv : bootBuiltins x = some (.builtin id)) (ha : DC X K mg E own a ta fa) (hn : x ≠ "__name__" := by decide) (hdb : (x == ("__debug__" : Str)) = false := by decide)
    (he : starEach (a :: []) X.env = (false, eval a X.env) :: starEach [] X.env := by rfl) (hpl : (backTo pos (starEach [] X.env)).any (·.1) = false := by rfl) : DE X K mg E own (.Call (.Name x p) [a] [] pos) (tCB r (tCons ta tNil)) (un fa op) :=
  ⟨pe_callB hc hg hm hv (pa_cons ha.pe pa_nil he) hn hdb he hpl, te_call1 hr ha.ok⟩
theorem de_callT1 {T : String} (hc : CallR X (.type T) r) (hr : CallC K r op) (hg : Gl X x) (hm : X.mg x = none) (hv : bootBuiltins x = some (.type T)) (ha : DC X K mg E own a ta fa) (hn : x ≠ "__name__" := by decide) (hdb : (x == ("__debug__" : Str)) = false := by decide)
    (he : starEach (a :: []) X.env = (false, eval a X.env) :: starEach [] X.env := by rfl) (hpl : (backTo pos (starEach [] X.env)).any (·.1) = false := by rfl) : DE X K mg E own (.Call (.Name x p) [a] [] pos) (tCB r (tCons ta tNil)) (un fa op) :=
  ⟨pe_callTy hc hg hm hv (pa_cons ha.pe pa_nil he) hn hdb he hpl, te_call1 hr ha.ok⟩
def dLen : D → Option D
  | .list ds => some (.int ds.length)
  | .tuple ds => some (.int ds.length)
  | .str z => if z.length ≤ sizeLine then some (.int z.length) else none
  | .dict [(.none, .list ds)] => (allI ds).map fun ns => .int ns.length
  | .dict kvs => if isDic kvs = true then some (.int kvs.length) else none
  | _ => none
def rLenA (K : PySem.W.Frag) : List V → Hp → VK → Prop := fun xs H Q => (∃ x n, xs = [x] ∧ LenV K x H n ∧ Q (.int n) H) ∨ ∃ a kvs, xs = [V.ref a] ∧ Rd H a (.dK kvs) ∧ Q (.int kvs.length) H
theorem call_lenRd : CallR X (.builtin "len") (fun xs H Q => ∃ a kvs, xs = [V.ref a] ∧ Rd H a (.dK kvs) ∧ Q (.int kvs.length) H) := by
  intro pins s σ H xs us Q I r h
  obtain ⟨a, kvs, rfl, e, q⟩ := h
  obtain ⟨u, rfl, rx⟩ := vals1 r
  cases rx
  exact d_len I e fun t s' I' => ⟨.int kvs.length, H, I', ⟨t, rfl⟩, q⟩
theorem call_lenA : CallR X (.builtin "len") (rLenA X.K) := call_len.or call_lenRd
theorem cc_len {K : PySem.W.Frag} : CallC K (rLenA K) dLen := by
  intro A H x a Q dom ra w
  unfold dLen at w
  split at w
  · obtain ⟨l, xs, rfl, q, r⟩ := ra.list_of cut_sub
    exact .inl ⟨_, _, rfl, .inl ⟨xs, .of q, r.length.symm⟩, w _ H (Same.refl H) (.int _)⟩
  · obtain ⟨l, xs, rfl, q, r⟩ := ra.tuple_of cut_sub
    exact .inl ⟨_, _, rfl, .inr ⟨xs, q, r.length.symm⟩, w _ H (Same.refl H) (.int _)⟩
  · obtain ⟨c, w⟩ := okW_if w
    rw [ra.str_of]
    exact .inl ⟨_, _, rfl, ⟨c, rfl⟩, w _ H (Same.refl H) (.int _)⟩
  · obtain ⟨d, e, w2⟩ := OkW.of_some w
    obtain ⟨ns, e1, rfl⟩ := Option.map_eq_some_iff.mp e
    obtain ⟨l, rfl, q⟩ := ra.scr_of cut_sub e1
    exact .inl ⟨_, _, rfl, .inl ⟨_, q, by rw [List.length_map]⟩, w2 _ H (Same.refl H) (.int _)⟩
  · obtain ⟨c, w⟩ := okW_if w
    obtain ⟨l, kvs, rfl, q, r⟩ := ra.dict_of cut_sub c
    refine .inr ⟨l, kvs, rfl, q, ?_⟩
    rw [r.length]
    exact w _ H (Same.refl H) (.int _)
  · exact w.elim
def dAbs : D → Option D
  | .int i => some (.int (if i < 0 then -i else i))
  | _ => none
theorem CRep.int_of {K : PySem.W.Frag} {C H : Hp} {v : V} {i : Int} (h : CRep K C H v (.int i)) : v = .int i := by
  cases h with
  | sh r => exact r.int_of
  | ow r => cases r
theorem CRep.bool_of {K : PySem.W.Frag} {C H : Hp} {v : V} {i : Bool} (h : CRep K C H v (.bool i)) : v = .bl i := by
  cases h with
  | sh r => exact r.bool_of
  | ow r => cases r
theorem cc_abs {K : PySem.W.Frag} : CallC K (fun xs H Q => ∃ i, xs = [.int i] ∧ Q (.int (if i < 0 then -i else i)) H) dAbs := by
  intro A H x a Q dom ra w
  unfold dAbs at w
  split at w
  · rw [ra.int_of]
    exact ⟨_, rfl, w _ H (Same.refl H) (.int _)⟩
  · exact w.elim
def dInt : D → Option D
  | .int i => some (.int i)
  | .bool k => some (.int (if k then 1 else 0))
  | _ => none
theorem cc_int {K : PySem.W.Frag} : CallC K (fun xs H Q => (∃ i, xs = [V.int i] ∧ Q (.int i) H) ∨ ∃ k, xs = [V.bl k] ∧ Q (.int (if k then 1 else 0)) H) dInt := by
  intro A H x a Q dom ra w
  unfold dInt at w
  split at w
  · rw [ra.int_of]
    exact .inl ⟨_, rfl, w _ H (Same.refl H) (.int _)⟩
  · rw [ra.bool_of]
    exact .inr ⟨_, rfl, w _ H (Same.refl H) (.int _)⟩
  · exact w.elim
def dTuple : D → Option D
  | .list ds => some (.tuple ds)
  | .tuple ds => some (.tuple ds)
  | _ => none
theorem cc_tuple {K : PySem.W.Frag} : CallC K (fun xs H Q => ∃ p ys, xs = [.ref p] ∧ ((SqL K H p ys ∧ ∀ l, H l = none → Q (.ref l) (upd H l (.tup ys))) ∨ (SqT K H p ys ∧ Q (.ref p) H))) dTuple := by
  intro A H x a Q dom ra w
  unfold dTuple at w
  split at w
  · obtain ⟨l, xs, rfl, q, r⟩ := ra.list_of cut_sub
    exact ⟨l, xs, rfl, .inl ⟨.of q, fun p np => w _ _ (same_new np) (.tup (.inl (.inl (cut_new (dom.new np)))) (r.mono (cut_same (same_new np))))⟩⟩
  · cases ra with
    | ow r => cases r
    | sh ra =>
      obtain ⟨l, xs, rfl, q, r⟩ := ra.tuple_of
      exact ⟨l, xs, rfl, .inr ⟨sqT_same cut_sub q, w _ H (Same.refl H) (.tup q r)⟩⟩
  · exact w.elim
/-! any, all -/
def allB : List D → Option (List Bool)
  | [] => some []
  | .bool b :: r => (allB r).map (b :: ·)
  | _ => none
theorem allB_map (bs : List Bool) : allB (bs.map .bool) = some bs := by
  induction bs with
  | nil => rfl
  | cons b r ih => show (allB (r.map .bool)).map (b :: ·) = _; rw [ih]; rfl
theorem RAll.bools {K : PySem.W.Frag} {H : Hp} : ∀ {vs : List V} {ds : List D} {bs : List Bool}, RAll K H vs ds → allB ds = some bs → vs = bs.map V.bl
  | _, _, _, .nil, h => by cases h; rfl
  | _, _, bs, .cons (d := d) (ds := ds) r t, h => by
    cases d <;> first | cases h | skip
    rename_i k
    have h' : (allB ds).map (k :: ·) = some bs := h
    obtain ⟨cs, e, rfl⟩ := Option.map_eq_some_iff.mp h'
    rw [r.bool_of, RAll.bools t e]
    rfl
def dAny : D → Option D
  | .list ds => (allB ds).map fun bs => .bool (bs.any id)
  | _ => none
def dAll : D → Option D
  | .list ds => (allB ds).map fun bs => .bool (bs.all id)
  | _ => none
theorem cc_any {K : PySem.W.Frag} : CallC K (rAny K) dAny := by
  intro A H x a Q dom ra w
  unfold dAny at w
  split at w
  · obtain ⟨d, e, w2⟩ := OkW.of_some w
    obtain ⟨bs, e2, rfl⟩ := Option.map_eq_some_iff.mp e
    obtain ⟨l, xs, rfl, q, r⟩ := ra.list_of cut_sub
    exact ⟨l, bs, rfl, by rw [← r.bools e2]; exact .of q, w2 _ H (Same.refl H) (.bl _)⟩
  · exact w.elim
theorem cc_all {K : PySem.W.Frag} : CallC K (rAll K) dAll := by
  intro A H x a Q dom ra w
  unfold dAll at w
  split at w
  · obtain ⟨d, e, w2⟩ := OkW.of_some w
    obtain ⟨bs, e2, rfl⟩ := Option.map_eq_some_iff.mp e
    obtain ⟨l, xs, rfl, q, r⟩ := ra.list_of cut_sub
    exact ⟨l, bs, rfl, by rw [← r.bools e2]; exact .of q, w2 _ H (Same.refl H) (.bl _)⟩
  · exact w.elim
/-! sorted, of numbers -/
def sortI (ns : List Int) : List Int := ns.mergeSort fun a b => decide (a ≤ b)
theorem sorted_unique : ∀ {xs ys : List Int}, xs.Perm ys → xs.Pairwise (· ≤ ·) → ys.Pairwise (· ≤ ·) → xs = ys
  | [], ys, p, _, _ => (List.nil_perm.mp p).symm
  | x :: xs, [], p, _, _ => absurd p.symm (by simp)
  | x :: xs, y :: ys, p, hx, hy => by
    have e : x = y := by
      rcases List.mem_cons.mp (p.mem_iff.mp List.mem_cons_self : x ∈ y :: ys) with h | h
      · exact h
      · have h1 := List.rel_of_pairwise_cons hy h
        rcases List.mem_cons.mp (p.symm.mem_iff.mp List.mem_cons_self : y ∈ x :: xs) with g | g
        · exact g.symm
        · have h2 := List.rel_of_pairwise_cons hx g
          omega
    subst e
    rw [sorted_unique ((List.perm_cons x).mp p) (List.Pairwise.of_cons hx) (List.Pairwise.of_cons hy)]
theorem sortI_perm (ns : List Int) : (sortI ns).Perm ns := List.mergeSort_perm ns _
theorem sortI_sorted (ns : List Int) : (sortI ns).Pairwise (· ≤ ·) := by
  have h := List.pairwise_mergeSort (le := fun a b : Int => decide (a ≤ b)) (by intro a b c h1 h2; simp at *; omega) (by intro a b; simp; omega) ns
  exact h.imp fun h => by simpa using h
theorem sortI_eq {ns ns' : List Int} (p : ns'.Perm ns) (h : ns'.Pairwise (· ≤ ·)) : ns' = sortI ns := sorted_unique (p.trans (sortI_perm ns).symm) h (sortI_sorted ns)
def dSorted : D → Option D
  | .list ds => (allI ds).map fun ns => .list ((sortI ns).map .int)
  | _ => none
theorem cc_sorted {K : PySem.W.Frag} : CallC K (rSortedI K) dSorted := by
  intro A H x a Q dom ra w
  unfold dSorted at w
  split at w
  · obtain ⟨d, e, w2⟩ := OkW.of_some w
    obtain ⟨ns, e2, rfl⟩ := Option.map_eq_some_iff.mp e
    obtain ⟨l, xs, rfl, q, r⟩ := ra.list_of cut_sub
    refine ⟨l, ns, rfl, by rw [← r.ints e2]; exact .of q, fun ns' p hp hs np => ?_⟩
    rw [sortI_eq hp hs]
    exact w2 _ _ (same_new np) (.lst (cut_new (dom.new np)) (RAll.ofInts _))
  · exact w.elim
/-! - -/
def dNeg : D → Option D
  | .int i => some (.int (-i))
  | _ => none
theorem de_neg (ha : DE X K mg E own a ta fa) : DE X K mg E own (.UnaryOp .USub a pos) (tUn (rU fun i => .int (-i)) ta) (un fa dNeg) :=
  ⟨pe_un un_neg ha.pe, fun O H0 ρ σ H Q e w => by
    unfold un at w
    rw [resW_bind] at w
    refine ha.ok O H0 ρ σ H _ e (w.mono (Same.refl H) fun d wd v H1 s1 r1 => ?_)
    cases d <;> first | exact wd.elim | skip
    rw [r1.int_of]
    exact ⟨_, rfl, wd _ H1 s1 (.int _)⟩⟩
/-! isinstance -/
def tyD : D → Option String
  | .none => some "NoneType"
  | .bool _ => some "bool"
  | .int _ => some "int"
  | .str _ => some "str"
  | .list _ => some "list"
  | .tuple _ => some "tuple"
  | .dict _ => none
def dIsi (T : String) (d : D) : Option D := (tyD d).bind fun n => (kitB n T).map .bool
theorem R.tyx {K : PySem.W.Frag} {H : Hp} {v : V} {d : D} {n : String} (r : R K H v d) (h : tyD d = some n) : TyX K H v (.type n) := by
  cases r <;> simp only [tyD, Option.some.injEq, reduceCtorEq] at h
  · subst h; exact .base .non
  · subst h; exact .base (.bl _)
  · subst h; exact .base (.int _)
  · subst h; exact .base (.str _)
  · subst h
    rename_i q _
    exact .base (.lst q)
  · subst h
    rename_i q _
    rcases q with (q | ⟨o, q⟩) | ⟨o, its, n, q, c, _⟩
    · exact .base (.tup q)
    · exact .fTuple q
    · exact .kTuple q c
theorem de_isi {T : String} {y : Str} {p2 : Pos} (hg : Gl X "isinstance") (hm : X.mg "isinstance" = none) (hgy : Gl X y) (hmy : X.mg y = none) (hvy : bootBuiltins y = some (.type T)) (ha : DE X K mg E own a ta fa) (hn : y ≠ "__name__" := by decide) (hdb : (y == ("__debug__" : Str)) = false := by decide)
    (he : starEach (a :: [.Name y p2]) X.env = (false, eval a X.env) :: starEach [.Name y p2] X.env := by rfl) (he2 : starEach [.Name y p2] X.env = (false, eval (.Name y p2) X.env) :: starEach [] X.env := by rfl)
    (hpl : (backTo pos (starEach [.Name y p2] X.env)).any (·.1) = false := by rfl) (hK : X.K = K := by rfl) :
    DE X K mg E own (.Call (.Name "isinstance" p) [a, .Name y p2] [] pos) (tCB (rIsi K) (tCons ta (tCons (tC (.ty T)) tNil))) (un fa (dIsi T)) := by
  subst hK
  exact ⟨pe_callB call_isi hg hm (by decide +kernel) (pa_cons ha.pe (pa_cons (pe_bltn hgy hmy hvy rfl hn hdb) pa_nil he2) he) (by decide) (by decide) he hpl, fun O H0 ρ σ H Q e w => by
    unfold un at w
    rw [resW_bind] at w
    refine ha.ok O H0 ρ σ H _ e (w.mono (Same.refl H) fun d wd v H1 s1 r1 => ?_)
    obtain ⟨z, e1, w2⟩ := OkW.of_some (okW_of wd)
    unfold dIsi at e1
    obtain ⟨n, e2, e3⟩ := Option.bind_eq_some_iff.mp e1
    obtain ⟨k, e4, rfl⟩ := Option.map_eq_some_iff.mp e3
    exact ⟨v, .ty T, .type n, .type T, k, rfl, .ty T, (r1.mono cut_sub).tyx e2, kit_ty e4, w2 _ H1 s1 (.bl _)⟩⟩
end

/-! ### new lists, new dicts: fit to be a def's own -/
def Plus (A : Addr → Prop) (p : Addr) : Addr → Prop := fun a => A a ∨ a = p
def TFok (K : PySem.W.Frag) (mg : Str → Option Value) (E : XK) (own : List Nat) (t : TE) (f : Ex) : Prop :=
  ∀ (O : Addr → Prop) (H0 : Hp) (ρ : Rho) (σ : L2.St) (H : Hp) (Q : VK), EnvOk K O H0 own ρ σ H →
    ResW mg E H (fun d => ∀ p H', Same H H' → H p = none → OwnR K (Cut (Plus (AllA O own σ) p) H') H' p d → Q (.ref p) H') (f ρ) → t σ H Q
structure DF (X : Cx) (K : PySem.W.Frag) (mg : Str → Option Value) (E : XK) (own : List Nat) (e : Expr) (t : TE) (f : Ex) : Prop where
  pe : PE X e t
  ok : TFok K mg E own t f
theorem plus_sub {A : Addr → Prop} {p : Addr} {H : Hp} : Same (Cut (Plus A p) H) (Cut A H) := cut_mono fun _ h => .inl h
theorem ownR_R {K : PySem.W.Frag} {A : Addr → Prop} {p : Addr} {H : Hp} {d : D} (h : OwnR K (Cut (Plus A p) H) H p d) (n : ¬ A p) : R K (Cut A H) (.ref p) d := by
  cases h with
  | lst x y => exact .lst (by rw [cut_out n]; exact x) (y.mono plus_sub)
  | dic x y => exact .dic (by rw [cut_out n]; exact x) (y.mono plus_sub)
theorem to_plus {A : Addr → Prop} {H H' : Hp} {p : Addr} (np : H p = none) (s : Same H H') : Same (Cut A H) (Cut (Plus A p) H') := fun a o h => by
  obtain ⟨c, e⟩ := cut_some h
  rw [cut_out]
  · exact s a o e
  · rintro (z | z)
    · exact c z
    · subst z; rw [np] at e; cases e
section
variable {X : Cx} {K : PySem.W.Frag} {mg : Str → Option Value} {E : XK} {own : List Nat} {e : Expr} {t : TE} {f : Ex} {pos : Pos}
theorem te_of_tf (h : TFok K mg E own t f) : TEok K mg E own t f := fun O H0 ρ σ H Q e w =>
  h O H0 ρ σ H Q e (w.mono (Same.refl H) fun d k p H' s np r => k _ H' s (ownR_R r (e.domA.new np)))
theorem de_of (h : DF X K mg E own e t f) : DE X K mg E own e t f := ⟨h.pe, te_of_tf h.ok⟩
theorem tf_lst {ta : TA} {g : Ax} (h : TAok K mg E own ta g) : TFok K mg E own (tLst ta) (mkLst g) := fun O H0 ρ σ H Q en w => by
    unfold mkLst at w
    rw [resW_bind] at w
    refine h O H0 ρ σ H _ en (w.mono (Same.refl H) fun ds wd vs H1 s1 r1 => ?_)
    by_cases c : ds.length ≤ sizeLine
    · rw [if_pos c] at wd
      exact ⟨by rw [r1.length]; exact c, fun p np => wd p _ (s1.trans (same_new np)) (s1.free np) (.lst upd_same (r1.mono (to_plus np (same_new np))))⟩
    · rw [if_neg c] at wd; exact wd.elim
theorem df_lst {es : List Expr} {ta : TA} {g : Ax} (h : DA X K mg E own es ta g) : DF X K mg E own (.List es pos) (tLst ta) (mkLst g) := ⟨pe_lst h.pa, tf_lst h.ok⟩
theorem df_dnew : DF X K mg E own (.Dict [] [] pos) tDNewK (kc (.dict [])) :=
  ⟨pe_dnewK, fun O H0 ρ σ H Q en w p np => w p _ (same_new np) np (.dic upd_same .nil)⟩
/-- {k: v} -/
def dOne (fk fv : Ex) : Ex := fun ρ => (fk ρ).bind fun k => (fv ρ).bind fun v => match keyOf k with
  | some q => .ok (.dict [(keyD q, v)])
  | none => .bad
theorem df_one {k v : Expr} {tk tv : TE} {fk fv : Ex} (hk : DE X K mg E own k tk fk) (hv : DE X K mg E own v tv fv) (hK : X.K = K := by rfl) : DF X K mg E own (.Dict [some k] [v] pos) (tDisp [(tk, tv)]) (dOne fk fv) := by
  subst hK
  exact ⟨pe_disp (pps_cons hk.pe hv.pe pps_nil) (by rfl) (by rfl) (fun z => by cases z) (Nat.le_of_ble_eq_true rfl), fun O H0 ρ σ H Q en w p np => by
    unfold dOne at w
    rw [resW_bind] at w
    have s0 : Same H (upd H p (.dK [])) := same_new np
    -- the dict is tracked meanwhile as something of a caller's
    have en2 : EnvOk X.K (Plus O p) (fun a => if a = p then some (.dK []) else H0 a) own ρ σ (upd H p (.dK [])) := by
      have e' := en.mono s0
      have cs : Same (Cut (AllA O own σ) H) (Cut (AllA (Plus O p) own σ) (upd H p (.dK []))) := fun a o h => by
        obtain ⟨c, e⟩ := cut_some h
        have ne : a ≠ p := ne_of_none e np
        rw [cut_out, upd_ne ne]
        · exact e
        · rintro ((z | z) | z)
          · exact c (.inl z)
          · exact ne z
          · exact c (.inr z)
      refine ⟨en.len, fun a o h => ?_, fun a h z => ?_, fun a h => ?_, e'.live, en.inj, fun i d hi q => ?_, fun i d hi q => ?_⟩
      · by_cases z : a = p
        · subst z; rw [if_pos rfl] at h; cases h; exact upd_same
        · rw [if_neg z] at h; rw [upd_ne z]; exact en.base a o h
      · by_cases y : a = p
        · rw [if_pos y] at z; cases z
        · rw [if_neg y] at z
          rcases h with h | h
          · exact en.dom a h z
          · exact y h
      · have ne : a ≠ p := fun z => en.live a h (z ▸ np)
        rw [if_neg ne]; exact en.new a h
      · obtain ⟨v, a, b⟩ := en.sh i d hi q
        exact ⟨v, a, b.mono cs⟩
      · obtain ⟨a, b, c⟩ := en.ow i d hi q
        refine ⟨a, b, ?_⟩
        cases c with
        | lst x y => exact .lst (s0 _ _ x) (y.mono cs)
        | dic x y => exact .dic (s0 _ _ x) (y.mono cs)
    refine hk.ok _ _ ρ σ _ _ en2 (w.mono s0 fun d wd kv H1 s1 r1 => ?_)
    rw [resW_bind] at wd
    refine hv.ok _ _ ρ σ H1 _ (en2.mono s1) (wd.mono (s0.trans s1) fun d2 wd2 vv H2 s2 r2 => ?_)
    have hp : H2 p = some (.dK []) := s2 _ _ (s1 _ _ upd_same)
    refine ⟨hp, ?_⟩
    cases q : keyOf d with
    | none => rw [q] at wd2; exact wd2.elim
    | some k =>
      rw [q] at wd2
      refine ⟨[(k, vv)], by rw [List.map_cons, List.map_nil, ← r1.key q], Nat.le_of_ble_eq_true rfl, ?_⟩
      refine wd2 p _ (fun a o h => ?_) np (.dic (kvs := mergeK [] [(k, vv)]) upd_same ?_)
      · rw [upd_ne (ne_of_none h np)]; exact (s0.trans (s1.trans s2)) a o h
      · have e : mergeK [] [(k, vv)] = [(k, vv)] := rfl
        rw [e]
        refine .cons (r2.mono fun a o h => ?_) .nil
        obtain ⟨c, e⟩ := cut_some h
        have ne : a ≠ p := fun z => c (.inl (.inr z))
        rw [cut_out, upd_ne ne]
        · exact e
        · rintro ((z | z) | z)
          · exact c (.inl (.inl z))
          · exact c (.inr z)
          · exact ne z⟩
/-- list(x) -/
def dList : D → Option D
  | .list ds => some (.list ds)
  | .tuple ds => some (.list ds)
  | .dict kvs => if isDic kvs = true then some (.list (kvs.map (·.1))) else none
  | _ => none
def rListR : List V → Hp → VK → Prop := fun xs H Q => ∃ (a : Addr) (kvs : List (Key × V)), xs = [.ref a] ∧ Rd H a (.dK kvs) ∧ ∀ p, H p = none → Q (.ref p) (upd H p (.lst (kvs.map fun kv => kV kv.1)))
def rListA (K : PySem.W.Frag) : List V → Hp → VK → Prop := fun xs H Q => (∃ p ys, xs = [.ref p] ∧ (SqL K H p ys ∨ SqT K H p ys) ∧ ∀ l, H l = none → Q (.ref l) (upd H l (.lst ys))) ∨ rListR xs H Q
theorem call_listA (hc : X.calm = true) : CallR X (.type "list") (rListA X.K) := call_list_of.or (call_listD hc)
theorem df_list {a : Expr} {ta : TE} {fa : Ex} {p : Pos} (hc : X.calm = true) (hg : Gl X "list") (hm : X.mg "list" = none) (ha : DC X K mg E own a ta fa)
    (he : starEach (a :: []) X.env = (false, eval a X.env) :: starEach [] X.env := by rfl) (hpl : (backTo pos (starEach [] X.env)).any (·.1) = false := by rfl) (hK : X.K = K := by rfl) : DF X K mg E own (.Call (.Name "list" p) [a] [] pos) (tCB (rListA K) (tCons ta tNil)) (un fa dList) := by
  subst hK
  exact ⟨pe_callTy (call_listA hc) hg hm (by decide +kernel) (pa_cons ha.pe pa_nil he) (by decide) (by decide) he hpl, fun O H0 ρ σ H Q en w => by
    unfold un at w
    rw [resW_bind] at w
    refine ha.ok O H0 ρ σ H _ en (w.mono (Same.refl H) fun d wd v1 H1 s1 r1 => ?_)
    replace wd := okW_of wd
    unfold dList at wd
    split at wd
    · obtain ⟨l, xs, rfl, q, r⟩ := r1.list_of cut_sub
      exact .inl ⟨l, xs, rfl, .inl (.of q), fun p np => wd p _ (s1.trans (same_new np)) (s1.free np) (.lst upd_same (r.mono (to_plus np (same_new np))))⟩
    · obtain ⟨l, xs, rfl, q, r⟩ := r1.tuple_of cut_sub
      exact .inl ⟨l, xs, rfl, .inr q, fun p np => wd p _ (s1.trans (same_new np)) (s1.free np) (.lst upd_same (r.mono (to_plus np (same_new np))))⟩
    · obtain ⟨c, wd⟩ := okW_if wd
      obtain ⟨l, kvs, rfl, q, r⟩ := r1.dict_of cut_sub c
      exact .inr ⟨l, kvs, rfl, q, fun p np => wd p _ (s1.trans (same_new np)) (s1.free np) (.lst upd_same (r.keys.mono (to_plus np (same_new np))))⟩
    · exact wd.elim⟩
/-- xs + ys -/
def dCat : D → D → Option D
  | .list xs, .list ys => if xs.length + ys.length ≤ sizeLine then some (.list (xs ++ ys)) else none
  | _, _ => none
theorem df_cat {a b : Expr} {ta tb : TE} {fa fb : Ex} (ha : DE X K mg E own a ta fa) (hb : DE X K mg E own b tb fb) : DF X K mg E own (.BinOp a .Add b pos) (tOp rCat ta tb) (bin fa fb dCat) :=
  ⟨pe_op op_cat ha.pe hb.pe, fun O H0 ρ σ H Q en w => by
    unfold bin at w
    rw [resW_bind] at w
    refine ha.ok O H0 ρ σ H _ en (w.mono (Same.refl H) fun a wa v1 H1 s1 r1 => ?_)
    rw [resW_bind] at wa
    refine hb.ok O H0 ρ σ H1 _ (en.mono s1) (wa.mono s1 fun b wb v2 H2 s2 r2 => ?_)
    replace wb := okW_of wb
    unfold dCat at wb
    split at wb
    · obtain ⟨c, wb⟩ := okW_if wb
      obtain ⟨l, xs, rfl, q1, r1⟩ := r1.list_of
      obtain ⟨l2, ys, rfl, q2, r2⟩ := r2.list_of
      exact ⟨l, l2, xs, ys, rfl, rfl, s2 _ _ (cut_sub _ _ q1), cut_sub _ _ q2, by rw [r1.length, r2.length]; exact c, fun p np =>
        wb p _ ((s1.trans s2).trans (same_new np)) ((s1.trans s2).free np) (.lst upd_same (((r1.mono (cut_same s2)).append r2).mono (to_plus np (same_new np))))⟩
    · exact wb.elim⟩
end
/-- the name takes it as its own -/
theorem EnvOk.setNew {K : PySem.W.Frag} {O : Addr → Prop} {H0 H H' : Hp} {own : List Nat} {ρ : Rho} {σ : L2.St} (e : EnvOk K O H0 own ρ σ H) {i : Nat} {p : Addr} {d : D} (h : i ∉ own) (s : Same H H') (np : H p = none)
    (r : OwnR K (Cut (Plus (AllA O own σ) p) H') H' p d) : EnvOk K O H0 (i :: own) (ρ.set i (some d)) (σ.set i (some (.ref p))) H' := by
  have hp : H' p ≠ none := by cases r with
    | lst x _ => rw [x]; intro z; cases z
    | dic x _ => rw [x]; intro z; cases z
  have mo : Same (Cut (AllA O own σ) H) (Cut (AllA O (i :: own) (σ.set i (some (.ref p)))) H') := fun a x z => by
    obtain ⟨c, q⟩ := cut_some z
    have na : a ≠ p := ne_of_none q np
    rw [cut_out]
    · exact s _ _ q
    · rintro (w | w)
      · exact c (.inl w)
      · rcases own_put h w with w | w
        · exact na w
        · exact c (.inr w)
  have mo2 : Same (Cut (Plus (AllA O own σ) p) H') (Cut (AllA O (i :: own) (σ.set i (some (.ref p)))) H') := cut_mono fun a z => by
    rcases z with z | z
    · exact .inl (.inl z)
    · rcases own_put h z with w | w
      · exact .inr w
      · exact .inl (.inr w)
  have em := e.mono s
  refine ⟨by rw [List.length_set, List.length_set]; exact e.len, e.base.trans s, e.dom, fun a z => ?_, fun a z => ?_, fun j k a m m' q q' => ?_, fun j d' m q => ?_, fun j d' m q => ?_⟩
  · rcases own_put h z with w | w
    · subst w; exact e.base.free np
    · exact e.new a w
  · rcases own_put h z with w | w
    · subst w; exact hp
    · exact em.live a w
  · by_cases c : i = j
    · by_cases c' : i = k
      · exact c.symm.trans c'
      · rw [List.getElem?_set_ne c'] at q'
        have m2 : k ∈ own := (List.mem_cons.mp m').resolve_left fun z => c' z.symm
        subst c
        by_cases l : i < σ.length
        · rw [List.getElem?_set_self l] at q
          cases q
          exact (e.live _ ⟨k, m2, q'⟩ np).elim
        · rw [List.getElem?_eq_none (by rw [List.length_set]; omega)] at q; cases q
    · rw [List.getElem?_set_ne c] at q
      have m1 : j ∈ own := (List.mem_cons.mp m).resolve_left fun z => c z.symm
      by_cases c' : i = k
      · subst c'
        by_cases l : i < σ.length
        · rw [List.getElem?_set_self l] at q'
          cases q'
          exact (e.live _ ⟨j, m1, q⟩ np).elim
        · rw [List.getElem?_eq_none (by rw [List.length_set]; omega)] at q'; cases q'
      · rw [List.getElem?_set_ne c'] at q'
        exact e.inj j k a m1 ((List.mem_cons.mp m').resolve_left fun z => c' z.symm) q q'
  · have c : i ≠ j := fun z => m (List.mem_cons.mpr (.inl z.symm))
    rw [List.getElem?_set_ne c] at q ⊢
    obtain ⟨v, a, b⟩ := e.sh j d' (fun z => m (List.mem_cons.mpr (.inr z))) q
    exact ⟨v, a, b.mono mo⟩
  · by_cases c : i = j
    · subst c
      by_cases l : i < ρ.length
      · rw [List.getElem?_set_self l] at q
        cases q
        refine ⟨p, by rw [List.getElem?_set_self (by rw [e.len]; exact l)], ?_⟩
        cases r with
        | lst x y => exact .lst x (y.mono mo2)
        | dic x y => exact .dic x (y.mono mo2)
      · rw [List.getElem?_eq_none (by rw [List.length_set]; omega)] at q; cases q
    · rw [List.getElem?_set_ne c] at q ⊢
      obtain ⟨a, b, r'⟩ := e.ow j d' ((List.mem_cons.mp m).resolve_left fun z => c z.symm) q
      refine ⟨a, b, ?_⟩
      cases r' with
      | lst x y => exact .lst (s _ _ x) (y.mono mo)
      | dic x y => exact .dic (s _ _ x) (y.mono mo)
end DL
end

section
set_option Elab.async false
set_option linter.all false
set_option maxRecDepth 100000
set_option maxHeartbeats 2000000
set_option autoImplicit false
/-! DL5: what is walked, targets, comprehensions, statements, defs. -/
namespace DL
open PySem PySem.Spec PyProof.Rows L2

/-! ### what is walked -/
structure ItOk (K : PySem.W.Frag) (Hb : Hp) (J : It) (items : List D) : Prop where
  go : ∀ i H, i < items.length → Same Hb H → J.go i H
  stop : ∀ H, Same Hb H → J.stop items.length H
  yld : ∀ i d x H H', items[i]? = some d → Same Hb H → J.yld i H x H' → Same H H' ∧ ∀ A : Addr → Prop, Dom A H → (∀ a, A a → Hb a = none) → R K (Cut A H') x d
def TIok (K : PySem.W.Frag) (mg : Str → Option Value) (E : XK) (own : List Nat) (wi : TI) (f : Ax) : Prop :=
  ∀ (O : Addr → Prop) (H0 : Hp) (ρ : Rho) (σ : L2.St) (H : Hp) (W : It → Hp → Prop), EnvOk K O H0 own ρ σ H →
    ResW mg E H (fun items => ∀ J H', Same H H' → ItOk K (Cut (AllA O own σ) H') J items → W J H') (f ρ) → wi σ H W
structure DI (X : Cx) (K : PySem.W.Frag) (mg : Str → Option Value) (E : XK) (own : List Nat) (tg it : Expr) (wi : TI) (f : Ax) : Prop where
  pi : PI X tg it wi
  ok : TIok K mg E own wi f
theorem cut_back {A A' : Addr → Prop} {H H' : Hp} (s : Same (Cut A H) H') (h : ∀ a, A' a → Cut A H a = none) : Same (Cut A H) (Cut A' H') := fun a o e => by
  rw [cut_out]
  · exact s a o e
  · intro z; rw [h a z] at e; cases e
section
variable {X : Cx} {K : PySem.W.Frag} {mg : Str → Option Value} {E : XK} {own : List Nat} {tg a b : Expr} {ta tb : TE} {fa fb : Ex} {p pos : Pos}
def itL (fa : Ex) : Ax := fun ρ => (fa ρ).bind fun d => match d with
  | .list ds => .ok ds
  | _ => .bad
def itT (fa : Ex) : Ax := fun ρ => (fa ρ).bind fun d => match d with
  | .tuple ds => .ok ds
  | _ => .bad
theorem itOk_list {K : PySem.W.Frag} {Hb : Hp} {l : Addr} {xs : List V} {ds : List D} (q : Hb l = some (.lst xs)) (r : RAll K Hb xs ds) : ItOk K Hb (Itl K l) ds := by
  have uq : ∀ {H : Hp} {ys : List V}, Same Hb H → ∀ zs, SqL K H l zs → (∀ ws, SqL K H l ws → ws[0]? = ws[0]?) → True := fun _ _ _ _ => trivial
  refine ⟨fun i H hi s => ?_, fun H s => ⟨xs, .of (s _ _ q), by rw [r.length]; exact Nat.le_refl _⟩, fun i d x H H' hd s y => ?_⟩
  · have hi' : i < xs.length := by rw [r.length]; exact hi
    exact ⟨xs, xs[i], .of (s _ _ q), by simp [hi']⟩
  · obtain ⟨e, y⟩ := y
    subst e
    obtain ⟨v, hv, rv⟩ := r.get hd
    have := y xs (.of (s _ _ q))
    rw [hv] at this
    cases this
    exact ⟨Same.refl _, fun A dm ha => rv.mono fun b o h => by rw [cut_out]; exact s b o h; intro z; rw [ha b z] at h; cases h⟩
theorem itOk_tup {K : PySem.W.Frag} {Hb : Hp} {l : Addr} {xs : List V} {ds : List D} (q : SqT K Hb l xs) (r : RAll K Hb xs ds) : ItOk K Hb (Itt K l) ds := by
  refine ⟨fun i H hi s => ?_, fun H s => ⟨xs, sqT_same s q, by rw [r.length]; exact Nat.le_refl _⟩, fun i d x H H' hd s y => ?_⟩
  · have hi' : i < xs.length := by rw [r.length]; exact hi
    exact ⟨xs, xs[i], sqT_same s q, by simp [hi']⟩
  · obtain ⟨e, y⟩ := y
    subst e
    obtain ⟨v, hv, rv⟩ := r.get hd
    have := y xs (sqT_same s q)
    rw [hv] at this
    cases this
    exact ⟨Same.refl _, fun A dm ha => rv.mono fun b o h => by rw [cut_out]; exact s b o h; intro z; rw [ha b z] at h; cases h⟩
theorem di_list (ha : DE X K mg E own a ta fa) (hK : X.K = K := by rfl) : DI X K mg E own tg a (iList K ta) (itL fa) := by
  subst hK
  exact ⟨pi_list ha.pe, fun O H0 ρ σ H W e w => by
    unfold itL at w
    rw [resW_bind] at w
    refine ha.ok O H0 ρ σ H _ e (w.mono (Same.refl H) fun d wd v H1 s1 r1 => ?_)
    cases d <;> first | exact wd.elim | skip
    obtain ⟨l, xs, rfl, q, r⟩ := r1.list_of
    exact ⟨l, rfl, ⟨xs, .of (cut_sub _ _ q)⟩, wd _ H1 s1 (itOk_list q r)⟩⟩
theorem di_tup (ha : DE X K mg E own a ta fa) (hK : X.K = K := by rfl) : DI X K mg E own tg a (iTup K ta) (itT fa) := by
  subst hK
  exact ⟨pi_tup ha.pe, fun O H0 ρ σ H W e w => by
    unfold itT at w
    rw [resW_bind] at w
    refine ha.ok O H0 ρ σ H _ e (w.mono (Same.refl H) fun d wd v H1 s1 r1 => ?_)
    cases d <;> first | exact wd.elim | skip
    obtain ⟨l, xs, rfl, q, r⟩ := r1.tuple_of
    exact ⟨l, rfl, ⟨xs, sqT_same cut_sub q⟩, wd _ H1 s1 (itOk_tup q r)⟩⟩
/-- range(n), range(a, b) -/
def rangeD (lo : Int) (n : Nat) : List D := (List.range n).map fun i => .int (lo + (i : Nat))
theorem itOk_rng {K : PySem.W.Frag} {Hb : Hp} {lo : Int} {n : Nat} : ItOk K Hb (Itr lo n) (rangeD lo n) := by
  have hl : (rangeD lo n).length = n := by unfold rangeD; rw [List.length_map, List.length_range]
  refine ⟨fun i H hi s => by rw [hl] at hi; exact hi, fun H s => by rw [hl]; exact Nat.le_refl _, fun i d x H H' hd s y => ?_⟩
  obtain ⟨e, rfl⟩ := y
  subst e
  unfold rangeD at hd
  rw [List.getElem?_map] at hd
  obtain ⟨j, e1, rfl⟩ := Option.map_eq_some_iff.mp hd
  have hi : i < n := by
    have := (List.getElem?_eq_some_iff.mp e1).1
    rwa [List.length_range] at this
  rw [List.getElem?_range hi] at e1
  cases e1
  exact ⟨Same.refl _, fun A _ _ => .int _⟩
def itR1 (fa : Ex) : Ax := fun ρ => (fa ρ).bind fun d => match d with
  | .int n => if n < 1000000000 ∧ -1000000000 < n then .ok (rangeD 0 n.toNat) else .bad
  | _ => .bad
def itR2 (fa fb : Ex) : Ax := fun ρ => (fa ρ).bind fun d => (fb ρ).bind fun e => match d, e with
  | .int m, .int n => if n < 1000000000 ∧ -1000000000 < n ∧ m < 1000000000 ∧ -1000000000 < m then .ok (rangeD m (n - m).toNat) else .bad
  | _, _ => .bad
theorem di_range1 (hg : Gl X "range") (hm : X.mg "range" = none) (ha : DE X K mg E own a ta fa) (he : starEach (a :: []) X.env = (false, eval a X.env) :: starEach [] X.env := by rfl) (hs : starEach [a] X.env = [(false, eval a X.env)] := by rfl) :
    DI X K mg E own tg (.Call (.Name "range" p) [a] [] pos) (iRng1 (tCons ta tNil)) (itR1 fa) :=
  ⟨pi_range1 hg hm (pa_cons ha.pe pa_nil he) hs, fun O H0 ρ σ H W e w => by
    unfold itR1 at w
    rw [resW_bind] at w
    refine ha.ok O H0 ρ σ H _ e (w.mono (Same.refl H) fun d wd v H1 s1 r1 => ?_)
    cases d <;> first | exact wd.elim | skip
    rename_i n
    rw [r1.int_of]
    replace wd : ResW _ _ _ _ (if n < 1000000000 ∧ -1000000000 < n then .ok (rangeD 0 n.toNat) else .bad) := wd
    by_cases c : n < 1000000000 ∧ -1000000000 < n
    · rw [if_pos c] at wd
      exact ⟨n, rfl, by omega, by omega, wd _ H1 s1 itOk_rng⟩
    · rw [if_neg c] at wd; exact wd.elim⟩
theorem di_range2 (hg : Gl X "range") (hm : X.mg "range" = none) (ha : DE X K mg E own a ta fa) (hb : DE X K mg E own b tb fb) (he : starEach (a :: [b]) X.env = (false, eval a X.env) :: starEach [b] X.env := by rfl) (he2 : starEach (b :: []) X.env = (false, eval b X.env) :: starEach [] X.env := by rfl)
    (hs : starEach [a, b] X.env = [(false, eval a X.env), (false, eval b X.env)] := by rfl) (hs2 : starEach [b] X.env = [(false, eval b X.env)] := by rfl) :
    DI X K mg E own tg (.Call (.Name "range" p) [a, b] [] pos) (iRng2 (tCons ta (tCons tb tNil))) (itR2 fa fb) :=
  ⟨pi_range2 hg hm (pa_cons ha.pe (pa_cons hb.pe pa_nil he2) he) hs hs2, fun O H0 ρ σ H W e w => by
    unfold itR2 at w
    rw [resW_bind] at w
    refine ha.ok O H0 ρ σ H _ e (w.mono (Same.refl H) fun d wd v H1 s1 r1 => ?_)
    rw [resW_bind] at wd
    refine hb.ok O H0 ρ σ H1 _ (e.mono s1) (wd.mono s1 fun d2 wd v2 H2 s2 r2 => ?_)
    cases d <;> first | exact wd.elim | skip
    cases d2 <;> first | exact wd.elim | skip
    rename_i m _ n
    rw [r1.int_of, r2.int_of]
    replace wd : ResW _ _ _ _ (if n < 1000000000 ∧ -1000000000 < n ∧ m < 1000000000 ∧ -1000000000 < m then .ok (rangeD m (n - m).toNat) else .bad) := wd
    by_cases c : n < 1000000000 ∧ -1000000000 < n ∧ m < 1000000000 ∧ -1000000000 < m
    · rw [if_pos c] at wd
      exact ⟨m, n, rfl, ⟨by omega, by omega, by omega, by omega⟩, wd _ H2 (s1.trans s2) itOk_rng⟩
    · rw [if_neg c] at wd; exact wd.elim⟩
end

/-! ### targets -/
inductive Tgt where
  | nm (i : Nat)
  | tp (is : List Nat)
def putAll : List Nat → List D → Rho → Option Rho
  | [], [], ρ => some ρ
  | i :: is, d :: ds, ρ => putAll is ds (ρ.set i (some d))
  | _, _, _ => none
def Tgt.put : Tgt → D → Rho → Option Rho
  | .nm i, d, ρ => some (ρ.set i (some d))
  | .tp is, .tuple ds, ρ => putAll is ds ρ
  | _, _, _ => none
def Tgt.slots : Tgt → List Nat
  | .nm i => [i]
  | .tp is => is
/-- σ' differs from σ at the slots is alone -/
def Diff (is : List Nat) (σ σ' : L2.St) : Prop := σ'.length = σ.length ∧ ∀ i, i ∉ is → σ'[i]? = σ[i]?
def TGok (K : PySem.W.Frag) (own : List Nat) (g : TG) (tg : Tgt) : Prop :=
  ∀ (O : Addr → Prop) (H0 : Hp) (ρ : Rho) (σ : L2.St) (H : Hp) (v : V) (d : D) (Q : L2.St → Hp → Prop), EnvOk K O H0 own ρ σ H → R K (Cut (AllA O own σ) H) v d →
    OkW (fun ρ' => ∀ σ', Diff tg.slots σ σ' → AllA O own σ' = AllA O own σ → EnvOk K O H0 own ρ' σ' H → Q σ' H) (tg.put d ρ) → g v σ H Q
structure DG (X : Cx) (K : PySem.W.Frag) (own : List Nat) (e : Expr) (g : TG) (tg : Tgt) : Prop where
  pg : PG X e g
  ok : TGok K own g tg
theorem diff_set {i : Nat} {σ : L2.St} {o : Option V} {is : List Nat} (h : i ∈ is) : Diff is σ (σ.set i o) := ⟨List.length_set, fun j hj => List.getElem?_set_ne fun z => hj (by rw [← z]; exact h)⟩
theorem Diff.trans {is : List Nat} {a b c : L2.St} (h : Diff is a b) (k : Diff is b c) : Diff is a c := ⟨k.1.trans h.1, fun i hi => (k.2 i hi).trans (h.2 i hi)⟩
section
variable {X : Cx} {K : PySem.W.Frag} {own : List Nat} {pos : Pos}
theorem dg_name {i : Nat} {x : Str} (hi' : i ∉ own := by decide) (hN : X.N.Nodup) (hi : X.N[i]? = some x := by rfl) (hx : Loc X.env.scope x := by first | exact Or.inl rfl | exact Or.inr rfl) (hf : X.fn x = true ∨ X.env.scope.names.lookup x = some .local := by first | exact .inl rfl | exact .inr rfl | assumption) :
    DG X K own (.Name x pos) (gName i) (.nm i) :=
  ⟨pg_name hN hi hx hf, fun O H0 ρ σ H v d Q e r w => w _ (diff_set List.mem_cons_self) (all_set hi') (e.setSh hi' r)⟩
def TGsOk (K : PySem.W.Frag) (own : List Nat) (g : TGs) (is : List Nat) : Prop :=
  ∀ (O : Addr → Prop) (H0 : Hp) (ρ : Rho) (σ : L2.St) (H : Hp) (vs : List V) (ds : List D) (Q : L2.St → Hp → Prop), EnvOk K O H0 own ρ σ H → RAll K (Cut (AllA O own σ) H) vs ds →
    OkW (fun ρ' => ∀ σ', Diff is σ σ' → AllA O own σ' = AllA O own σ → EnvOk K O H0 own ρ' σ' H → Q σ' H) (putAll is ds ρ) → g vs σ H Q
structure DGs (X : Cx) (K : PySem.W.Frag) (own : List Nat) (es : List Expr) (g : TGs) (is : List Nat) : Prop where
  pg : PGs X es g
  ok : TGsOk K own g is
theorem dgs_nil : DGs X K own [] gNil [] := ⟨pgs_nil, fun O H0 ρ σ H vs ds Q e r w => by
  cases r with
  | nil => exact ⟨rfl, w σ ⟨rfl, fun _ _ => rfl⟩ rfl e⟩
  | cons _ _ => exact w.elim⟩
theorem dgs_cons {e : Expr} {es : List Expr} {t : TG} {u : TGs} {i : Nat} {is : List Nat} (h1 : DG X K own e t (.nm i)) (h2 : DGs X K own es u is)
    (hs : (assignEach (e :: es) X.env).map (·.2) = assign e X.env :: (assignEach es X.env).map (·.2) := by rfl) : DGs X K own (e :: es) (gCons t u) (i :: is) :=
  ⟨pgs_cons h1.pg h2.pg hs, fun O H0 ρ σ H vs ds Q e r w => by
    cases r with
    | nil => exact w.elim
    | cons r rs =>
      refine ⟨_, _, rfl, h1.ok O H0 ρ σ H _ _ _ e r ?_⟩
      intro σ1 d1 a1 e1
      refine h2.ok O H0 _ σ1 H _ _ Q e1 (by rw [a1]; exact rs) (OkW.mono w fun ρ' k σ' d2 a2 e2 => k σ' ?_ (a2.trans a1) e2)
      refine ⟨d2.1.trans d1.1, fun j hj => (d2.2 j fun z => hj (List.mem_cons_of_mem _ z)).trans (d1.2 j fun z => hj ?_)⟩
      have z : j ∈ [i] := z
      rw [List.mem_singleton.mp z]
      exact List.mem_cons_self⟩
theorem RAll_len {K : PySem.W.Frag} {H : Hp} {vs : List V} {ds : List D} (h : RAll K H vs ds) : vs.length = ds.length := h.length
theorem putAll_len : ∀ {is : List Nat} {ds : List D} {ρ ρ' : Rho}, putAll is ds ρ = some ρ' → is.length = ds.length
  | [], [], _, _, _ => rfl
  | i :: is, d :: ds, ρ, ρ', h => by rw [List.length_cons, List.length_cons, putAll_len (is := is) (ds := ds) h]
  | [], _ :: _, _, _, h => by cases h
  | _ :: _, [], _, _, h => by cases h
theorem dg_tup {es : List Expr} {k : Nat} {t : TGs} {is : List Nat} (hc : X.calm = true) (h : DGs X K own es t is) (hl : es.length = is.length := by rfl)
    (hn : (assignEach es X.env).length = es.length := by rfl) (hst : (assignEach es X.env).findIdx? (·.1) = none := by rfl) (hK : X.K = K := by rfl) : DG X K own (.Tuple es k pos) (gTup K es.length t) (.tp is) := by
  subst hK
  exact ⟨pg_tup hc h.pg hn hst, fun O H0 ρ σ H v d Q e r w => by
    cases d <;> first | exact w.elim | skip
    rename_i ds
    obtain ⟨a, xs, rfl, q, rs⟩ := r.tuple_of
    refine ⟨a, xs, rfl, sqT_same cut_sub q, ?_, h.ok O H0 ρ σ H xs ds Q e rs w⟩
    obtain ⟨ρ', e1, _⟩ := OkW.of_some w
    rw [rs.length, hl]
    exact (putAll_len e1).symm⟩
end

/-! ### comprehensions -/
def wipeR (ρ : Rho) : List Nat → Rho
  | [] => ρ
  | v :: vs => (wipeR ρ vs).set v none
theorem wipeR_length (ρ : Rho) : ∀ vs, (wipeR ρ vs).length = ρ.length
  | [] => rfl
  | v :: vs => by unfold wipeR; rw [List.length_set, wipeR_length ρ vs]
theorem wipeR_get {ρ : Rho} {i : Nat} {d : D} : ∀ {vs : List Nat}, (wipeR ρ vs)[i]? = some (some d) → ρ[i]? = some (some d) ∧ i ∉ vs
  | [], h => ⟨h, by simp⟩
  | v :: vs, h => by
    unfold wipeR at h
    by_cases hi : v = i
    · subst hi
      by_cases hv : v < (wipeR ρ vs).length
      · rw [List.getElem?_set_self hv] at h; cases h
      · rw [List.getElem?_eq_none (by rw [List.length_set]; omega)] at h; cases h
    · rw [List.getElem?_set_ne hi] at h
      obtain ⟨h1, h2⟩ := wipeR_get h
      exact ⟨h1, fun m => by rcases List.mem_cons.mp m with z | z; exact hi z.symm; exact h2 z⟩
theorem wipe_get {σ : L2.St} {i : Nat} : ∀ {vs : List Nat}, i ∉ vs → (wipe σ vs)[i]? = σ[i]?
  | [], _ => rfl
  | v :: vs, h => by
    show ((wipe σ vs).set v none)[i]? = _
    have e : v ≠ i := fun z => h (by rw [z]; exact List.mem_cons_self)
    rw [List.getElem?_set_ne e, wipe_get fun z => h (List.mem_cons_of_mem _ z)]
theorem wipe_none {σ : L2.St} {i : Nat} : ∀ {vs : List Nat}, i ∈ vs → i < σ.length → (wipe σ vs)[i]? = some none
  | v :: vs, h, hl => by
    show ((wipe σ vs).set v none)[i]? = _
    by_cases e : v = i
    · subst e
      rw [List.getElem?_set_self (by rw [wipe_length]; exact hl)]
    · rw [List.getElem?_set_ne e]
      exact wipe_none ((List.mem_cons.mp h).resolve_left fun z => e z.symm) hl
theorem wipe_eq {σ σ' : L2.St} {vs is : List Nat} (d : Diff is (wipe σ vs) σ') (h : ∀ i ∈ is, i ∈ vs) : wipe σ' vs = wipe σ vs := by
  have hl : σ'.length = σ.length := d.1.trans (wipe_length σ vs)
  apply List.ext_getElem?
  intro i
  by_cases m : i ∈ vs
  · by_cases l : i < σ.length
    · rw [wipe_none m l, wipe_none m (by rw [hl]; exact l)]
    · rw [List.getElem?_eq_none (by rw [wipe_length]; omega), List.getElem?_eq_none (by rw [wipe_length]; omega)]
  · rw [wipe_get m, wipe_get m, d.2 i fun z => m (h i z), wipe_get m]
theorem own_wipe {own vs : List Nat} {σ : L2.St} (h : ∀ i ∈ vs, i ∉ own) {a : Addr} : OwnA own (wipe σ vs) a ↔ OwnA own σ a := by
  constructor
  · rintro ⟨i, m, q⟩
    exact ⟨i, m, by rw [wipe_get fun z => h i z m] at q; exact q⟩
  · rintro ⟨i, m, q⟩
    exact ⟨i, m, by rw [wipe_get fun z => h i z m]; exact q⟩
theorem all_wipe {O : Addr → Prop} {own vs : List Nat} {σ : L2.St} (h : ∀ i ∈ vs, i ∉ own) : AllA O own (wipe σ vs) = AllA O own σ := by
  funext a
  exact propext (or_congr Iff.rfl (own_wipe h))
theorem EnvOk.wipe {K : PySem.W.Frag} {O : Addr → Prop} {H0 H : Hp} {own vs : List Nat} {ρ : Rho} {σ : L2.St} (e : EnvOk K O H0 own ρ σ H) (h : ∀ i ∈ vs, i ∉ own) : EnvOk K O H0 own (wipeR ρ vs) (L2.wipe σ vs) H where
  len := by rw [wipe_length, wipeR_length]; exact e.len
  base := e.base
  dom := e.dom
  new := fun a z => e.new a ((own_wipe h).mp z)
  live := fun a z => e.live a ((own_wipe h).mp z)
  inj := fun i j a m m' q q' => by
    rw [wipe_get fun z => h i z m] at q
    rw [wipe_get fun z => h j z m'] at q'
    exact e.inj i j a m m' q q'
  sh := fun i d m q => by
    obtain ⟨q1, q2⟩ := wipeR_get q
    rw [all_wipe h, wipe_get q2]
    exact e.sh i d m q1
  ow := fun i d m q => by
    obtain ⟨q1, q2⟩ := wipeR_get q
    rw [all_wipe h, wipe_get q2]
    exact e.ow i d m q1
def compL (tg : Tgt) (ft : Tx) (fe : Ex) (ρ : Rho) : List D → Res (List D)
  | [] => .ok []
  | d :: r => match tg.put d ρ with
    | none => .bad
    | some ρ' => (ft ρ').calm.bind fun b => if b = true then (fe ρ').calm.bind fun x => (compL tg ft fe ρ r).bind fun xs => .ok (x :: xs) else compL tg ft fe ρ r
def comp (vs : List Nat) (tg : Tgt) (fi : Ax) (ft : Tx) (fe : Ex) : Ex := fun ρ => (fi ρ).bind fun items => if items.length ≤ sizeLine then (compL tg ft fe (wipeR ρ vs) items).bind fun ds => .ok (.list ds) else .bad
/-- the state a comprehension's block sees: what a caller owns, and the list that is made -/
theorem EnvOk.under {K : PySem.W.Frag} {O : Addr → Prop} {H0 H H' : Hp} {own : List Nat} {ρ : Rho} {σ : L2.St} {p : Addr} (e : EnvOk K O H0 own ρ σ H) (np : H p = none) (s : Same H H') (hp : H' p ≠ none) :
    EnvOk K (Plus O p) (fun a => if a = p then H' p else H0 a) own ρ σ H' := by
  have cs : Same (Cut (AllA O own σ) H) (Cut (AllA (Plus O p) own σ) H') := fun a o h => by
    obtain ⟨c, q⟩ := cut_some h
    rw [cut_out]
    · exact s a o q
    · rintro ((z | z) | z)
      · exact c (.inl z)
      · subst z; rw [np] at q; cases q
      · exact c (.inr z)
  refine ⟨e.len, fun a o h => ?_, fun a h z => ?_, fun a h => ?_, (e.mono s).live, e.inj, fun i d hi q => ?_, fun i d hi q => ?_⟩
  · by_cases z : a = p
    · subst z; rw [if_pos rfl] at h; exact h
    · rw [if_neg z] at h; exact s _ _ (e.base a o h)
  · by_cases y : a = p
    · subst y; rw [if_pos rfl] at z; exact hp z
    · rw [if_neg y] at z
      rcases h with h | h
      · exact e.dom a h z
      · exact y h
  · have ne : a ≠ p := fun z => e.live a h (z ▸ np)
    rw [if_neg ne]; exact e.new a h
  · obtain ⟨v, a, b⟩ := e.sh i d hi q
    exact ⟨v, a, b.mono cs⟩
  · obtain ⟨a, b, c⟩ := e.ow i d hi q
    refine ⟨a, b, ?_⟩
    cases c with
    | lst x y => exact .lst (s _ _ x) (y.mono cs)
    | dic x y => exact .dic (s _ _ x) (y.mono cs)
theorem all_under {O : Addr → Prop} {own : List Nat} {σ : L2.St} {p : Addr} : AllA (Plus O p) own σ = Plus (AllA O own σ) p := by
  funext a
  exact propext ⟨fun h => by rcases h with (h | h) | h; exact .inl (.inl h); exact .inr h; exact .inl (.inr h), fun h => by rcases h with (h | h) | h; exact .inl (.inl h); exact .inr h; exact .inl (.inr h)⟩
abbrev E0' : XK := fun _ _ _ => False
theorem resW_calm {α : Type} {mg : Str → Option Value} {E E' : XK} {H : Hp} {P : α → Prop} {x : Res α} (h : ResW mg E H P x.calm) : ResW mg E' H P x := by
  cases x with
  | ok a => exact h
  | exc c => exact h.elim
  | bad => exact h.elim
section
variable {K : PySem.W.Frag} {mg : Str → Option Value} {E : XK} {own vs : List Nat} {wi : TI} {g : TG} {tt : TT} {te : TE} {tg : Tgt} {fi : Ax} {ft : Tx} {fe : Ex}
theorem tf_lc (hi : TIok K mg E own wi fi) (hg : TGok K own g tg) (ht : TTok K mg E0' own tt ft) (he : TEok K mg E0' own te fe) (hv : ∀ i ∈ vs, i ∉ own) (hs : ∀ i ∈ tg.slots, i ∈ vs) : TFok K mg E own (tLc wi g tt te vs) (comp vs tg fi ft fe) := fun O H0 ρ σ H Q en w => by
  unfold comp at w
  rw [resW_bind] at w
  refine hi O H0 ρ σ H _ en (w.mono (Same.refl H) fun items wi J H1 s1 it => ?_)
  by_cases cz : items.length ≤ sizeLine
  case neg => rw [if_neg cz] at wi; exact wi.elim
  rw [if_pos cz] at wi
  intro Dl nD
  generalize hA : AllA O own σ = A at it wi
  have fin : ∃ ds, compL tg ft fe (wipeR ρ vs) items = .ok ds ∧ ∀ p H', Same H H' → H p = none → OwnR K (Cut (Plus A p) H') H' p (.list ds) → Q (.ref p) H' := by
    cases q : compL tg ft fe (wipeR ρ vs) items with
    | ok ds => rw [q] at wi; exact ⟨ds, rfl, wi⟩
    | exc c =>
      exfalso
      have noexc : ∀ l, compL tg ft fe (wipeR ρ vs) l ≠ .exc c := by
        intro l
        induction l with
        | nil => intro z; cases z
        | cons d r ih =>
          intro z
          unfold compL at z
          split at z
          · cases z
          · rename_i ρ' _
            cases hb : (ft ρ') with
            | ok b =>
              rw [hb] at z
              have z : (if b = true then (fe ρ').calm.bind fun x => (compL tg ft fe (wipeR ρ vs) r).bind fun xs => .ok (x :: xs) else compL tg ft fe (wipeR ρ vs) r) = .exc c := z
              split at z
              · cases hx : fe ρ' with
                | ok x =>
                  rw [hx] at z
                  have z : ((compL tg ft fe (wipeR ρ vs) r).bind fun xs => .ok (x :: xs)) = .exc c := z
                  cases hr : compL tg ft fe (wipeR ρ vs) r with
                  | ok xs => rw [hr] at z; cases z
                  | exc c' => rw [hr] at z; cases z; exact ih hr
                  | bad => rw [hr] at z; cases z
                | exc _ => rw [hx] at z; cases z
                | bad => rw [hx] at z; cases z
              · exact ih z
            | exc _ => rw [hb] at z; cases z
            | bad => rw [hb] at z; cases z
      exact noexc items q
    | bad => rw [q] at wi; exact wi.elim
  obtain ⟨ds, hds, k⟩ := fin
  have en1 := en.mono s1
  have hP : ∀ a, Plus A Dl a → Cut A H1 a = none := fun a h => by
    rcases h with h | h
    · exact cut_in h
    · subst h
      by_cases c : A a
      · exact cut_in c
      · rw [cut_out c]; exact nD
  -- the invariant
  refine ⟨fun i m H' => m = items.length - i ∧ i ≤ items.length ∧ ∃ acc xs rest, H' Dl = some (.lst acc) ∧ Same H1 H' ∧ RAll K (Cut (Plus A Dl) H') acc xs ∧ acc.length ≤ i ∧ compL tg ft fe (wipeR ρ vs) (items.drop i) = .ok rest ∧ xs ++ rest = ds,
    ⟨items.length, by simp, Nat.zero_le _, [], [], ds, upd_same, same_new nD, .nil, Nat.zero_le _, hds, rfl⟩, ?_⟩
  rintro i m H' ⟨rfl, hi', acc, xs, rest, hD, sm, ra, la, hr, hx⟩
  have sb : Same (Cut A H1) H' := fun a o h => sm a o (cut_sub a o h)
  by_cases hlt : i < items.length
  · refine .inr ⟨it.go i H' hlt sb, fun H2 => ∃ acc xs rest, H2 Dl = some (.lst acc) ∧ Same H1 H2 ∧ RAll K (Cut (Plus A Dl) H2) acc xs ∧ acc.length ≤ i + 1 ∧ compL tg ft fe (wipeR ρ vs) (items.drop (i + 1)) = .ok rest ∧ xs ++ rest = ds, fun H2 h => ⟨items.length - (i + 1), by omega, rfl, hlt, h⟩, fun x H2 y => ?_⟩
    obtain ⟨s2, rx⟩ := it.yld i items[i] x H' H2 (by simp [hlt]) sb y
    have dm : Dom (Plus A Dl) H' := fun a h z => by
      rcases h with h | h
      · exact (hA ▸ en1.domA).same sm a h z
      · subst h; rw [hD] at z; cases z
    have rx := rx (Plus A Dl) dm hP
    have hD2 : H2 Dl = some (.lst acc) := s2 _ _ hD
    have sm2 : Same H1 H2 := sm.trans s2
    have eu : EnvOk K (Plus O Dl) (fun a => if a = Dl then H2 Dl else H0 a) own (wipeR ρ vs) (L2.wipe σ vs) H2 := (en1.under nD sm2 (by rw [hD2]; intro z; cases z)).wipe hv
    have au : AllA (Plus O Dl) own (L2.wipe σ vs) = Plus A Dl := by rw [all_wipe hv, all_under, hA]
    rw [List.drop_eq_getElem_cons hlt] at hr
    unfold compL at hr
    refine hg _ _ _ _ H2 x items[i] _ eu (by rw [au]; exact rx) ?_
    cases hput : tg.put items[i] (wipeR ρ vs) with
    | none => rw [hput] at hr; cases hr
    | some ρ' =>
      rw [hput] at hr
      intro σ2 d2 a2 e2
      refine ⟨wipe_eq d2 hs, ?_⟩
      replace hr : ((ft ρ').calm.bind fun b => if b = true then (fe ρ').calm.bind fun x => (compL tg ft fe (wipeR ρ vs) (items.drop (i + 1))).bind fun xs => .ok (x :: xs) else compL tg ft fe (wipeR ρ vs) (items.drop (i + 1))) = .ok rest := hr
      refine ht _ _ ρ' σ2 H2 _ e2 ?_
      cases hft : ft ρ' with
      | exc _ => rw [hft] at hr; cases hr
      | bad => rw [hft] at hr; cases hr
      | ok b =>
        rw [hft] at hr
        intro H3 s3
        replace hr : (if b = true then (fe ρ').calm.bind fun x => (compL tg ft fe (wipeR ρ vs) (items.drop (i + 1))).bind fun xs => .ok (x :: xs) else compL tg ft fe (wipeR ρ vs) (items.drop (i + 1))) = .ok rest := hr
        cases b with
        | false =>
          rw [if_neg Bool.false_ne_true] at hr
          exact iteF ⟨acc, xs, rest, s3 _ _ hD2, sm2.trans s3, ra.mono (cut_same (s2.trans s3)), Nat.le_succ_of_le la, hr, hx⟩
        | true =>
          rw [if_pos rfl] at hr
          refine iteT (he _ _ ρ' σ2 H3 _ (e2.mono s3) ?_)
          cases hfe : fe ρ' with
          | exc _ => rw [hfe] at hr; cases hr
          | bad => rw [hfe] at hr; cases hr
          | ok z =>
            rw [hfe] at hr
            intro yv H4 s4 ry
            have hD4 : H4 Dl = some (.lst acc) := s4 _ _ (s3 _ _ hD2)
            have s14 : Same H1 H4 := sm2.trans (s3.trans s4)
            refine ⟨acc, hD4, by omega, ?_⟩
            replace hr : ((compL tg ft fe (wipeR ρ vs) (items.drop (i + 1))).bind fun xs => .ok (z :: xs)) = .ok rest := hr
            cases hrest : compL tg ft fe (wipeR ρ vs) (items.drop (i + 1)) with
            | exc _ => rw [hrest] at hr; cases hr
            | bad => rw [hrest] at hr; cases hr
            | ok rest' =>
              rw [hrest] at hr
              cases hr
              have ce : Cut (Plus A Dl) (upd H4 Dl (.lst (acc ++ [yv]))) = Cut (Plus A Dl) H4 := cut_upd_in (.inr rfl)
              refine ⟨acc ++ [yv], xs ++ [z], rest', upd_same, fun a o h => ?_, ?_, by rw [List.length_append]; simp; exact la, rfl, by rw [List.append_assoc]; exact hx⟩
              · rw [upd_ne (ne_of_none h nD)]; exact s14 a o h
              · rw [ce]
                refine (ra.mono (cut_same (s2.trans (s3.trans s4)))).append (.cons ?_ .nil)
                rw [← au, ← a2]
                exact ry
  · have e : i = items.length := by omega
    subst e
    rw [List.drop_length] at hr
    cases hr
    rw [List.append_nil] at hx
    subst hx
    exact .inl ⟨it.stop H' sb, k Dl H' (s1.trans sm) (s1.free nD) (.lst hD ra)⟩
end
def yes : Tx := fun _ => .ok true
theorem tt_yes {K : PySem.W.Frag} {mg : Str → Option Value} {E : XK} {own : List Nat} : TTok K mg E own tYes yes := fun O H0 ρ σ H Q e w => w H (Same.refl H)
structure DTs (X : Cx) (K : PySem.W.Frag) (mg : Str → Option Value) (E : XK) (own : List Nat) (es : List Expr) (t : TT) (f : Tx) : Prop where
  pt : PTs X es t
  ok : TTok K mg E own t f
theorem dts_nil {X : Cx} {K : PySem.W.Frag} {mg : Str → Option Value} {E : XK} {own : List Nat} : DTs X K mg E own [] tYes yes := ⟨pts_nil, tt_yes⟩
theorem dts_one {X : Cx} {K : PySem.W.Frag} {mg : Str → Option Value} {E : XK} {own : List Nat} {c : Expr} {t : TT} {f : Tx} (h : DT X K mg E own c t f) : DTs X K mg E own [c] t f := ⟨pts_one h.pt, h.ok⟩
section
variable {X : Cx} {K : PySem.W.Frag} {mg : Str → Option Value} {E : XK} {own : List Nat} {elt tgx iter : Expr} {ifs : List Expr} {scope : Scope} {cown : List (Str × Nat)} {pos : Pos} {wi : TI} {g : TG} {tt : TT} {te : TE} {tg : Tgt} {fi : Ax} {ft : Tx} {fe : Ex}
theorem df_lc (hc : X.calm = true) (hN : X.N.Nodup) (hi : DI X K mg E own tgx iter wi fi) (ok : BlkOk X.N X.env.scope scope cown)
    (hg : ∀ (s : Shared) (H : Hp) (C : Addr) (cl : List (Str × Addr)) (fp : List Addr), DG (X.blk s H scope (compEnvC scope cl C X.env) fp) K own tgx g tg)
    (ht : ∀ (s : Shared) (H : Hp) (C : Addr) (cl : List (Str × Addr)) (fp : List Addr), DTs (X.blk s H scope (compEnvC scope cl C X.env) fp) K mg E0' own ifs tt ft)
    (he : ∀ (s : Shared) (H : Hp) (C : Addr) (cl : List (Str × Addr)) (fp : List Addr), DE (X.blk s H scope (compEnvC scope cl C X.env) fp) K mg E0' own elt te fe)
    (hv : ∀ i ∈ cown.map (·.2), i ∉ own := by decide) (hsl : ∀ i ∈ tg.slots, i ∈ cown.map (·.2) := by decide) (hs : ∀ x, foldedSetIterable iter X.env x = pure x := by intro _; rfl) :
    DF X K mg E own (.ListComp elt [⟨tgx, iter, ifs, 0⟩] scope pos) (tLc wi g tt te (cown.map (·.2))) (comp (cown.map (·.2)) tg fi ft fe) :=
  ⟨pe_lc hc hN hi.pi ok (fun s H C cl fp => (hg s H C cl fp).pg) (fun s H C cl fp => (ht s H C cl fp).pt) (fun s H C cl fp => (he s H C cl fp).pe) hs,
    tf_lc hi.ok (hg {} (fun _ => none) 0 [] []).ok (ht {} (fun _ => none) 0 [] []).ok (he {} (fun _ => none) 0 [] []).ok hv hsl⟩
end
end DL
end

section
set_option Elab.async false
set_option linter.all false
set_option maxRecDepth 100000
set_option maxHeartbeats 2000000
set_option autoImplicit false
/-! DL6: statements, defs, calls. -/
namespace DL
open PySem PySem.Spec PyProof.Rows L2

inductive Out where
  | nx (ρ : Rho)
  | rt (d : D)
  | exc (c : Str)
  | bad
abbrev Gx := Rho → Out
def OutW (K : PySem.W.Frag) (mg : Str → Option Value) (E : XK) (O : Addr → Prop) (H0 : Hp) (own : List Nat) (D : Ends) : Out → Prop
  | .nx ρ => ∀ σ H, EnvOk K O H0 own ρ σ H → D.nx σ H
  | .rt d => ∀ v H, Same H0 H → R K (Cut O H) v d → D.rt v H
  | .exc c => ∃ C, mg c = some (.ref C) ∧ ∀ H, Same H0 H → E (.ref C) none H
  | .bad => False
def TSok (K : PySem.W.Frag) (mg : Str → Option Value) (E : XK) (own own' : List Nat) (t : TS) (g : Gx) : Prop :=
  ∀ (O : Addr → Prop) (H0 : Hp) (ρ : Rho) (σ : L2.St) (H : Hp) (D : Ends), EnvOk K O H0 own ρ σ H → OutW K mg E O H0 own' D (g ρ) → t D σ H
structure DS (X : Cx) (K : PySem.W.Frag) (mg : Str → Option Value) (E : XK) (own own' : List Nat) (st : Stmt) (t : TS) (g : Gx) : Prop where
  ps : PS X st t
  ok : TSok K mg E own own' t g
structure DSs (X : Cx) (K : PySem.W.Frag) (mg : Str → Option Value) (E : XK) (own own' : List Nat) (st : List Stmt) (t : TS) (g : Gx) : Prop where
  ps : PSs X st t
  ok : TSok K mg E own own' t g
/-- a result's raise is the statement's -/
def Res.out {α : Type} (x : Res α) (k : α → Out) : Out := match x with
  | .ok a => k a
  | .exc c => .exc c
  | .bad => .bad
@[simp] theorem out_ok {α : Type} (a : α) (k : α → Out) : (Res.ok a).out k = k a := rfl
@[simp] theorem out_exc {α : Type} (c : Str) (k : α → Out) : (Res.exc c : Res α).out k = .exc c := rfl
@[simp] theorem out_bad {α : Type} (k : α → Out) : (Res.bad : Res α).out k = .bad := rfl
section
variable {K : PySem.W.Frag} {mg : Str → Option Value} {E : XK} {O : Addr → Prop} {H0 H : Hp} {own own' own'' : List Nat} {D : Ends}
theorem outW_out {α : Type} {x : Res α} {k : α → Out} {ρ : Rho} {σ : L2.St} (e : EnvOk K O H0 own ρ σ H) (h : OutW K mg E O H0 own' D (x.out k)) : ResW mg E H (fun a => OutW K mg E O H0 own' D (k a)) x := by
  cases x with
  | ok a => exact h
  | exc c => obtain ⟨C, a, b⟩ := h; exact ⟨C, a, fun H' s => b H' (e.base.trans s)⟩
  | bad => exact h
def gSkip : Gx := fun ρ => .nx ρ
def gSeq (g h : Gx) : Gx := fun ρ => match g ρ with
  | .nx ρ' => h ρ'
  | o => o
theorem ts_next : TSok K mg E own own tNext gSkip := fun O H0 ρ σ H D e w => w σ H e
theorem ts_seq {t u : TS} {g h : Gx} (h1 : TSok K mg E own own' t g) (h2 : TSok K mg E own' own'' u h) : TSok K mg E own own'' (tSeq t u) (gSeq g h) := fun O H0 ρ σ H D e w => by
  refine h1 O H0 ρ σ H _ e ?_
  unfold gSeq at w
  cases q : g ρ with
  | nx ρ' => rw [q] at w; exact fun σ' H' e' => h2 O H0 ρ' σ' H' D e' w
  | rt d => rw [q] at w; exact w
  | exc c => rw [q] at w; exact w
  | bad => rw [q] at w; exact w
/-- what is changed no more -/
theorem ts_freeze {t : TS} {g : Gx} {o1 : List Nat} (h : TSok K mg E own' own'' t g) (s : ∀ i ∈ own', i ∈ own) : TSok K mg E own own'' t g := fun O H0 ρ σ H D e w => h O H0 ρ σ H D (e.freeze s) w
theorem ts_out {t : TS} {g : Gx} (h : TSok K mg E own own' t g) (s : ∀ i ∈ own'', i ∈ own') : TSok K mg E own own'' t g := fun O H0 ρ σ H D e w => h O H0 ρ σ H D e (by
  cases q : g ρ with
  | nx ρ' => rw [q] at w; exact fun σ' H' e' => w σ' H' (e'.freeze s)
  | rt d => rw [q] at w; exact w
  | exc c => rw [q] at w; exact w
  | bad => rw [q] at w; exact w)
end
section
variable {X : Cx} {K : PySem.W.Frag} {mg : Str → Option Value} {E : XK} {own own' own'' : List Nat} {st : Stmt} {rest : List Stmt} {t u : TS} {g h : Gx} {e c : Expr} {te : TE} {f : Ex} {pos : Pos}
theorem dss_nil : DSs X K mg E own own [] tNext gSkip := ⟨pss_nil, ts_next⟩
theorem dss_cons (h1 : DS X K mg E own own' st t g) (h2 : DSs X K mg E own' own'' rest u h) : DSs X K mg E own own'' (st :: rest) (tSeq t u) (gSeq g h) := ⟨pss_cons h1.ps h2.ps, ts_seq h1.ok h2.ok⟩
theorem dss_one (h1 : DS X K mg E own own' st t g) : DSs X K mg E own own' [st] t g := ⟨pss_one h1.ps, h1.ok⟩
theorem dss_freeze (own' : List Nat) (h : DSs X K mg E own' own'' rest u g) (s : ∀ i ∈ own', i ∈ own := by decide) : DSs X K mg E own own'' rest u g := ⟨h.ps, ts_freeze (o1 := []) h.ok s⟩
theorem dss_out (own' : List Nat) (h : DSs X K mg E own own' rest u g) (s : ∀ i ∈ own'', i ∈ own' := by decide) : DSs X K mg E own own'' rest u g := ⟨h.ps, ts_out h.ok s⟩
theorem ds_pass : DS X K mg E own own (.Pass pos) tNext gSkip := ⟨ps_pass, ts_next⟩
def gDrop (f : Ex) : Gx := fun ρ => (f ρ).out fun _ => .nx ρ
theorem ds_expr (he : DE X K mg E own e te f) (hs : swapsWith e none pos.line X.env = pure false := by rfl) : DS X K mg E own own (.Expr e pos) (tDrop te) (gDrop f) :=
  ⟨ps_expr he.pe hs, fun O H0 ρ σ H D en w => he.ok O H0 ρ σ H _ en ((outW_out en w).mono (Same.refl H) fun d wd v H1 s1 r1 => wd σ H1 (en.mono s1))⟩
def gRet (f : Ex) : Gx := fun ρ => (f ρ).out fun d => .rt d
theorem ds_ret (he : DE X K mg E own e te f) : DS X K mg E own own' (.Return (some e) pos) (tRet te) (gRet f) :=
  ⟨ps_ret he.pe, fun O H0 ρ σ H D en w => he.ok O H0 ρ σ H _ en ((outW_out en w).mono (Same.refl H) fun d wd v H1 s1 r1 => wd v H1 (en.base.trans s1) (r1.mono (cut_mono fun a h => .inl h)))⟩
def gRetN : Gx := fun _ => .rt .none
theorem ds_retN : DS X K mg E own own' (.Return none pos) tRetN gRetN := ⟨ps_retN, fun O H0 ρ σ H D en w => w .non H en.base .non⟩
def gIf (c : Tx) (g h : Gx) : Gx := fun ρ => (c ρ).out fun b => if b = true then g ρ else h ρ
theorem ds_if {a b : List Stmt} {tc : TT} {fc : Tx} (hc : DT X K mg E own c tc fc) (ha : DSs X K mg E own own' a t g) (hb : DSs X K mg E own own' b u h) : DS X K mg E own own' (.If c a b pos) (tIfS tc t u) (gIf fc g h) :=
  ⟨ps_if hc.pt ha.ps hb.ps, fun O H0 ρ σ H D en w => hc.ok O H0 ρ σ H _ en ((outW_out en w).mono (Same.refl H) fun k wk H1 s1 => by
    cases k with
    | true => exact iteT (ha.ok O H0 ρ σ H1 D (en.mono s1) (show OutW _ _ _ _ _ _ _ (g ρ) from wk))
    | false => exact iteF (hb.ok O H0 ρ σ H1 D (en.mono s1) (show OutW _ _ _ _ _ _ _ (h ρ) from wk)))⟩
def gBad : Gx := fun _ => .bad
/-- what is never come to -/
theorem ds_never : DS X K mg E own own' st tNever gBad := ⟨ps_never, fun O H0 ρ σ H D en w => w.elim⟩
theorem dss_never : DSs X K mg E own own' rest tNever gBad := ⟨pss_never, fun O H0 ρ σ H D en w => w.elim⟩

/-! ### names are given values -/
def gSet (i : Nat) (f : Ex) : Gx := fun ρ => (f ρ).out fun d => .nx (ρ.set i (some d))
theorem ds_set (i : Nat) {x : Str} {pos' : Pos} (hi' : i ∉ own := by decide) (hN : X.N.Nodup) (he : DE X K mg E own e te f) (hi : X.N[i]? = some x := by rfl) (hx : Loc X.env.scope x := by first | exact Or.inl rfl | exact Or.inr rfl)
    (hs : swapsWith e (some (.Name x pos')) pos.line X.env = pure false := by rfl) (hf : X.fn x = true ∨ X.env.scope.names.lookup x = some .local := by first | exact .inl rfl | exact .inr rfl | assumption) :
    DS X K mg E own own (.Assign [.Name x pos'] e pos) (tAsg te (gName i)) (gSet i f) :=
  ⟨ps_set hN hi hx he.pe hs hf, fun O H0 ρ σ H D en w => he.ok O H0 ρ σ H _ en ((outW_out en w).mono (Same.refl H) fun d wd v H1 s1 r1 => wd _ H1 ((en.mono s1).setSh hi' r1))⟩
theorem ds_new (i : Nat) {x : Str} {pos' : Pos} (hi' : i ∉ own := by decide) (hN : X.N.Nodup) (he : DF X K mg E own e te f) (hi : X.N[i]? = some x := by rfl) (hx : Loc X.env.scope x := by first | exact Or.inl rfl | exact Or.inr rfl)
    (hs : swapsWith e (some (.Name x pos')) pos.line X.env = pure false := by rfl) (hf : X.fn x = true ∨ X.env.scope.names.lookup x = some .local := by first | exact .inl rfl | exact .inr rfl | assumption) :
    DS X K mg E own (i :: own) (.Assign [.Name x pos'] e pos) (tAsg te (gName i)) (gSet i f) :=
  ⟨ps_set hN hi hx he.pe hs hf, fun O H0 ρ σ H D en w => he.ok O H0 ρ σ H _ en ((outW_out en w).mono (Same.refl H) fun d wd p H1 s1 np r1 => wd _ H1 (en.setNew hi' s1 np r1))⟩
/-- y = [..]: the comprehension stored within its own frame -/
theorem ds_setC (i : Nat) {x : Str} {pos' : Pos} (h : PS X (.Assign [.Name x pos'] e pos) (tAsg te (gName i))) (ok : TFok K mg E own te f) (hi' : i ∉ own := by decide) : DS X K mg E own own (.Assign [.Name x pos'] e pos) (tAsg te (gName i)) (gSet i f) :=
  ⟨h, fun O H0 ρ σ H D en w => te_of_tf ok O H0 ρ σ H _ en ((outW_out en w).mono (Same.refl H) fun d wd v H1 s1 r1 => wd _ H1 ((en.mono s1).setSh hi' r1))⟩
theorem ds_newC (i : Nat) {x : Str} {pos' : Pos} (h : PS X (.Assign [.Name x pos'] e pos) (tAsg te (gName i))) (ok : TFok K mg E own te f) (hi' : i ∉ own := by decide) : DS X K mg E own (i :: own) (.Assign [.Name x pos'] e pos) (tAsg te (gName i)) (gSet i f) :=
  ⟨h, fun O H0 ρ σ H D en w => ok O H0 ρ σ H _ en ((outW_out en w).mono (Same.refl H) fun d wd p H1 s1 np r1 => wd _ H1 (en.setNew hi' s1 np r1))⟩
section
variable {elt tgx iter : Expr} {ifs : List Expr} {scope : Scope} {cown : List (Str × Nat)} {wi : TI} {gt : TG} {tt : TT} {tf : TE} {tg : Tgt} {fi : Ax} {ft : Tx} {fe : Ex} {spos : Pos}
theorem ds_setLc (i : Nat) {x : Str} {pos' : Pos} (hi' : i ∉ own := by decide) (hc : X.calm = true) (hN : X.N.Nodup) (hi : DI X K mg E own tgx iter wi fi) (ok : BlkOk X.N X.env.scope scope cown)
    (hg : ∀ (s : Shared) (H : Hp) (C : Addr) (cl : List (Str × Addr)) (fp : List Addr), DG (X.blk s H scope (compEnvC scope cl C X.env) fp) K own tgx gt tg)
    (ht : ∀ (s : Shared) (H : Hp) (C : Addr) (cl : List (Str × Addr)) (fp : List Addr), DTs (X.blk s H scope (compEnvC scope cl C X.env) fp) K mg E0' own ifs tt ft)
    (he : ∀ (s : Shared) (H : Hp) (C : Addr) (cl : List (Str × Addr)) (fp : List Addr), DE (X.blk s H scope (compEnvC scope cl C X.env) fp) K mg E0' own elt tf fe)
    (hy : X.N[i]? = some x := by rfl) (hyl : X.env.scope.names.lookup x = some .local := by rfl)
    (hsw : swapsWith (.ListComp elt [⟨tgx, iter, ifs, 0⟩] scope pos) (some (.Name x pos')) spos.line X.env = pure true := by exact sw_true rfl rfl rfl (by decide +kernel))
    (hv : ∀ i ∈ cown.map (·.2), i ∉ own := by decide) (hsl : ∀ i ∈ tg.slots, i ∈ cown.map (·.2) := by decide) (hs : ∀ x, foldedSetIterable iter X.env x = pure x := by intro _; rfl) :
    DS X K mg E own own (.Assign [.Name x pos'] (.ListComp elt [⟨tgx, iter, ifs, 0⟩] scope pos) spos) (tAsg (tLc wi gt tt tf (cown.map (·.2))) (gName i)) (gSet i (comp (cown.map (·.2)) tg fi ft fe)) :=
  ds_setC i (ps_setLc hc hN hy hyl hsw hi.pi ok (fun s H C cl fp => (hg s H C cl fp).pg) (fun s H C cl fp => (ht s H C cl fp).pt) (fun s H C cl fp => (he s H C cl fp).pe) hs) (df_lc (pos := pos) hc hN hi ok hg ht he hv hsl hs).ok hi'
theorem ds_newLc (i : Nat) {x : Str} {pos' : Pos} (hi' : i ∉ own := by decide) (hc : X.calm = true) (hN : X.N.Nodup) (hi : DI X K mg E own tgx iter wi fi) (ok : BlkOk X.N X.env.scope scope cown)
    (hg : ∀ (s : Shared) (H : Hp) (C : Addr) (cl : List (Str × Addr)) (fp : List Addr), DG (X.blk s H scope (compEnvC scope cl C X.env) fp) K own tgx gt tg)
    (ht : ∀ (s : Shared) (H : Hp) (C : Addr) (cl : List (Str × Addr)) (fp : List Addr), DTs (X.blk s H scope (compEnvC scope cl C X.env) fp) K mg E0' own ifs tt ft)
    (he : ∀ (s : Shared) (H : Hp) (C : Addr) (cl : List (Str × Addr)) (fp : List Addr), DE (X.blk s H scope (compEnvC scope cl C X.env) fp) K mg E0' own elt tf fe)
    (hy : X.N[i]? = some x := by rfl) (hyl : X.env.scope.names.lookup x = some .local := by rfl)
    (hsw : swapsWith (.ListComp elt [⟨tgx, iter, ifs, 0⟩] scope pos) (some (.Name x pos')) spos.line X.env = pure true := by exact sw_true rfl rfl rfl (by decide +kernel))
    (hv : ∀ i ∈ cown.map (·.2), i ∉ own := by decide) (hsl : ∀ i ∈ tg.slots, i ∈ cown.map (·.2) := by decide) (hs : ∀ x, foldedSetIterable iter X.env x = pure x := by intro _; rfl) :
    DS X K mg E own (i :: own) (.Assign [.Name x pos'] (.ListComp elt [⟨tgx, iter, ifs, 0⟩] scope pos) spos) (tAsg (tLc wi gt tt tf (cown.map (·.2))) (gName i)) (gSet i (comp (cown.map (·.2)) tg fi ft fe)) :=
  ds_newC i (ps_setLc hc hN hy hyl hsw hi.pi ok (fun s H C cl fp => (hg s H C cl fp).pg) (fun s H C cl fp => (ht s H C cl fp).pt) (fun s H C cl fp => (he s H C cl fp).pe) hs) (df_lc (pos := pos) hc hN hi ok hg ht he hv hsl hs).ok hi'
end
/-- a, b = e -/
def gUn (tg : Tgt) (f : Ex) : Gx := fun ρ => (f ρ).out fun d => match tg.put d ρ with
  | some ρ' => .nx ρ'
  | none => .bad
theorem ds_unpack {tgx : Expr} {gt : TG} {tg : Tgt} (he : DE X K mg E own e te f) (hg : DG X K own tgx gt tg) (hs : swapsWithSole [tgx] e pos.line X.env = pure false := by rfl) (hw : swappedStores [tgx] e X.env = pure none := by rfl)
    (h1 : (assignEach [tgx] X.env).map (·.2) = [assign tgx X.env] := by rfl) :
    DS X K mg E own own (.Assign [tgx] e pos) (tAsg te gt) (gUn tg f) :=
  ⟨ps_asg he.pe hg.pg hs hw h1, fun O H0 ρ σ H D en w => he.ok O H0 ρ σ H _ en ((outW_out en w).mono (Same.refl H) fun d wd v H1 s1 r1 => by
    refine hg.ok O H0 ρ σ H1 v d _ (en.mono s1) r1 ?_
    cases q : tg.put d ρ with
    | none => rw [q] at wd; exact wd.elim
    | some ρ' => rw [q] at wd; exact fun σ' _ _ e' => wd σ' H1 e')⟩
/-! ### own lists, own dicts are changed -/
def lSet (ds : List D) (k : Int) (d : D) : Option (List D) := (ixN ds.length k).map fun j => ds.set j d
/-- x[k] = e, x an own list -/
def gPutL (i : Nat) (fk f : Ex) : Gx := fun ρ => match ρ[i]? with
  | some (some (.list ds)) => (f ρ).out fun d => (fk ρ).out fun k => match k with
    | .int j => match lSet ds j d with
      | some ds' => .nx (ρ.set i (some (.list ds')))
      | none => .bad
    | _ => .bad
  | _ => .bad
theorem ds_putL (i : Nat) {x : Str} {k : Expr} {tk : TE} {fk : Ex} {pos' pos2 : Pos} (hi' : i ∈ own := by decide) (he : DE X K mg E own e te f) (hk : DE X K mg E own k tk fk) (hpg : PE X k tk → PG X (.Subscript (.Name x pos2) k pos') (gSub (tVar i) tk rSetL) := by exact fun h => pg_sub (pv _) h set_list)
    (hs : swapsWithSole [.Subscript (.Name x pos2) k pos'] e pos.line X.env = pure false := by rfl) (hw : swappedStores [.Subscript (.Name x pos2) k pos'] e X.env = pure none := by rfl)
    (h1 : (assignEach [.Subscript (.Name x pos2) k pos'] X.env).map (·.2) = [assign (.Subscript (.Name x pos2) k pos') X.env] := by rfl) :
    DS X K mg E own own (.Assign [.Subscript (.Name x pos2) k pos'] e pos) (tAsg te (gSub (tVar i) tk rSetL)) (gPutL i fk f) :=
  ⟨ps_asg he.pe (hpg hk.pe) hs hw h1, fun O H0 ρ σ H D en w => by
    unfold gPutL at w
    split at w
    · rename_i ds q
      obtain ⟨a, ha, r⟩ := en.ow i _ hi' q
      cases r with
      | lst hl rs =>
      rename_i vs
      refine he.ok O H0 ρ σ H _ en ((outW_out en w).mono (Same.refl H) fun d wd v H1 s1 r1 => ?_)
      refine ⟨.ref a, ha, hk.ok O H0 ρ σ H1 _ (en.mono s1) ((outW_out (en.mono s1) wd).mono (Same.refl H1) fun kd wk kv H2 s2 r2 => ?_)⟩
      cases kd <;> first | exact wk.elim | skip
      rename_i j
      rw [r2.int_of]
      replace wk : OutW _ _ _ _ _ _ _ (match lSet ds j d with | some ds' => .nx (ρ.set i (some (.list ds'))) | none => .bad) := wk
      cases hz : lSet ds j d with
      | none => rw [hz] at wk; exact wk.elim
      | some ds' =>
        rw [hz] at wk
        obtain ⟨n, hn, rfl⟩ := Option.map_eq_some_iff.mp hz
        have hl2 : H2 a = some (.lst vs) := s2 _ _ (s1 _ _ hl)
        refine ⟨a, vs, j, n, rfl, rfl, hl2, by rw [rs.length]; exact hn, ?_⟩
        have en2 := (en.mono s1).mono s2
        refine wk σ _ (en2.write hi' ha (.lst upd_same ?_))
        exact RAll.set (r1.mono (cut_same s2)) n (rs.mono (cut_same (s1.trans s2)))
    · exact w.elim⟩
/-- d[k] = e, d an own dict -/
def gPutD (i : Nat) (fk f : Ex) : Gx := fun ρ => match ρ[i]? with
  | some (some (.dict ds)) => (f ρ).out fun d => (fk ρ).out fun k => match keyOf k with
    | some j => if ds.length < 1000000 then .nx (ρ.set i (some (.dict (putD ds j d)))) else .bad
    | none => .bad
  | _ => .bad
theorem ds_putD (i : Nat) {x : Str} {k : Expr} {tk : TE} {fk : Ex} {pos' pos2 : Pos} (hu : X.A.units + 1 < cLine) (hi' : i ∈ own := by decide) (he : DE X K mg E own e te f) (hk : DE X K mg E own k tk fk) (hN : X.N[i]? = some x := by rfl) (hv : Vis X.env.scope x := by first | exact Or.inl rfl | exact Or.inr (Or.inl rfl) | exact Or.inr (Or.inr rfl))
    (hd : (x == ("__debug__" : Str)) = false := by decide) (hcd : (x == ("__classdict__" : Str)) = false := by decide)
    (hs : swapsWith e (some (.Subscript (.Name x pos2) k pos')) pos.line X.env = pure false := by rfl) :
    DS X K mg E own own (.Assign [.Subscript (.Name x pos2) k pos'] e pos) (sDPut (tVar i) tk te) (gPutD i fk f) :=
  ⟨ps_dput hu (pe_var hN hv hd hcd) hk.pe he.pe hs, fun O H0 ρ σ H D en w => by
    unfold gPutD at w
    split at w
    · rename_i ds q
      obtain ⟨a, ha, r⟩ := en.ow i _ hi' q
      cases r with
      | dic hl rs =>
      rename_i kvs
      refine he.ok O H0 ρ σ H _ en ((outW_out en w).mono (Same.refl H) fun d wd v H1 s1 r1 => ?_)
      refine ⟨.ref a, ha, hk.ok O H0 ρ σ H1 _ (en.mono s1) ((outW_out (en.mono s1) wd).mono (Same.refl H1) fun kd wk kv H2 s2 r2 => ?_)⟩
      cases hz : keyOf kd with
      | none => rw [hz] at wk; exact wk.elim
      | some j =>
        rw [hz] at wk
        by_cases c : ds.length < 1000000
        · replace wk : OutW _ _ _ _ _ _ _ (if ds.length < 1000000 then .nx (ρ.set i (some (.dict (putD ds j d)))) else .bad) := wk
          rw [if_pos c] at wk
          have hl2 : H2 a = some (.dK kvs) := s2 _ _ (s1 _ _ hl)
          refine ⟨a, _, rfl, by rw [r2.key hz]; exact DPut.k hl2 (by rw [rs.length, sizeLine_eq]; omega), ?_⟩
          have en2 := (en.mono s1).mono s2
          refine wk σ _ (en2.write hi' ha (.dic upd_same ?_))
          exact RKV.put (r1.mono (cut_same s2)) (rs.mono (cut_same (s1.trans s2)))
        · replace wk : OutW _ _ _ _ _ _ _ (if ds.length < 1000000 then .nx (ρ.set i (some (.dict (putD ds j d)))) else .bad) := wk
          rw [if_neg c] at wk
          exact wk.elim
    · exact w.elim⟩
/-- x.append(e) -/
def gApp (i : Nat) (f : Ex) : Gx := fun ρ => match ρ[i]? with
  | some (some (.list ds)) => (f ρ).out fun d => if ds.length < 1000000 then .nx (ρ.set i (some (.list (ds ++ [d])))) else .bad
  | _ => .bad
theorem ds_app (i : Nat) {x : Str} {apos cpos npos : Pos} (hi' : i ∈ own := by decide) (he : DE X K mg E own e te f) (hN : X.N[i]? = some x := by rfl) (hv : Vis X.env.scope x := by first | exact Or.inl rfl | exact Or.inr (Or.inl rfl) | exact Or.inr (Or.inr rfl))
    (hd : (x == ("__debug__" : Str)) = false := by decide) (hcd : (x == ("__classdict__" : Str)) = false := by decide)
    (hbase : attributeBase (.Name x npos) "append" X.env (eval (.Name x npos) X.env) = eval (.Name x npos) X.env := by rfl)
    (hfew : ((backTo cpos (starEach (e :: []) X.env)).all (fun x => !x.1) && (backToKw cpos (keywordEach [] X.env)).all (fun x => x.1.isSome)
      && decide ((e :: []).length + ([] : List Keyword).length + (if ([] : List Keyword).isEmpty then 0 else 1) < 30)) = true := by rfl)
    (hline : (apos.endLine == cpos.line) = true := by rfl) (hsx : starEach (e :: []) X.env = (false, eval e X.env) :: starEach [] X.env := by rfl) (hplain : (backTo cpos (starEach [] X.env)).any (·.1) = false := by rfl)
    (hs : swapsWith (.Call (.Attribute (.Name x npos) "append" apos) [e] [] cpos) none pos.line X.env = pure false := by rfl) (hK : X.K = K := by rfl) :
    DS X K mg E own own (.Expr (.Call (.Attribute (.Name x npos) "append" apos) [e] [] cpos) pos) (tDrop (tBM K "list" rAppend (tVar i) (tCons te tNil))) (gApp i f) := by
  subst hK
  exact ⟨ps_expr (pe_bm PySem.F.plainAttrs_list PySem.F.slot_list_append PySem.F.type_list_append mt_append (pe_var hN hv hd hcd) (pa_cons he.pe pa_nil hsx) hbase hfew hline hsx hplain) hs, fun O H0 ρ σ H D en w => by
    unfold gApp at w
    split at w
    · rename_i ds q
      obtain ⟨a, ha, r⟩ := en.ow i _ hi' q
      cases r with
      | lst hl rs =>
      rename_i vs
      refine ⟨.ref a, ha, .inl ⟨rfl, _, .of hl⟩, he.ok O H0 ρ σ H _ en ((outW_out en w).mono (Same.refl H) fun d wd v H1 s1 r1 => ?_)⟩
      by_cases c : ds.length < 1000000
      · replace wd : OutW _ _ _ _ _ _ _ (if ds.length < 1000000 then .nx (ρ.set i (some (.list (ds ++ [d])))) else .bad) := wd
        rw [if_pos c] at wd
        refine ⟨a, vs, v, rfl, rfl, s1 _ _ hl, by rw [rs.length, sizeLine_eq]; omega, ?_⟩
        refine wd σ _ ((en.mono s1).write hi' ha (.lst upd_same ?_))
        exact (rs.mono (cut_same s1)).append (.cons r1 .nil)
      · replace wd : OutW _ _ _ _ _ _ _ (if ds.length < 1000000 then .nx (ρ.set i (some (.list (ds ++ [d])))) else .bad) := wd
        rw [if_neg c] at wd
        exact wd.elim
    · exact w.elim⟩
/-- x.extend(e) -/
def gExt (i : Nat) (f : Ex) : Gx := fun ρ => match ρ[i]? with
  | some (some (.list ds)) => (f ρ).out fun d => match d with
    | .list es => if ds.length + es.length < 1000000 then .nx (ρ.set i (some (.list (ds ++ es)))) else .bad
    | _ => .bad
  | _ => .bad
theorem ds_ext (i : Nat) {x : Str} {apos cpos npos : Pos} (hi' : i ∈ own := by decide) (he : DE X K mg E own e te f) (hN : X.N[i]? = some x := by rfl) (hv : Vis X.env.scope x := by first | exact Or.inl rfl | exact Or.inr (Or.inl rfl) | exact Or.inr (Or.inr rfl))
    (hd : (x == ("__debug__" : Str)) = false := by decide) (hcd : (x == ("__classdict__" : Str)) = false := by decide)
    (hbase : attributeBase (.Name x npos) "extend" X.env (eval (.Name x npos) X.env) = eval (.Name x npos) X.env := by rfl)
    (hfew : ((backTo cpos (starEach (e :: []) X.env)).all (fun x => !x.1) && (backToKw cpos (keywordEach [] X.env)).all (fun x => x.1.isSome)
      && decide ((e :: []).length + ([] : List Keyword).length + (if ([] : List Keyword).isEmpty then 0 else 1) < 30)) = true := by rfl)
    (hline : (apos.endLine == cpos.line) = true := by rfl) (hsx : starEach (e :: []) X.env = (false, eval e X.env) :: starEach [] X.env := by rfl) (hplain : (backTo cpos (starEach [] X.env)).any (·.1) = false := by rfl)
    (hs : swapsWith (.Call (.Attribute (.Name x npos) "extend" apos) [e] [] cpos) none pos.line X.env = pure false := by rfl) (hK : X.K = K := by rfl) :
    DS X K mg E own own (.Expr (.Call (.Attribute (.Name x npos) "extend" apos) [e] [] cpos) pos) (tDrop (tBM K "list" rExtend (tVar i) (tCons te tNil))) (gExt i f) := by
  subst hK
  exact ⟨ps_expr (pe_bm PySem.F.plainAttrs_list PySem.F.slot_list_extend PySem.F.type_list_extend mt_extend (pe_var hN hv hd hcd) (pa_cons he.pe pa_nil hsx) hbase hfew hline hsx hplain) hs, fun O H0 ρ σ H D en w => by
    unfold gExt at w
    split at w
    · rename_i ds q
      obtain ⟨a, ha, r⟩ := en.ow i _ hi' q
      cases r with
      | lst hl rs =>
      rename_i vs
      refine ⟨.ref a, ha, .inl ⟨rfl, _, .of hl⟩, he.ok O H0 ρ σ H _ en ((outW_out en w).mono (Same.refl H) fun d wd v H1 s1 r1 => ?_)⟩
      cases d <;> first | exact wd.elim | skip
      rename_i es
      obtain ⟨b, zs, rfl, hb, rz⟩ := r1.list_of
      replace wd : OutW _ _ _ _ _ _ _ (if ds.length + es.length < 1000000 then .nx (ρ.set i (some (.list (ds ++ es)))) else .bad) := wd
      by_cases c : ds.length + es.length < 1000000
      · rw [if_pos c] at wd
        refine ⟨a, b, vs, zs, rfl, rfl, s1 _ _ hl, cut_sub _ _ hb, by rw [rs.length, rz.length, sizeLine_eq]; omega, ?_⟩
        refine wd σ _ ((en.mono s1).write hi' ha (.lst upd_same ?_))
        exact (rs.mono (cut_same s1)).append rz
      · rw [if_neg c] at wd
        exact wd.elim
    · exact w.elim⟩

/-! ### loops -/
def forL (tg : Tgt) (g : Gx) : List D → Gx
  | [], ρ => .nx ρ
  | d :: r, ρ => match tg.put d ρ with
    | none => .bad
    | some ρ' => match g ρ' with
      | .nx ρ'' => forL tg g r ρ''
      | o => o
def gFor (tg : Tgt) (fi : Ax) (g : Gx) : Gx := fun ρ => (fi ρ).out fun items => forL tg g items ρ
theorem ts_for {K : PySem.W.Frag} {mg : Str → Option Value} {wi : TI} {fi : Ax} {gt : TG} {tg : Tgt} {tb : TS} (hi : TIok K mg E own wi fi) (hg : TGok K own gt tg) (hb : TSok K mg E own own tb g) : TSok K mg E own own (tFor wi gt tb) (gFor tg fi g) := fun O H0 ρ σ H D en w => by
  refine hi O H0 ρ σ H _ en ((outW_out en w).mono (Same.refl H) fun items wd J H1 s1 it => ?_)
  have en1 := en.mono s1
  -- what stands through the loop: all but the def's own
  generalize hB : Cut (OwnA own σ) H1 = B
  have sB : Same B H1 := by rw [← hB]; exact cut_sub
  have s0 : Same H0 B := fun a o h => by
    rw [← hB, cut_out]
    · exact en1.base a o h
    · intro z; rw [en1.new a z] at h; cases h
  have cutB : Cut O B = Cut (AllA O own σ) H1 := by
    funext a
    by_cases c : O a
    · rw [cut_in c, cut_in (.inl c)]
    · rw [cut_out c]
      by_cases c' : OwnA own σ a
      · rw [cut_in (Or.inr c'), ← hB, cut_in c']
      · rw [cut_out (fun z => z.elim c c'), ← hB, cut_out c']
  have dB : Dom O B := en1.dom.same s0
  have eB : EnvOk K O B own ρ σ H1 := ⟨en1.len, sB, dB, fun a h => (by rw [← hB]; exact cut_in h), en1.live, en1.inj, en1.sh, en1.ow⟩
  have back : ∀ {ρ' : Rho} {σ' : L2.St} {H' : Hp}, EnvOk K O B own ρ' σ' H' → EnvOk K O H0 own ρ' σ' H' := fun {ρ' σ' H'} e => ⟨e.len, s0.trans e.base, en1.dom, fun a h => s0.free (e.new a h), e.live, e.inj, e.sh, e.ow⟩
  refine ⟨fun i m σ' H' => m = items.length - i ∧ i ≤ items.length ∧ ∃ ρ', EnvOk K O B own ρ' σ' H' ∧ OutW K mg E O H0 own D (forL tg g (items.drop i) ρ'), ⟨items.length, by simp, Nat.zero_le _, ρ, eB, wd⟩, ?_⟩
  rintro i m σ' H' ⟨rfl, hi', ρ', e', w'⟩
  have sb : Same (Cut (AllA O own σ) H1) H' := by rw [← cutB]; exact fun a o h => e'.base a o (cut_sub a o h)
  by_cases hlt : i < items.length
  · refine .inr ⟨it.go i H' hlt sb, fun σ2 H2 => ∃ ρ2, EnvOk K O B own ρ2 σ2 H2 ∧ OutW K mg E O H0 own D (forL tg g (items.drop (i + 1)) ρ2), fun σ2 H2 h => ⟨items.length - (i + 1), by omega, rfl, hlt, h⟩, fun x H2 y => ?_⟩
    obtain ⟨s2, rx⟩ := it.yld i items[i] x H' H2 (by simp [hlt]) sb y
    have rx := rx (AllA O own σ') e'.domA fun a h => by
      rw [← cutB]
      rcases h with h | h
      · exact cut_in h
      · by_cases c : O a
        · exact cut_in c
        · rw [cut_out c]; exact e'.new a h
    rw [List.drop_eq_getElem_cons hlt] at w'
    unfold forL at w'
    refine hg O B ρ' σ' H2 x items[i] _ (e'.mono s2) rx ?_
    cases hput : tg.put items[i] ρ' with
    | none => rw [hput] at w'; exact w'.elim
    | some ρ2 =>
      rw [hput] at w'
      intro σ2 _ _ e2
      refine hb O B ρ2 σ2 H2 _ e2 ?_
      replace w' : OutW K mg E O H0 own D (match g ρ2 with | .nx ρ'' => forL tg g (items.drop (i + 1)) ρ'' | o => o) := w'
      cases q : g ρ2 with
      | nx ρ3 => rw [q] at w'; exact fun σ3 H3 e3 => ⟨ρ3, e3, w'⟩
      | rt d => rw [q] at w'; exact fun v H3 s3 r3 => w' v H3 (s0.trans s3) r3
      | exc c => rw [q] at w'; obtain ⟨C, a, b⟩ := w'; exact ⟨C, a, fun H3 s3 => b H3 (s0.trans s3)⟩
      | bad => rw [q] at w'; exact w'
  · have e : i = items.length := by omega
    subst e
    rw [List.drop_length] at w'
    exact .inl ⟨it.stop H' sb, w' σ' H' (back e')⟩
theorem ds_for {iter tgx : Expr} {body : List Stmt} {wi : TI} {fi : Ax} {gt : TG} {tg : Tgt} {tb : TS} (hp : PassesOwn (model X.prog X.w) X.A X.env X.xe) (hc : X.calm = true) (hi : DI X K mg E own tgx iter wi fi) (hg : DG X K own tgx gt tg) (hb : DSs X K mg E own own body tb g)
    (hs : ∀ x, foldedSetIterable iter X.env x = pure x := by intro _; rfl) : DS X K mg E own own (.For tgx iter body [] pos) (tFor wi gt tb) (gFor tg fi g) :=
  ⟨ps_for hp hc hi.pi hg.pg hb.ps hs, ts_for hi.ok hg.ok hb.ok⟩
/-- n turns at most -/
def whN (c : Tx) (g : Gx) : Nat → Gx
  | 0, _ => .bad
  | n + 1, ρ => (c ρ).out fun b => if b = true then (match g ρ with
    | .nx ρ' => whN c g n ρ'
    | o => o) else .nx ρ
open Classical in
noncomputable def gWh (c : Tx) (g : Gx) : Gx := fun ρ => if h : ∃ n, whN c g n ρ ≠ .bad then whN c g h.choose ρ else .bad
theorem whN_mono {c : Tx} {g : Gx} : ∀ {n m : Nat} {ρ : Rho}, whN c g n ρ ≠ .bad → n ≤ m → whN c g m ρ = whN c g n ρ
  | 0, _, _, h, _ => absurd rfl h
  | n + 1, 0, _, _, h => absurd h (by omega)
  | n + 1, m + 1, ρ, h, hl => by
    unfold whN at h ⊢
    cases q : c ρ with
    | exc z => rfl
    | bad => rfl
    | ok b =>
      rw [q] at h
      cases b with
      | false => rfl
      | true =>
        show (match g ρ with | .nx ρ' => whN c g m ρ' | o => o) = (match g ρ with | .nx ρ' => whN c g n ρ' | o => o)
        replace h : (match g ρ with | .nx ρ' => whN c g n ρ' | o => o) ≠ .bad := h
        cases q2 : g ρ with
        | nx ρ' => rw [q2] at h; exact whN_mono h (by omega)
        | rt d => rfl
        | exc z => rfl
        | bad => rfl
theorem gWh_of {c : Tx} {g : Gx} {ρ : Rho} {n : Nat} (h : whN c g n ρ ≠ .bad) : gWh c g ρ = whN c g n ρ := by
  have hx : ∃ n, whN c g n ρ ≠ .bad := ⟨n, h⟩
  unfold gWh
  rw [dif_pos hx]
  have h2 := hx.choose_spec
  rcases Nat.le_total n hx.choose with l | l
  · exact whN_mono h l
  · exact (whN_mono h2 l).symm
theorem ts_while {K : PySem.W.Frag} {mg : Str → Option Value} {tc : TT} {fc : Tx} {tb : TS} (hc : TTok K mg E own tc fc) (hb : TSok K mg E own own tb g) : TSok K mg E own own (tWhile tc tb) (gWh fc g) := fun O H0 ρ σ H D en w => by
  have hx : ∃ n, whN fc g n ρ ≠ .bad := Classical.byContradiction fun h => by unfold gWh at w; rw [dif_neg h] at w; exact w
  unfold gWh at w
  rw [dif_pos hx] at w
  generalize hx.choose = n at w
  refine ⟨fun m σ' H' => ∃ ρ', EnvOk K O H0 own ρ' σ' H' ∧ OutW K mg E O H0 own D (whN fc g m ρ'), ⟨n, ρ, en, w⟩, ?_⟩
  rintro m σ' H' ⟨ρ', e', w'⟩
  cases m with
  | zero => exact w'.elim
  | succ m =>
    unfold whN at w'
    refine hc O H0 ρ' σ' H' _ e' ((outW_out e' w').mono (Same.refl H') fun b wb H1 s1 => ?_)
    cases b with
    | false => exact iteF (wb σ' H1 (e'.mono s1))
    | true =>
      refine iteT ⟨fun σ2 H2 => ∃ ρ2, EnvOk K O H0 own ρ2 σ2 H2 ∧ OutW K mg E O H0 own D (whN fc g m ρ2), fun σ2 H2 h => ⟨m, Nat.lt_succ_self m, h⟩, hb O H0 ρ' σ' H1 _ (e'.mono s1) ?_⟩
      replace wb : OutW K mg E O H0 own D (match g ρ' with | .nx ρ'' => whN fc g m ρ'' | o => o) := wb
      cases q : g ρ' with
      | nx ρ3 => rw [q] at wb; exact fun σ3 H3 e3 => ⟨ρ3, e3, wb⟩
      | rt d => rw [q] at wb; exact wb
      | exc c => rw [q] at wb; exact wb
      | bad => rw [q] at wb; exact wb
theorem ds_while {body : List Stmt} {tc : TT} {fc : Tx} {tb : TS} (hp : PassesOwn (model X.prog X.w) X.A X.env X.xe) (hc : DT X K mg E own c tc fc) (hb : DSs X K mg E own own body tb g) : DS X K mg E own own (.While c body [] pos) (tWhile tc tb) (gWh fc g) :=
  ⟨ps_while hp hc.pt hb.ps, ts_while hc.ok hb.ok⟩
end

/-! ### defs and their calls -/
/-- what a def with n parameters is worth, by its body's -/
def run (N : Nat) (g : Gx) (ds : List D) : Res D := match g (ds.map some ++ List.replicate (N - ds.length) none) with
  | .nx _ => .ok .none
  | .rt d => .ok d
  | .exc c => .exc c
  | .bad => .bad
/-- THE PROMISE of a def: it is worth what f says -/
def spD (K : PySem.W.Frag) (mg : Str → Option Value) (n : Nat) (f : List D → Res D) : Sp := fun vs H Q E => vs.length = n ∧ ∃ (O : Addr → Prop) (ds : List D), Dom O H ∧ RAll K (Cut O H) vs ds ∧
  ResW mg E H (fun d => ∀ v H', Same H H' → R K (Cut O H') v d → Q v H') (f ds)
section
variable {P : Program} {w : World} {K : PySem.W.Frag} {mg : Str → Option Value} {base : Heap}
theorem env_start {O : Addr → Prop} {H : Hp} {vs : List V} {ds : List D} {N : List Str} (dom : Dom O H) (r : RAll K (Cut O H) vs ds) : EnvOk K O H [] (ds.map some ++ List.replicate (N.length - ds.length) none) (start N vs) H := by
  have none' : ∀ a, ¬ OwnA [] (start N vs) a := fun a ⟨i, m, _⟩ => by cases m
  have ca : AllA O [] (start N vs) = O := by
    funext a
    exact propext ⟨fun h => h.elim id fun z => (none' a z).elim, .inl⟩
  refine ⟨?_, Same.refl H, dom, fun a h => (none' a h).elim, fun a h => (none' a h).elim, fun i j a m => (by cases m), fun i d m q => ?_, fun i d m => (by cases m)⟩
  · unfold L2.start
    rw [List.length_append, List.length_append, List.length_map, List.length_map, List.length_replicate, List.length_replicate, r.length]
  · rw [ca]
    by_cases c : i < ds.length
    · rw [List.getElem?_append_left (by rw [List.length_map]; exact c), List.getElem?_map] at q
      obtain ⟨d', e, e2⟩ := Option.map_eq_some_iff.mp q
      cases e2
      obtain ⟨v, hv, rv⟩ := r.get e
      refine ⟨v, ?_, rv⟩
      unfold L2.start
      rw [List.getElem?_append_left (by rw [List.length_map, r.length]; exact c), List.getElem?_map, hv]
      rfl
    · rw [List.getElem?_append_right (by rw [List.length_map]; omega), List.getElem?_replicate] at q
      split at q <;> cases q
theorem ends_of {mg : Str → Option Value} {E : XK} {O : Addr → Prop} {H : Hp} {Q : VK} {N : Nat} {g : Gx} {ds : List D} (h : ResW mg E H (fun d => ∀ v H', Same H H' → R K (Cut O H') v d → Q v H') (run N g ds)) :
    OutW K mg E O H [] { nx := fun _ H' => Q .non H', rt := Q } (g (ds.map some ++ List.replicate (N - ds.length) none)) := by
  unfold run at h
  cases q : g (ds.map some ++ List.replicate (N - ds.length) none) with
  | nx ρ => rw [q] at h; exact fun σ' H' e => h .non H' e.base .non
  | rt d => rw [q] at h; exact h
  | exc c => rw [q] at h; exact h
  | bad => rw [q] at h; exact h
def callD (n : Nat) (fM : List D → Res D) (g : Ax) : Ex := fun ρ => (g ρ).bind fun ds => if ds.length = n then fM ds else .bad
theorem de_call {X : Cx} {K : PySem.W.Frag} {mg : Str → Option Value} {E : XK} {own : List Nat} {CX : CXT} {k n : Nat} {f : Addr} {fd : FuncData} {ps : List Str} {fM : List D → Res D} {x : Str} {p pos : Pos} {e : Expr} {es : List Expr} {t : TA} {g : Ax}
    (F : FnOk X.prog X.w X.K X.mg X.base CX k f fd ps (spD X.K X.mg n fM)) (hr : Room k X.A) (hg : Gl X x) (hm : X.mg x = some (.ref f)) (hk : PySem.W.keepIn X.K (.ref f) = true) (hb : Binds X.K fd ps []) (hx : Passes CX X E)
    (ha : DA X K mg E own (e :: es) t g) (hdb : (x == ("__debug__" : Str)) = false := by decide) (he : starEach (e :: es) X.env = (false, eval e X.env) :: starEach es X.env := by rfl) (hpl : (backTo pos (starEach es X.env)).any (·.1) = false := by rfl) (hK : X.K = K := by rfl) (hmg : X.mg = mg := by rfl) :
    DE X K mg E own (.Call (.Name x p) (e :: es) [] pos) (tCall (spD K mg n fM) [] E t) (callD n fM g) := by
  subst hK hmg
  exact ⟨pe_call F hr hg hm hk hb .nil hx ha.pa hdb he hpl, fun O H0 ρ σ H Q en w => by
    unfold callD at w
    rw [resW_bind] at w
    refine ha.ok O H0 ρ σ H _ en (w.mono (Same.refl H) fun ds wd vs H1 s1 r1 => ?_)
    by_cases c : ds.length = n
    · rw [if_pos c] at wd
      rw [List.append_nil]
      exact ⟨by rw [r1.length, c], AllA O own σ, ds, en.domA.same s1, r1, wd.mono s1 fun d k v H' s r => k v H' (s1.trans s) r⟩
    · rw [if_neg c] at wd; exact wd.elim⟩
/-- a def of which nothing is raised -/
theorem def_ok {x qual : Str} {st : Stmt} {f : Addr} {fd : FuncData} {N ps : List Str} {k n : Nat} {g : Gx} (F : Fun K x qual st f fd) (S : FnScope N ps (defScope st)) (hn : ps.length = n)
    (hbody : ∀ (cdv : Value) (A : Around) (outer : List Env) (s : Shared) (H : Hp) (E : XK), Room k (A.deeper (envOfC qual (defScope st) s.heap.objs.size f cdv)) →
      ∃ (own' : List Nat) (t : TS), DSs (cxOf CX0 P w K mg base N qual (defScope st) f cdv A outer s H E).nox K mg E0' [] own' (defBody st) t g) : FnOk P w K mg base CX0 (k + 1) f fd ps (spD K mg n fun ds => (run N.length g ds).calm) := by
  refine F.ok S (fun vs H Q E h => by rw [h.1, hn]) fun cdv A outer s H vs Q E hr h => ?_
  obtain ⟨own', t, hb⟩ := hbody cdv A outer s H E hr
  obtain ⟨_, O, ds, dom, r, w⟩ := h
  refine ⟨t, hb.ps, ts_out hb.ok (fun i m => by cases m) O H _ _ H _ (env_start dom r) (ends_of (resW_calm w))⟩
end
end DL
end

section
set_option Elab.async false
set_option linter.all false
set_option maxRecDepth 100000
set_option maxHeartbeats 2000000
set_option autoImplicit false
/-! DL7: short words for the walks that a program prints. -/
namespace DL
open PySem PySem.Spec PyProof.Rows L2

/-! ### defs as the head tells them -/
structure Def (P : Program) (w : World) (K : PySem.W.Frag) (mg : Str → Option Value) (base : Heap) (x : Str) (ps : List Str) (k n : Nat) (fM : List D → Res D) : Prop where
  ex : ∃ (f : Addr) (fd : FuncData), mg x = some (.ref f) ∧ PySem.W.keepIn K (.ref f) = true ∧ (∃ oc od osl, K.lookup f = some ⟨oc, od, .func fd, osl⟩) ∧ Binds K fd ps [] ∧ FnOk P w K mg base CX0 k f fd ps (spD K mg n fun ds => (fM ds).calm)
/-- where a def of the text stands -/
structure At (K : PySem.W.Frag) (mg : Str → Option Value) (x : Str) (st : Stmt) : Prop where
  ex : ∃ (f : Addr) (fd : FuncData), mg x = some (.ref f) ∧ FunD K x x (defArgs st) (defBody st) (defScope st) [] [] f fd
section
variable {P : Program} {w : World} {K : PySem.W.Frag} {mg : Str → Option Value} {base : Heap}
theorem mkDef {x : Str} {st : Stmt} {N ps : List Str} {n : Nat} (g : Gx) {fM : List D → Res D} (hM : fM = run N.length g) (k : Nat) (T : At K mg x st) (S : FnScope N ps (defScope st)) (hn : ps.length = n)
    (hbind : ∀ (kV doc pm : Value) (an : Option Addr) (cdv ct : Value) (us : List Value), us.length = ps.length → bindArgs (PySem.W.fnOf x x (defArgs st) (defBody st) (defScope st) .none kV doc pm an cdv ct) ⟨us, []⟩ = pure (ps.zip us))
    (hbody : ∀ (cdv : Value) (A : Around) (outer : List Env) (s : Shared) (H : Hp) (E : XK) (f : Addr), Room k (A.deeper (envOfC x (defScope st) s.heap.objs.size f cdv)) →
      ∃ (own' : List Nat) (t : TS), DSs (cxOf CX0 P w K mg base N x (defScope st) f cdv A outer s H E).nox K mg E0' [] own' (defBody st) t g) : Def P w K mg base x ps (k + 1) n fM := by
  subst hM
  obtain ⟨f, fd, hm, F⟩ := T.ex
  refine ⟨f, fd, hm, F.kp, (let ⟨oc, od, _, _, _, _, _, _, _, osl, _, lk, _⟩ := F.ex; ⟨oc, od, osl, lk⟩), F.bindsN hbind, F.ok S (fun vs H Q E h => by rw [h.1, hn]) fun cdv A outer s H vs Q E hr h => ?_⟩
  obtain ⟨own', t, hb⟩ := hbody cdv A outer s H E f hr
  obtain ⟨_, O, ds, dom, r, w⟩ := h
  exact ⟨t, hb.ps.nox, ts_out hb.ok (fun i m => by cases m) O H _ _ H _ (env_start dom r) (ends_of (resW_calm w))⟩
end
/-- a call of a def of which nothing is raised here -/
theorem de_fn {X : Cx} {K : PySem.W.Frag} {mg : Str → Option Value} {own : List Nat} {k n : Nat} {fM : List D → Res D} {x : Str} {ps : List Str} {p pos : Pos} {e : Expr} {es : List Expr} {t : TA} {g : Ax}
    (G : Def X.prog X.w X.K X.mg X.base x ps k n fM) (hr : Room k X.A) (ha : DA X K mg E0' own (e :: es) t g) (hg : Gl X x := by rfl) (hdb : (x == ("__debug__" : Str)) = false := by decide) (he : starEach (e :: es) X.env = (false, eval e X.env) :: starEach es X.env := by rfl) (hpl : (backTo pos (starEach es X.env)).any (·.1) = false := by rfl) (hK : X.K = K := by rfl) (hmg : X.mg = mg := by rfl) :
    DE X K mg E0' own (.Call (.Name x p) (e :: es) [] pos) (tCall (spD K mg n fun ds => (fM ds).calm) [] E0' t) (callD n fM g) := by
  subst hK hmg
  obtain ⟨f, fd, hm, hk, _, hb, F⟩ := G.ex
  have q := de_call (p := p) (E := E0') (own := own) F hr hg hm hk hb pass0 ha hdb he hpl
  refine ⟨q.pe, fun O H0 ρ σ H Q en w => q.ok O H0 ρ σ H Q en ?_⟩
  unfold callD at w ⊢
  rw [resW_bind] at w ⊢
  refine w.mono (Same.refl H) fun ds wd => ?_
  by_cases c : ds.length = n
  · rw [if_pos c] at wd ⊢
    show ResW X.mg E0' H _ ((fM ds).calm)
    cases q : fM ds with
    | ok d => rw [q] at wd; exact wd
    | exc c => rw [q] at wd; obtain ⟨_, _, z⟩ := wd; exact (z H (Same.refl H)).elim
    | bad => rw [q] at wd; exact wd
  · rw [if_neg c] at wd; exact wd.elim
theorem de_fn0 {X : Cx} {K : PySem.W.Frag} {mg : Str → Option Value} {own : List Nat} {k : Nat} {fM : List D → Res D} {x : Str} {ps : List Str} {p pos : Pos}
    (G : Def X.prog X.w X.K X.mg X.base x ps k 0 fM) (hr : Room k X.A) (hg : Gl X x := by rfl) (hdb : (x == ("__debug__" : Str)) = false := by decide) (hK : X.K = K := by rfl) (hmg : X.mg = mg := by rfl) :
    DE X K mg E0' own (.Call (.Name x p) [] [] pos) (tCall (spD K mg 0 fun ds => (fM ds).calm) [] E0' tNil) (callD 0 fM aNil) := by
  subst hK hmg
  obtain ⟨f, fd, hm, hk, _, hb, F⟩ := G.ex
  refine ⟨pe_call0 F hr hg hm hk hb .nil pass0 hdb, fun O H0 ρ σ H Q en w => ⟨rfl, AllA O own σ, [], en.domA, .nil, ?_⟩⟩
  have w : ResW X.mg E0' H (fun d => ∀ v H', Same H H' → R X.K (Cut (AllA O own σ) H') v d → Q v H') (fM []) := w
  show ResW X.mg E0' H _ ((fM []).calm)
  cases q : fM [] with
  | ok d => rw [q] at w; exact w
  | exc c => rw [q] at w; obtain ⟨_, _, z⟩ := w; exact (z H (Same.refl H)).elim
  | bad => rw [q] at w; exact w
/-- a raise that is never come to -/
def gRaise (c : Str) : Gx := fun _ => .exc c
theorem ds_raise0 {X : Cx} {K : PySem.W.Frag} {mg : Str → Option Value} {own own' : List Nat} {st : Stmt} (c : Str) : DS X K mg E0' own own' st tNever (gRaise c) :=
  ⟨ps_never, fun O H0 ρ σ H D en w => by obtain ⟨_, _, z⟩ := w; exact z H en.base⟩

/-! ### the module's constants -/
structure Cst (K : PySem.W.Frag) (mg : Str → Option Value) (x : Str) (v : V) (d : D) : Prop where
  u : ∃ u, mg x = some u ∧ RelV v u
  r : ∀ H, R K H v d
theorem cst_int {K : PySem.W.Frag} {mg : Str → Option Value} {x : Str} {i : Int} (h : ∃ t, mg x = some (.int i t)) : Cst K mg x (.int i) (.int i) := by
  obtain ⟨t, h⟩ := h
  exact ⟨⟨_, h, ⟨t, rfl⟩⟩, fun _ => .int i⟩
theorem cst_two {K : PySem.W.Frag} {mg : Str → Option Value} {x : Str} {i j : Int} (h : mg x = some (.ref (He.ga K x))) (q : He.tupB K x [.int i, .int j] = true) : Cst K mg x (.ref (He.ga K x)) (.tuple [.int i, .int j]) :=
  ⟨⟨_, h, rfl⟩, fun H => .tup (He.tupB_ok q H) (.cons (.int i) (.cons (.int j) .nil))⟩
section
variable {X : Cx} {K : PySem.W.Frag} {mg : Str → Option Value} {E : XK} {own : List Nat} {a b c e : Expr} {ta tb tc : TE} {fa fb fc : Ex} {p pos : Pos}
theorem de_cst {x : Str} {v : V} {d : D} (h : Cst X.K X.mg x v d) (hg : Gl X x := by rfl) (hd : (x == ("__debug__" : Str)) = false := by decide) (hK : X.K = K := by rfl) : DE X K mg E own (.Name x pos) (tC v) (kc d) := by
  subst hK
  obtain ⟨⟨u, hm, r⟩, hr⟩ := h
  exact de_glob hg hm r hr hd

/-! ### operators in short -/
theorem de_add (ha : DE X K mg E own a ta fa) (hb : DE X K mg E own b tb fb) (hK : X.K = K := by rfl) : DE X K mg E own (.BinOp a .Add b pos) (tOp (rAddD K) ta tb) (bin fa fb dAdd) := by
  subst hK
  exact de_op op_addD od_add ha hb
theorem de_sub (ha : DE X K mg E own a ta fa) (hb : DE X K mg E own b tb fb) : DE X K mg E own (.BinOp a .Sub b pos) (tOp (rI0 fun i j => .int (i - j)) ta tb) (bin fa fb dSub) := de_op op_sub od_sub ha hb
theorem de_mul (ha : DE X K mg E own a ta fa) (hb : DE X K mg E own b tb fb) (hK : X.K = K := by rfl) : DE X K mg E own (.BinOp a .Mult b pos) (tOp (rMulD K) ta tb) (bin fa fb dMul) := by
  subst hK
  exact de_op op_mulD od_mul ha hb
theorem de_div (ha : DE X K mg E own a ta fa) (hb : DE X K mg E own b tb fb) : DE X K mg E own (.BinOp a .FloorDiv b pos) (tOp (rI (fun i j => j ≠ 0 ∧ Builtin.divisionGoesByPylong i j = false) fun i j => .int (i.fdiv j)) ta tb) (bin fa fb dDiv) := de_op op_divD od_div ha hb
theorem de_mod (ha : DE X K mg E own a ta fa) (hb : DE X K mg E own b tb fb) : DE X K mg E own (.BinOp a .Mod b pos) (tOp (rI (fun _ j => j ≠ 0) fun i j => .int (i.fmod j)) ta tb) (bin fa fb dMod) := de_op op_modN od_mod ha hb
theorem de_pow (ha : DE X K mg E own a ta fa) (hb : DE X K mg E own b tb fb) : DE X K mg E own (.BinOp a .Pow b pos) (tOp (rI CPow fun i j => .int (i ^ j.toNat)) ta tb) (bin fa fb dPow) := de_op op_pow od_pow ha hb
theorem hu64 {A : Around} {k : Nat} (hr : Room k A) : A.units + 64 < cLine := by have := hr.un; omega
theorem hu65 {A : Around} {k : Nat} (hr : Room k A) : A.units + 65 < cLine := by have := hr.un; omega
theorem hu1 {A : Around} {k : Nat} (hr : Room k A) : A.units + 1 < cLine := by have := hr.un; omega
theorem de_eq {k : Nat} (hr : Room k X.A) (ha : DE X K mg E own a ta fa) (hb : DE X K mg E own b tb fb) (hK : X.K = K := by rfl) : DE X K mg E own (.Compare a [.Eq] [b] pos) (tOp (rEqD K) ta tb) (bin fa fb dEq) := by
  subst hK
  exact de_cmp (op_eqD (hu64 hr)) od_eq ha hb (nomark _)
theorem de_ne {k : Nat} (hr : Room k X.A) (ha : DE X K mg E own a ta fa) (hb : DE X K mg E own b tb fb) (hK : X.K = K := by rfl) : DE X K mg E own (.Compare a [.NotEq] [b] pos) (tOp (rNeD K) ta tb) (bin fa fb dNe) := by
  subst hK
  exact de_cmp (op_neD (hu64 hr)) od_ne ha hb (nomark _)
theorem de_lt (ha : DE X K mg E own a ta fa) (hb : DE X K mg E own b tb fb) : DE X K mg E own (.Compare a [.Lt] [b] pos) (tOp (rI0 fun i j => .bl (decide (i < j))) ta tb) (bin fa fb dLt) := de_cmp op_lt (od_cmp _) ha hb (nomark _)
theorem de_le (ha : DE X K mg E own a ta fa) (hb : DE X K mg E own b tb fb) : DE X K mg E own (.Compare a [.LtE] [b] pos) (tOp (rI0 fun i j => .bl (decide (i ≤ j))) ta tb) (bin fa fb dLe) := de_cmp op_le (od_cmp _) ha hb (nomark _)
theorem de_gt (ha : DE X K mg E own a ta fa) (hb : DE X K mg E own b tb fb) : DE X K mg E own (.Compare a [.Gt] [b] pos) (tOp (rI0 fun i j => .bl (decide (j < i))) ta tb) (bin fa fb dGt) := de_cmp op_gt (od_cmp _) ha hb (nomark _)
theorem de_ge (ha : DE X K mg E own a ta fa) (hb : DE X K mg E own b tb fb) : DE X K mg E own (.Compare a [.GtE] [b] pos) (tOp (rI0 fun i j => .bl (decide (j ≤ i))) ta tb) (bin fa fb dGe) := de_cmp op_ge (od_cmp _) ha hb (nomark _)
theorem de_is (ha : DE X K mg E own a ta fa) (hb : DE X K mg E own b tb fb) : DE X K mg E own (.Compare a [.Is] [b] pos) (tOp (fun x y H Q => y = .non ∧ Q (.bl (decide (x = .non))) H) ta tb) (bin fa fb dIs) := de_cmp op_isN od_is ha hb (nomark _)
theorem de_isnot (ha : DE X K mg E own a ta fa) (hb : DE X K mg E own b tb fb) : DE X K mg E own (.Compare a [.IsNot] [b] pos) (tOp (fun x y H Q => y = .non ∧ Q (.bl (!decide (x = .non))) H) ta tb) (bin fa fb dIsNot) := de_cmp op_notN od_isnot ha hb (nomark _)
theorem de_in {k : Nat} (hr : Room k X.A) (ha : DE X K mg E own a ta fa) (hb : DC X K mg E own b tb fb) (hm : behindInMarks .In b = false := by rfl) (hK : X.K = K := by rfl) : DE X K mg E own (.Compare a [.In] [b] pos) (tOp (rInA K) ta tb) (bin fa fb dIn) := by
  subst hK
  exact de_cmpC (op_inA (hu65 hr)) oc_in ha hb hm
theorem de_notin {k : Nat} (hr : Room k X.A) (ha : DE X K mg E own a ta fa) (hb : DC X K mg E own b tb fb) (hm : behindInMarks .NotIn b = false := by rfl) (hK : X.K = K := by rfl) : DE X K mg E own (.Compare a [.NotIn] [b] pos) (tOp (rNotInA K) ta tb) (bin fa fb dNotIn) := by
  subst hK
  exact de_cmpC (op_notInA (hu65 hr)) oc_notin ha hb hm

/-! ### comparisons as tests -/
theorem tt_of_te {K : PySem.W.Frag} {mg : Str → Option Value} {t : TE} {f : Ex} (h : TEok K mg E own t f) : TTok K mg E own (tTest t) (asB f) := fun O H0 ρ σ H Q en w => by
  unfold asB at w
  rw [resW_bind] at w
  refine h O H0 ρ σ H _ en (w.mono (Same.refl H) fun d wd v H1 s1 r1 => ?_)
  cases d <;> first | exact wd.elim | skip
  rw [r1.bool_of]
  exact ⟨_, rfl, wd H1 s1⟩
theorem dt_cmp {o : CmpOp} {op : D → D → Option D} {r : R2} (ho : OpR X (compareOp o) r) (hr : OpD K r op) (ha : DE X K mg E own a ta fa) (hb : DE X K mg E own b tb fb) (hm : behindInMarks o b = false) : DT X K mg E own (.Compare a [o] [b] pos) (tTest (tOp r ta tb)) (asB (bin fa fb op)) :=
  ⟨pt_cmpR ho ha.pe hb.pe hm, tt_of_te (te_op hr ha.ok hb.ok)⟩
theorem dt_cmpC {o : CmpOp} {op : D → D → Option D} {r : R2} (ho : OpR X (compareOp o) r) (hr : OpCR K r op) (ha : DE X K mg E own a ta fa) (hb : DC X K mg E own b tb fb) (hm : behindInMarks o b = false) : DT X K mg E own (.Compare a [o] [b] pos) (tTest (tOp r ta tb)) (asB (bin fa fb op)) :=
  ⟨pt_cmpR ho ha.pe hb.pe hm, tt_of_te (te_opR hr ha.ok hb.ok)⟩
theorem dt_eq {k : Nat} (hr : Room k X.A) (ha : DE X K mg E own a ta fa) (hb : DE X K mg E own b tb fb) (hK : X.K = K := by rfl) : DT X K mg E own (.Compare a [.Eq] [b] pos) (tTest (tOp (rEqD K) ta tb)) (asB (bin fa fb dEq)) := by
  subst hK
  exact dt_cmp (op_eqD (hu64 hr)) od_eq ha hb (nomark _)
theorem dt_ne {k : Nat} (hr : Room k X.A) (ha : DE X K mg E own a ta fa) (hb : DE X K mg E own b tb fb) (hK : X.K = K := by rfl) : DT X K mg E own (.Compare a [.NotEq] [b] pos) (tTest (tOp (rNeD K) ta tb)) (asB (bin fa fb dNe)) := by
  subst hK
  exact dt_cmp (op_neD (hu64 hr)) od_ne ha hb (nomark _)
theorem dt_lt (ha : DE X K mg E own a ta fa) (hb : DE X K mg E own b tb fb) : DT X K mg E own (.Compare a [.Lt] [b] pos) (tTest (tOp (rI0 fun i j => .bl (decide (i < j))) ta tb)) (asB (bin fa fb dLt)) := dt_cmp op_lt (od_cmp _) ha hb (nomark _)
theorem dt_le (ha : DE X K mg E own a ta fa) (hb : DE X K mg E own b tb fb) : DT X K mg E own (.Compare a [.LtE] [b] pos) (tTest (tOp (rI0 fun i j => .bl (decide (i ≤ j))) ta tb)) (asB (bin fa fb dLe)) := dt_cmp op_le (od_cmp _) ha hb (nomark _)
theorem dt_gt (ha : DE X K mg E own a ta fa) (hb : DE X K mg E own b tb fb) : DT X K mg E own (.Compare a [.Gt] [b] pos) (tTest (tOp (rI0 fun i j => .bl (decide (j < i))) ta tb)) (asB (bin fa fb dGt)) := dt_cmp op_gt (od_cmp _) ha hb (nomark _)
theorem dt_ge (ha : DE X K mg E own a ta fa) (hb : DE X K mg E own b tb fb) : DT X K mg E own (.Compare a [.GtE] [b] pos) (tTest (tOp (rI0 fun i j => .bl (decide (j ≤ i))) ta tb)) (asB (bin fa fb dGe)) := dt_cmp op_ge (od_cmp _) ha hb (nomark _)
theorem dt_is (ha : DE X K mg E own a ta fa) (hb : DE X K mg E own b tb fb) : DT X K mg E own (.Compare a [.Is] [b] pos) (tTest (tOp (fun x y H Q => y = .non ∧ Q (.bl (decide (x = .non))) H) ta tb)) (asB (bin fa fb dIs)) := dt_cmp op_isN od_is ha hb (nomark _)
theorem dt_isnot (ha : DE X K mg E own a ta fa) (hb : DE X K mg E own b tb fb) : DT X K mg E own (.Compare a [.IsNot] [b] pos) (tTest (tOp (fun x y H Q => y = .non ∧ Q (.bl (!decide (x = .non))) H) ta tb)) (asB (bin fa fb dIsNot)) := dt_cmp op_notN od_isnot ha hb (nomark _)
theorem dt_in {k : Nat} (hr : Room k X.A) (ha : DE X K mg E own a ta fa) (hb : DC X K mg E own b tb fb) (hm : behindInMarks .In b = false := by rfl) (hK : X.K = K := by rfl) : DT X K mg E own (.Compare a [.In] [b] pos) (tTest (tOp (rInA K) ta tb)) (asB (bin fa fb dIn)) := by
  subst hK
  exact dt_cmpC (op_inA (hu65 hr)) oc_in ha hb hm
theorem dt_notin {k : Nat} (hr : Room k X.A) (ha : DE X K mg E own a ta fa) (hb : DC X K mg E own b tb fb) (hm : behindInMarks .NotIn b = false := by rfl) (hK : X.K = K := by rfl) : DT X K mg E own (.Compare a [.NotIn] [b] pos) (tTest (tOp (rNotInA K) ta tb)) (asB (bin fa fb dNotIn)) := by
  subst hK
  exact dt_cmpC (op_notInA (hu65 hr)) oc_notin ha hb hm

/-! ### built-ins in short -/
theorem bt_len : bootBuiltins "len" = some (.builtin "len") := by decide +kernel
theorem bt_abs : bootBuiltins "abs" = some (.builtin "abs") := by decide +kernel
theorem bt_any : bootBuiltins "any" = some (.builtin "any") := by decide +kernel
theorem bt_all : bootBuiltins "all" = some (.builtin "all") := by decide +kernel
theorem bt_sorted : bootBuiltins "sorted" = some (.builtin "sorted") := by decide +kernel
theorem bt_sum : bootBuiltins "sum" = some (.builtin "sum") := by decide +kernel
theorem bt_int : bootBuiltins "int" = some (.type "int") := by decide +kernel
theorem bt_bool : bootBuiltins "bool" = some (.type "bool") := by decide +kernel
theorem bt_str : bootBuiltins "str" = some (.type "str") := by decide +kernel
theorem bt_tuple : bootBuiltins "tuple" = some (.type "tuple") := by decide +kernel
theorem bt_list : bootBuiltins "list" = some (.type "list") := by decide +kernel
section
variable (he : starEach (a :: []) X.env = (false, eval a X.env) :: starEach [] X.env := by rfl) (hpl : (backTo pos (starEach [] X.env)).any (·.1) = false := by rfl)
theorem de_len (hm : X.mg "len" = none) (ha : DC X K mg E own a ta fa) (hg : Gl X "len" := by rfl) (he : starEach (a :: []) X.env = (false, eval a X.env) :: starEach [] X.env := by rfl) (hpl : (backTo pos (starEach [] X.env)).any (·.1) = false := by rfl) (hK : X.K = K := by rfl) :
    DE X K mg E own (.Call (.Name "len" p) [a] [] pos) (tCB (rLenA K) (tCons ta tNil)) (un fa dLen) := by
  subst hK
  exact de_callB1 call_lenA cc_len hg hm bt_len ha (by decide) (by decide) he hpl
theorem de_abs (hm : X.mg "abs" = none) (ha : DC X K mg E own a ta fa) (hg : Gl X "abs" := by rfl) (he : starEach (a :: []) X.env = (false, eval a X.env) :: starEach [] X.env := by rfl) (hpl : (backTo pos (starEach [] X.env)).any (·.1) = false := by rfl) :
    DE X K mg E own (.Call (.Name "abs" p) [a] [] pos) (tCB (fun xs H Q => ∃ i, xs = [.int i] ∧ Q (.int (if i < 0 then -i else i)) H) (tCons ta tNil)) (un fa dAbs) := de_callB1 call_abs cc_abs hg hm bt_abs ha (by decide) (by decide) he hpl
theorem de_any (hm : X.mg "any" = none) (hc : X.calm = true) (ha : DC X K mg E own a ta fa) (hg : Gl X "any" := by rfl) (he : starEach (a :: []) X.env = (false, eval a X.env) :: starEach [] X.env := by rfl) (hpl : (backTo pos (starEach [] X.env)).any (·.1) = false := by rfl) (hK : X.K = K := by rfl) :
    DE X K mg E own (.Call (.Name "any" p) [a] [] pos) (tCB (rAny K) (tCons ta tNil)) (un fa dAny) := by
  subst hK
  exact de_callB1 (cr_any hc) cc_any hg hm bt_any ha (by decide) (by decide) he hpl
theorem de_all (hm : X.mg "all" = none) (hc : X.calm = true) (ha : DC X K mg E own a ta fa) (hg : Gl X "all" := by rfl) (he : starEach (a :: []) X.env = (false, eval a X.env) :: starEach [] X.env := by rfl) (hpl : (backTo pos (starEach [] X.env)).any (·.1) = false := by rfl) (hK : X.K = K := by rfl) :
    DE X K mg E own (.Call (.Name "all" p) [a] [] pos) (tCB (rAll K) (tCons ta tNil)) (un fa dAll) := by
  subst hK
  exact de_callB1 (cr_all hc) cc_all hg hm bt_all ha (by decide) (by decide) he hpl
theorem de_sorted (hm : X.mg "sorted" = none) (ha : DC X K mg E own a ta fa) (hg : Gl X "sorted" := by rfl) (he : starEach (a :: []) X.env = (false, eval a X.env) :: starEach [] X.env := by rfl) (hpl : (backTo pos (starEach [] X.env)).any (·.1) = false := by rfl) (hK : X.K = K := by rfl) :
    DE X K mg E own (.Call (.Name "sorted" p) [a] [] pos) (tCB (rSortedI K) (tCons ta tNil)) (un fa dSorted) := by
  subst hK
  exact de_callB1 cr_sortedI cc_sorted hg hm bt_sorted ha (by decide) (by decide) he hpl
theorem de_intOf (hm : X.mg "int" = none) (ha : DC X K mg E own a ta fa) (hg : Gl X "int" := by rfl) (he : starEach (a :: []) X.env = (false, eval a X.env) :: starEach [] X.env := by rfl) (hpl : (backTo pos (starEach [] X.env)).any (·.1) = false := by rfl) :
    DE X K mg E own (.Call (.Name "int" p) [a] [] pos) (tCB (fun xs H Q => (∃ i, xs = [V.int i] ∧ Q (.int i) H) ∨ ∃ k, xs = [V.bl k] ∧ Q (.int (if k then 1 else 0)) H) (tCons ta tNil)) (un fa dInt) := de_callT1 call_int1 cc_int hg hm bt_int ha (by decide) (by decide) he hpl
theorem de_tupleOf (hm : X.mg "tuple" = none) (ha : DC X K mg E own a ta fa) (hg : Gl X "tuple" := by rfl) (he : starEach (a :: []) X.env = (false, eval a X.env) :: starEach [] X.env := by rfl) (hpl : (backTo pos (starEach [] X.env)).any (·.1) = false := by rfl) (hK : X.K = K := by rfl) :
    DE X K mg E own (.Call (.Name "tuple" p) [a] [] pos) (tCB (fun xs H Q => ∃ p ys, xs = [.ref p] ∧ ((SqL K H p ys ∧ ∀ l, H l = none → Q (.ref l) (upd H l (.tup ys))) ∨ (SqT K H p ys ∧ Q (.ref p) H))) (tCons ta tNil)) (un fa dTuple) := by
  subst hK
  exact de_callT1 call_tuple_of cc_tuple hg hm bt_tuple ha (by decide) (by decide) he hpl
end

/-! ### sum(d.values()) -/
def dSumV : D → Option D
  | .dict kvs => if isDic kvs = true then (allI (kvs.map (·.2))).map fun ns => .int ns.sum else none
  | _ => none
/-- d's value, then the sum of its values -/
def tSumV (td : TE) : TE := fun σ H Q => td σ H fun x H1 => ∃ d kvs, ∃ ns : List Int, x = .ref d ∧ Rd H1 d (.dK kvs) ∧ kvs.map (·.2) = ns.map V.int ∧ Q (.int ns.sum) H1
section
open PySem.W PyProof.V
theorem sum_of_src {prog : Program} {w : World} {A : Around} {E : Value → Shared → Prop} {s : Shared} {T : String} {r d : Addr} {n : Nat} {Pi : Nat → Value → Prop} {Good : Heap → Prop} {Q : Value → Shared → Prop}
    (src : KdlSrc prog w T r d n Pi Good) (hA : A.handled = none) (good : Good s.heap) (val : Nat → Int) (hv : ∀ i v, Pi i v → ∃ t, v = .int (val i) t)
    (fin : ∀ h' tk t', (∀ b o, s.heap.get? b = some o → h'.get? b = some o) → Q (.int (preSum val n) t') { s with heap := h', toks := tk }) : wpAny (model prog w) A (call (.builtin "sum") [.ref r]) Q E s := by
  obtain ⟨oI, St, begins, walk, st0⟩ := src.iter A.in1 s hA good
  refine call_sum_walkAnyS (begins _ _ ⟨s.heap.objs.size, _, _, _, n, Pi, _, val, rfl, walk.toS, st0, fun b hb => ?_, hv, fun s' t' mv => ?_⟩)
  · have e : (s.heap.push oI).objs.size = s.heap.objs.size + 1 := Heap.size_push _ _
    have h2 := (src.there _ good).2
    show b < (s.heap.push oI).objs.size
    rw [e]
    have hb' : b = s.heap.objs.size ∨ b = d := by simpa using hb
    rcases hb' with z | z
    · rw [z]; exact Nat.lt_succ_self _
    · rw [z]; exact Nat.lt_succ_of_lt h2
  · rw [Moved.eq_with mv]
    refine fin s'.heap s'.toks t' fun b o e => mv.heap b o (fun z => ?_) (Heap.get?_push_of_some _ e)
    rw [List.mem_singleton.mp z] at e
    exact absurd (Heap.lt_size e) (Nat.lt_irrefl _)
end
theorem preSum_map (ns : List Int) : PySem.preSum (fun i => ns.getD i 0) ns.length = ns.sum := by
  have gen : ∀ n, n ≤ ns.length → PySem.preSum (fun i => ns.getD i 0) n = (ns.take n).sum := by
    intro n
    induction n with
    | zero => intro _; rfl
    | succ n ih =>
      intro h
      show PySem.preSum (fun i => ns.getD i 0) n + ns.getD n 0 = _
      rw [ih (by omega), List.take_succ_eq_append_getElem (by omega), List.sum_append]
      simp [List.getD, List.getElem?_eq_getElem (show n < ns.length by omega)]
  rw [gen _ (Nat.le_refl _), List.take_length]
theorem paired_getR {α β : Type} {G : α → β → Prop} {l₁ : List α} {l₂ : List β} (h : Paired G l₁ l₂) : ∀ {i : Nat} {b : β}, l₂[i]? = some b → ∃ a, l₁[i]? = some a ∧ G a b := by
  induction h with
  | nil => intro i b e; simp at e
  | cons r t ih =>
    intro i b e
    cases i with
    | zero => simp at e; subst e; exact ⟨_, rfl, r⟩
    | succ i => obtain ⟨a, x, y⟩ := ih (i := i) (b := b) (by simpa using e); exact ⟨a, by simpa using x, y⟩
theorem pe_sumV {td : TE} {apos cpos : Pos} (hc : X.calm = true) (hg : Gl X "sum") (hm : X.mg "sum" = none) (he : PE X e td) (hbase : attributeBase e "values" X.env (eval e X.env) = eval e X.env := by rfl) (hline : (apos.endLine == cpos.line) = true := by rfl)
    (hs : starEach [.Call (.Attribute e "values" apos) [] [] cpos] X.env = (false, eval (.Call (.Attribute e "values" apos) [] [] cpos) X.env) :: starEach [] X.env := by rfl) (hpl : (backTo pos (starEach [] X.env)).any (·.1) = false := by rfl) :
    PE X (.Call (.Name "sum" p) [.Call (.Attribute e "values" apos) [] [] cpos] [] pos) (tSumV td) := by
  refine ⟨fun pins s σ H Q I h => ?_⟩
  refine wpAny_Call_Name_kw (ld_blt I hg hm bt_sum ?_ (by decide) (by decide))
  refine PyProof.Rows.callWith_builtin1 ?_ hs hpl
  -- the argument: the view
  have arg : wpAny (model X.prog X.w) X.A (eval (.Call (.Attribute e "values" apos) [] [] cpos) X.env) (fun u s1 => ∃ d kvs vs, ∃ ns : List Int, ∃ H1, u = .ref d ∧ Inv X pins σ H1 s1 ∧ (∃ dd ep, s1.heap.IsValuesView d dd ∧ s1.heap.DictAt (mixKind X.prog X.w) dd vs ep) ∧ KV kvs vs ∧ kvs.map (·.2) = ns.map V.int ∧ Q (.int ns.sum) H1) X.xe s := by
    refine wpAny_Call_method (T := "dict") (id := "dict.values") hbase rfl hline PySem.F.plainAttrs_dict PySem.F.slot_dict_values PySem.F.type_dict_values (thn (he.run pins s σ H _ I h) fun u s1 ⟨x, H1, I1, rx, d, kvs, ns, ex, hd, hk, q⟩ => ?_)
    subst ex
    obtain rfl : u = Value.ref d := rx
    obtain ⟨z, hsys, vs, kv, dd⟩ := dk_rd I1.hok hd
    refine ⟨dd.typeIs, dd.mapOf.noDict, ?_⟩
    obtain ⟨ep, da⟩ := dd.dictAt
    have I2 : Inv X pins σ H1 { s1 with heap := s1.heap.push { cls := .type "dict_values", data := .fields #[.ref d] } } := I1.kept (t' := s1.toks) fun b ob q => Heap.get?_push_of_some _ q
    show wpAny _ _ (callWith cpos (.builtin "dict.values") [.ref d] [] []) _ X.xe s1
    refine method_meetsIn PySem.F.slot_dict_values PySem.F.entry_dict_values rfl (PySem.evalArgs_none ⟨rfl, dd.typeIs, PySem.F.args_dict_values_1 _, _, meets_dict_values (mixKind X.prog X.w) d hsys, ⟨vs, dd⟩, ?_⟩)
    exact ⟨_, kvs, vs, ns, H1, rfl, I2, ⟨d, ep, ⟨_, Heap.get?_push_size _ rfl, rfl, rfl⟩, da.push _⟩, kv, hk, q⟩
  rw [hs]
  show wpAny _ _ (spliced ((false, eval (.Call (.Attribute e "values" apos) [] [] cpos) X.env) :: backTo pos (starEach [] X.env))) _ _ s
  refine Calls.spliced_cons (thn arg fun u s1 hh => ?_)
  obtain ⟨v, kvs, vs, ns, H1, rfl, I1, ⟨d, ep, hv, da⟩, kv, hk, q⟩ := hh
  refine Calls.spliced_nil ?_
  have hlen : vs.length = ns.length := by rw [← kv.length, ← List.length_map (f := (·.2)) (as := kvs), hk, List.length_map]
  refine sum_of_src (PySem.W.kdl_values (knd := mixKind X.prog X.w) (kvs := vs) (ep := ep)) (I1.ok.hd hc) ⟨hv, da⟩ (fun i => ns.getD i 0) (fun i u hu => ?_) fun h' tk t' keep => ?_
  · obtain ⟨k, hu⟩ := hu
    obtain ⟨⟨k', y⟩, hy, hr⟩ := paired_getR kv hu
    have e1 : (kvs.map (·.2))[i]? = some y := by rw [List.getElem?_map, hy]; rfl
    rw [hk, List.getElem?_map] at e1
    obtain ⟨z, hz, rfl⟩ := Option.map_eq_some_iff.mp e1
    obtain ⟨t, ht⟩ := hr.2
    refine ⟨t, ?_⟩
    rw [show ns.getD i 0 = z by simp [List.getD, hz]]
    exact ht
  · rw [hlen, preSum_map]
    exact ⟨.int _, H1, I1.kept keep, ⟨t', rfl⟩, q⟩
theorem de_sumV {td : TE} {fd : Ex} {apos cpos : Pos} (hm : X.mg "sum" = none) (hc : X.calm = true) (he : DC X K mg E own e td fd) (hg : Gl X "sum" := by rfl) (hbase : attributeBase e "values" X.env (eval e X.env) = eval e X.env := by rfl) (hline : (apos.endLine == cpos.line) = true := by rfl)
    (hs : starEach [.Call (.Attribute e "values" apos) [] [] cpos] X.env = (false, eval (.Call (.Attribute e "values" apos) [] [] cpos) X.env) :: starEach [] X.env := by rfl) (hpl : (backTo pos (starEach [] X.env)).any (·.1) = false := by rfl) :
    DE X K mg E own (.Call (.Name "sum" p) [.Call (.Attribute e "values" apos) [] [] cpos] [] pos) (tSumV td) (un fd dSumV) :=
  ⟨pe_sumV hc hg hm he.pe hbase hline hs hpl, fun O H0 ρ σ H Q en w => by
    unfold un at w
    rw [resW_bind] at w
    refine he.ok O H0 ρ σ H _ en (w.mono (Same.refl H) fun d wd v H1 s1 r1 => ?_)
    obtain ⟨z, e1, w2⟩ := OkW.of_some (okW_of wd)
    unfold dSumV at e1
    split at e1
    · split at e1
      · rename_i hd
        obtain ⟨ns, e2, rfl⟩ := Option.map_eq_some_iff.mp e1
        obtain ⟨a, kvs, rfl, q, r⟩ := r1.dict_of cut_sub hd
        exact ⟨a, kvs, ns, rfl, q, r.vals.ints e2, w2 _ H1 s1 (.int _)⟩
      · cases e1
    · cases e1⟩

/-! ### what is walked: a list, a tuple, a text -/
def itS (fa : Ex) : Ax := fun ρ => (fa ρ).bind fun d => match d with
  | .list ds => .ok ds
  | .tuple ds => .ok ds
  | .str x => .ok (x.cps.toList.map fun c => .str ⟨#[c]⟩)
  | _ => .bad
theorem PI.or {tg it : Expr} {w1 w2 : TI} (h1 : PI X tg it w1) (h2 : PI X tg it w2) : PI X tg it (fun σ H W => w1 σ H W ∨ w2 σ H W) :=
  ⟨fun pins s σ H W I h => h.elim (h1.run pins s σ H W I) (h2.run pins s σ H W I)⟩
theorem itOk_str {K : PySem.W.Frag} {Hb : Hp} {x : Str} : ItOk K Hb (Its x) (x.cps.toList.map fun c => .str ⟨#[c]⟩) := by
  refine ⟨fun i H hi s => (show i < x.cps.size by simpa using hi), fun H s => (show x.cps.size ≤ _ by simp), fun i d y H H' hd s q => ?_⟩
  obtain ⟨e, c, hc, rfl⟩ := q
  subst e
  rw [List.getElem?_map, Array.getElem?_toList, hc] at hd
  cases hd
  exact ⟨Same.refl _, fun A _ _ => .str _⟩
theorem di_seq {tg : Expr} (ha : DE X K mg E own a ta fa) (hK : X.K = K := by rfl) : DI X K mg E own tg a (fun σ H W => iList K ta σ H W ∨ (iTup K ta σ H W ∨ iStr ta σ H W)) (itS fa) := by
  subst hK
  exact ⟨PI.or (pi_list ha.pe) (PI.or (pi_tup ha.pe) (pi_str ha.pe)), fun O H0 ρ σ H W e w => by
    unfold itS at w
    cases q : fa ρ with
    | exc c =>
      rw [q] at w
      exact .inl (ha.ok O H0 ρ σ H _ e (by rw [q]; exact w))
    | bad => rw [q] at w; exact w.elim
    | ok d =>
      rw [q] at w
      cases d with
      | list ds =>
        refine .inl (ha.ok O H0 ρ σ H _ e ?_)
        rw [q]
        intro v H1 s1 r1
        obtain ⟨l, xs, rfl, q, r⟩ := r1.list_of
        exact ⟨l, rfl, ⟨xs, .of (cut_sub _ _ q)⟩, w _ H1 s1 (itOk_list q r)⟩
      | tuple ds =>
        refine .inr (.inl (ha.ok O H0 ρ σ H _ e ?_))
        rw [q]
        intro v H1 s1 r1
        obtain ⟨l, xs, rfl, q, r⟩ := r1.tuple_of
        exact ⟨l, rfl, ⟨xs, sqT_same cut_sub q⟩, w _ H1 s1 (itOk_tup q r)⟩
      | str x =>
        refine .inr (.inr (ha.ok O H0 ρ σ H _ e ?_))
        rw [q]
        intro v H1 s1 r1
        rw [r1.str_of]
        exact ⟨x, rfl, w _ H1 s1 itOk_str⟩
      | none => exact w.elim
      | bool _ => exact w.elim
      | int _ => exact w.elim
      | dict _ => exact w.elim⟩
end
end DL

namespace DL
open PySem PySem.Spec PyProof.Rows L2
/-- the law's end: what its def is worth, at every script -/
theorem law_end {P : Program} {w : World} {K : PySem.W.Frag} {mg : Str → Option Value} {h : Heap} {fa : Addr} {st : Stmt} {k : Nat} {fM : List D → Res D} {x : Str}
    (T : At K mg "law" st) (KX : K.In h) (hfa : mg "law" = some (.ref fa))
    (hbind : ∀ {kV doc pm : Value} {an : Option Addr} {cdv ct : Value} (us : List Value), us.length = ([x] : List Str).length → bindArgs (PySem.W.fnOf "law" "law" (defArgs st) (defBody st) (defScope st) .none kV doc pm an cdv ct) ⟨us, []⟩ = pure (([x] : List Str).zip us))
    (G : ∀ base : Heap, K.In base → base.Ns mainGlobals mg → Def P w K mg base "law" [x] k 1 fM)
    (pure_law : ∀ ns : List Int, ns.length ≤ 63 → fM [scrD ns] = .ok (.bool true)) :
    ∃ (K : PySem.W.Frag) (fd : FuncData) (sp : Sp), K.In h ∧ (∀ (s : Shared) (u : Value), BindsTo s fd ⟨[u], []⟩ [(x, u)]) ∧
        (∀ (H : Hp) (a : Addr) (ns : List Int), ns.length ≤ 63 → Only H → SqL K H a (ns.map V.int) → sp [.ref a] H (fun v _ => v = .bl true) fun _ _ _ => False) ∧
        ∀ base : Heap, K.In base → base.Ns mainGlobals mg → FnOk P w K mg base CX0 k fa fd [x] sp := by
  obtain ⟨f, fd, hm, F⟩ := T.ex
  have e : f = fa := by rw [hm] at hfa; cases hfa; rfl
  subst e
  have b : Binds K fd [x] [] := F.bindsN fun _ _ _ _ _ _ us hl => hbind us hl
  refine ⟨K, fd, spD K mg 1 fun ds => (fM ds).calm, KX, fun s u => ?_, fun H a ns hl _ hS => ?_, fun base hb G' => ?_⟩
  · obtain ⟨oc, od, dV, kV, doc, pm, an, cdv, ct, osl, rfl, lk, hcd, hD, hK⟩ := F.ex
    rcases hD with ⟨_, rfl⟩ | ⟨e, _⟩
    · exact .of_eq (hbind [u] rfl)
    · exact absurd rfl e
  · refine ⟨rfl, fun _ => False, [scrD ns], fun a h => h.elim, .cons (.scr ?_) .nil, ?_⟩
    · rcases hS with (q | ⟨o, q⟩) | q
      · exact .inl (.inl (by rw [cut_out id]; exact q))
      · exact .inl (.inr ⟨o, by rw [cut_out id]; exact q⟩)
      · exact .inr q
    · show ResW _ _ _ _ ((fM [scrD ns]).calm)
      rw [pure_law ns hl]
      intro v H' _ r
      exact r.bool_of
  · obtain ⟨f2, fd2, hm2, _, ⟨oc, od, osl, lk⟩, hb2, F2⟩ := (G base hb G').ex
    obtain ⟨oc', od', _, _, _, _, _, _, _, osl', _, lk', _⟩ := F.ex
    rw [hm] at hm2
    cases hm2
    rw [lk'] at lk
    cases lk
    exact F2
end DL
end

section
set_option Elab.async false
set_option linter.all false
set_option maxRecDepth 100000
set_option maxHeartbeats 2000000
set_option autoImplicit false
/-! DL8: zip, slices, index. -/
namespace DL
open PySem PySem.Spec PyProof.Rows L2 RZ
section
variable {X : Cx} {K : PySem.W.Frag} {mg : Str → Option Value} {E : XK} {own : List Nat} {a b c e : Expr} {ta tb tc : TE} {fa fb fc : Ex} {p pos : Pos}

/-! ### zip of two lists, of two tuples -/
def zipD (xs ys : List D) : List D := List.zipWith (fun x y => .tuple [x, y]) xs ys
def itZ (fa fb : Ex) : Ax := fun ρ => (fa ρ).bind fun x => (fb ρ).bind fun y => match x, y with
  | .list xs, .list ys => .ok (zipD xs ys)
  | .tuple xs, .tuple ys => .ok (zipD xs ys)
  | _, _ => .bad
theorem zipD_get {xs ys : List D} {i : Nat} {d : D} (h : (zipD xs ys)[i]? = some d) : ∃ x y, xs[i]? = some x ∧ ys[i]? = some y ∧ d = .tuple [x, y] := by
  unfold zipD at h
  rw [List.getElem?_zipWith] at h
  cases h1 : xs[i]? with
  | none => rw [h1] at h; cases h
  | some x =>
    cases h2 : ys[i]? with
    | none => rw [h1, h2] at h; cases h
    | some y => rw [h1, h2] at h; cases h; exact ⟨x, y, rfl, rfl, rfl⟩
theorem zipD_len (xs ys : List D) : (zipD xs ys).length = min xs.length ys.length := List.length_zipWith
theorem itOk_zip {Hb : Hp} {l l2 : Addr} {xs ys : List V} {ds es : List D} (q : Hb l = some (.lst xs)) (r : RAll K Hb xs ds) (q2 : Hb l2 = some (.lst ys)) (r2 : RAll K Hb ys es) : ItOk K Hb (Itz K l l2) (zipD ds es) := by
  refine ⟨fun i H hi s => ?_, fun H s => ⟨xs, ys, .of (s _ _ q), .of (s _ _ q2), ?_⟩, fun i d x H H' hd s y => ?_⟩
  · rw [zipD_len] at hi
    have h1 : i < xs.length := by rw [r.length]; omega
    have h2 : i < ys.length := by rw [r2.length]; omega
    exact ⟨xs, ys, xs[i], ys[i], .of (s _ _ q), .of (s _ _ q2), by simp [h1], by simp [h2]⟩
  · rw [zipD_len, r.length, r2.length]; omega
  · obtain ⟨T, x1, x2, rfl, nT, rfl, f1, f2⟩ := y
    obtain ⟨d1, d2, e1, e2, rfl⟩ := zipD_get hd
    obtain ⟨v1, g1, rv1⟩ := r.get e1
    obtain ⟨v2, g2, rv2⟩ := r2.get e2
    have z1 := f1 xs (.of (s _ _ q)); rw [g1] at z1; cases z1
    have z2 := f2 ys (.of (s _ _ q2)); rw [g2] at z2; cases z2
    refine ⟨same_new nT, fun A dm ha => .tup (.inl (.inl (cut_new (dm.new nT)))) (.cons (rv1.mono ?_) (.cons (rv2.mono ?_) .nil))⟩
    all_goals
      intro b o h
      have h' := (s.trans (same_new (o := .tup [x1, x2]) nT)) b o h
      rw [cut_out]
      · exact h'
      · intro z; rw [ha b z] at h; cases h
theorem itOk_zipT {Hb : Hp} {l l2 : Addr} {xs ys : List V} {ds es : List D} (q : SqT K Hb l xs) (r : RAll K Hb xs ds) (q2 : SqT K Hb l2 ys) (r2 : RAll K Hb ys es) : ItOk K Hb (ItzT K l l2) (zipD ds es) := by
  refine ⟨fun i H hi s => ?_, fun H s => ⟨xs, ys, sqT_same s q, sqT_same s q2, ?_⟩, fun i d x H H' hd s y => ?_⟩
  · rw [zipD_len] at hi
    have h1 : i < xs.length := by rw [r.length]; omega
    have h2 : i < ys.length := by rw [r2.length]; omega
    exact ⟨xs, ys, xs[i], ys[i], sqT_same s q, sqT_same s q2, by simp [h1], by simp [h2]⟩
  · rw [zipD_len, r.length, r2.length]; omega
  · obtain ⟨T, x1, x2, rfl, nT, rfl, f1, f2⟩ := y
    obtain ⟨d1, d2, e1, e2, rfl⟩ := zipD_get hd
    obtain ⟨v1, g1, rv1⟩ := r.get e1
    obtain ⟨v2, g2, rv2⟩ := r2.get e2
    have z1 := f1 xs (sqT_same s q); rw [g1] at z1; cases z1
    have z2 := f2 ys (sqT_same s q2); rw [g2] at z2; cases z2
    refine ⟨same_new nT, fun A dm ha => .tup (.inl (.inl (cut_new (dm.new nT)))) (.cons (rv1.mono ?_) (.cons (rv2.mono ?_) .nil))⟩
    all_goals
      intro b o h
      have h' := (s.trans (same_new (o := .tup [x1, x2]) nT)) b o h
      rw [cut_out]
      · exact h'
      · intro z; rw [ha b z] at h; cases h
theorem di_zip {elts : List Expr} {kk : Nat} {tpos : Pos} (hg : Gl X "zip") (hm : X.mg "zip" = none) (ha : DE X K mg E own a ta fa) (hb : DE X K mg E own b tb fb)
    (he : starEach (a :: [b]) X.env = (false, eval a X.env) :: starEach [b] X.env := by rfl) (he2 : starEach (b :: []) X.env = (false, eval b X.env) :: starEach [] X.env := by rfl)
    (hs : starEach [a, b] X.env = (false, eval a X.env) :: starEach [b] X.env := by rfl) (hpl : (backTo pos (starEach [b] X.env)).any (·.1) = false := by rfl) (hK : X.K = K := by rfl) :
    DI X K mg E own (.Tuple elts kk tpos) (.Call (.Name "zip" p) [a, b] [] pos) (iZipA K (tCons ta (tCons tb tNil))) (itZ fa fb) := by
  subst hK
  exact ⟨pi_zipA hg hm (pa_cons ha.pe (pa_cons hb.pe pa_nil he2) he) hs hpl, fun O H0 ρ σ H W e w => by
    unfold itZ at w
    rw [resW_bind] at w
    refine ha.ok O H0 ρ σ H _ e (w.mono (Same.refl H) fun d wd v1 H1 s1 r1 => ?_)
    rw [resW_bind] at wd
    refine hb.ok O H0 ρ σ H1 _ (e.mono s1) (wd.mono s1 fun d2 wd v2 H2 s2 r2 => ?_)
    cases d <;> first | exact wd.elim | skip
    · cases d2 <;> first | exact wd.elim | skip
      obtain ⟨l, xs, rfl, q, r⟩ := (r1.mono (cut_same s2)).list_of
      obtain ⟨l2, ys, rfl, q2, r2⟩ := r2.list_of
      exact ⟨l, l2, xs, ys, rfl, .inl ⟨.of (cut_sub _ _ q), .of (cut_sub _ _ q2), wd _ H2 (s1.trans s2) (itOk_zip q r q2 r2)⟩⟩
    · cases d2 <;> first | exact wd.elim | skip
      obtain ⟨l, xs, rfl, q, r⟩ := (r1.mono (cut_same s2)).tuple_of
      obtain ⟨l2, ys, rfl, q2, r2⟩ := r2.tuple_of
      exact ⟨l, l2, xs, ys, rfl, .inr ⟨sqT_same cut_sub q, sqT_same cut_sub q2, wd _ H2 (s1.trans s2) (itOk_zipT q r q2 r2)⟩⟩⟩
def itE (fa : Ex) : Ax := fun ρ => (fa ρ).bind fun x => match x with
  | .list xs => .ok (zipD ((List.range xs.length).map fun i => .int (i : Nat)) xs)
  | .tuple xs => .ok (zipD ((List.range xs.length).map fun i => .int (i : Nat)) xs)
  | _ => .bad

/-! ### x.index(y) -/
def dIndex : D → D → Option D
  | .list ds, d => if SeqAt.shaped d = true ∧ SeqAt.shaped (.list ds) = true then (ds.findIdx? fun z => PyData.eqv z d).map fun j => .int (j : Nat) else none
  | _, _ => none
def idx (fa fb : Ex) : Ex := fun ρ => (fa ρ).bind fun x => match x with
  | .list ds => (fb ρ).bind fun d => ofO (dIndex (.list ds) d)
  | _ => .bad
theorem de_index {apos cpos : Pos} (hu : X.A.units + 65 < cLine) (ha : DC X K mg E own a ta fa) (hb : DE X K mg E own b tb fb)
    (hbase : attributeBase a "index" X.env (eval a X.env) = eval a X.env := by rfl)
    (hfew : ((backTo cpos (starEach (b :: []) X.env)).all (fun x => !x.1) && (backToKw cpos (keywordEach [] X.env)).all (fun x => x.1.isSome)
      && decide ((b :: []).length + ([] : List Keyword).length + (if ([] : List Keyword).isEmpty then 0 else 1) < 30)) = true := by rfl)
    (hline : (apos.endLine == cpos.line) = true := by rfl) (hs : starEach (b :: []) X.env = (false, eval b X.env) :: starEach [] X.env := by rfl) (hplain : (backTo cpos (starEach [] X.env)).any (·.1) = false := by rfl) (hK : X.K = K := by rfl) :
    DE X K mg E own (.Call (.Attribute a "index" apos) [b] [] cpos) (tBM K "list" (rIndexD K) ta (tCons tb tNil)) (idx fa fb) := by
  subst hK
  exact ⟨pe_bm PySem.F.plainAttrs_list PySem.F.slot_list_index PySem.F.type_list_index (mt_indexD hu) ha.pe (pa_cons hb.pe pa_nil hs) hbase hfew hline hs hplain, fun O H0 ρ σ H Q en w => by
    unfold idx at w
    rw [resW_bind] at w
    refine ha.ok O H0 ρ σ H _ en (w.mono (Same.refl H) fun d wd v1 H1 s1 r1 => ?_)
    cases d <;> first | exact wd.elim | skip
    rename_i ds
    have r1' := r1
    obtain ⟨l, xs, rfl, q, r⟩ := r1.list_of cut_sub
    refine ⟨.inl ⟨rfl, _, .of q⟩, ?_⟩
    replace wd : ResW mg E H _ ((fb ρ).bind fun d => ofO (dIndex (.list ds) d)) := wd
    rw [resW_bind] at wd
    refine hb.ok O H0 ρ σ H1 _ (en.mono s1) (wd.mono s1 fun d2 wd v2 H2 s2 r2 => ?_)
    obtain ⟨z, e1, w2⟩ := OkW.of_some (okW_of wd)
    replace e1 : (if SeqAt.shaped d2 = true ∧ SeqAt.shaped (.list ds) = true then (ds.findIdx? fun z => PyData.eqv z d2).map (fun j => PyData.int (j : Nat)) else none) = some z := e1
    split at e1
    · rename_i cnd
      obtain ⟨j, e2, rfl⟩ := Option.map_eq_some_iff.mp e1
      obtain ⟨hj, hjd, hno⟩ := List.findIdx?_eq_some_iff_getElem.mp e2
      refine ⟨l, v2, d2, ds, j, ds[j], rfl, rfl, (crep_same r1' s2).dp cnd.2, Dp_mono cut_sub r2 cnd.1, cnd.2, cnd.1, by simp [hj], hjd, fun m z' hm hz => ?_, w2 _ H2 (s1.trans s2) (.int _)⟩
      have hm' : m < ds.length := by omega
      rw [List.getElem?_eq_getElem hm'] at hz
      cases hz
      have := hno m hm
      simpa using this
    · cases e1⟩

/-! ### slices -/
abbrev Px := Rho → Res (Option Int)
def pNo : Px := fun _ => .ok none
def pIs (f : Ex) : Px := fun ρ => (f ρ).bind fun d => match d with
  | .int i => .ok (some i)
  | _ => .bad
structure DP (X : Cx) (K : PySem.W.Frag) (mg : Str → Option Value) (E : XK) (own : List Nat) (e : Option Expr) (t : TO) (f : Px) : Prop where
  po : PO X e t
  ok : ∀ (O : Addr → Prop) (H0 : Hp) (ρ : Rho) (σ : L2.St) (H : Hp) (Q : Option Int → Hp → Prop), EnvOk K O H0 own ρ σ H → ResW mg E H (fun i => ∀ H', Same H H' → Q i H') (f ρ) → t σ H Q
theorem dp_no : DP X K mg E own none tNoPart pNo := ⟨po_none, fun O H0 ρ σ H Q e w => w H (Same.refl H)⟩
theorem dp_is (h : DE X K mg E own a ta fa) : DP X K mg E own (some a) (tPart ta) (pIs fa) := ⟨po_some h.pe, fun O H0 ρ σ H Q e w => by
  unfold pIs at w
  rw [resW_bind] at w
  refine h.ok O H0 ρ σ H _ e (w.mono (Same.refl H) fun d wd v H1 s1 r1 => ?_)
  cases d <;> first | exact wd.elim | skip
  exact ⟨_, r1.int_of, wd H1 s1⟩⟩
def cutD (xs : List D) (lo hi : Option Int) : List D := (xs.drop (HT.sIx xs.length 0 lo)).take (HT.sIx xs.length xs.length hi - HT.sIx xs.length 0 lo)
def dSl : D → Option Int → Option Int → Option D
  | .list ds, lo, hi => some (.list (cutD ds lo hi))
  | .tuple ds, lo, hi => some (.tuple (cutD ds lo hi))
  | .str z, lo, hi => if z.length ≤ sizeLine then some (.str (cutS z lo hi)) else none
  | _, _, _ => none
def slc (fa : Ex) (pl ph : Px) : Ex := fun ρ => (fa ρ).bind fun d => (pl ρ).bind fun lo => (ph ρ).bind fun hi => ofO (dSl d lo hi)
theorem RAll.cut {H : Hp} {vs : List V} {ds : List D} (r : RAll K H vs ds) (lo hi : Option Int) : RAll K H (cutV vs lo hi) (cutD ds lo hi) := by
  unfold cutV cutD
  rw [r.length]
  exact (r.drop _).take _
theorem cutD_whole {H : Hp} {vs : List V} {ds : List D} {i j : Option Int} (r : RAll K H vs ds) (z1 : HT.sIx vs.length 0 i = 0) (z2 : HT.sIx vs.length vs.length j = vs.length) : cutD ds i j = ds := by
  unfold cutD
  rw [← r.length, z1, z2, List.drop_zero, Nat.sub_zero, r.length, List.take_length]
theorem de_sl {lo hi : Option Expr} {tl th : TO} {pl ph : Px} {p2 : Pos} (ha : DC X K mg E own a ta fa) (hl : DP X K mg E own lo tl pl) (hh : DP X K mg E own hi th ph) (hK : X.K = K := by rfl) :
    DE X K mg E own (.Subscript a (.Slice lo hi none p2) pos) (tSl (fun x l h H Q => rSlL K x l h H Q ∨ (rSlA K x l h H Q ∨ rSlS x l h H Q)) ta tl th) (slc fa pl ph) := by
  subst hK
  exact ⟨pe_slice (sl_list.or (sl_tupA.or sl_str)) ha.pe hl.po hh.po, fun O H0 ρ σ H Q e w => by
    unfold slc at w
    rw [resW_bind] at w
    refine ha.ok O H0 ρ σ H _ e (w.mono (Same.refl H) fun d wd v1 H1 s1 r1 => ?_)
    rw [resW_bind] at wd
    refine hl.ok O H0 ρ σ H1 _ (e.mono s1) (wd.mono s1 fun i wi H2 s2 => ?_)
    rw [resW_bind] at wi
    refine hh.ok O H0 ρ σ H2 _ ((e.mono s1).mono s2) (wi.mono (s1.trans s2) fun j wj H3 s3 => ?_)
    have s13 : Same H1 H3 := s2.trans s3
    have s03 : Same H H3 := s1.trans s13
    have r3 := crep_same r1 s13
    have dm : Dom (AllA O own σ) H3 := e.domA.same s03
    replace wj := okW_of wj
    unfold dSl at wj
    split at wj
    · obtain ⟨l, xs, rfl, q, r⟩ := r3.list_of cut_sub
      exact .inl ⟨l, xs, rfl, .of q, fun p np => wj _ _ (s03.trans (same_new np)) (.lst (cut_new (dm.new np)) ((r.cut i j).mono (cut_same (same_new np))))⟩
    · cases r3 with
      | ow r => cases r
      | sh r3 =>
      obtain ⟨l, xs, rfl, q, r⟩ := r3.tuple_of
      refine .inr (.inl ⟨l, xs, rfl, sqT_same cut_sub q, fun ⟨z1, z2⟩ => ?_, fun _ p np => wj _ _ (s03.trans (same_new np)) (.tup (.inl (.inl (cut_new (dm.new np)))) ((r.cut i j).mono (cut_same (same_new np))))⟩)
      refine wj _ H3 s03 ?_
      rw [cutD_whole r z1 z2]
      exact .tup q r
    · obtain ⟨c, wj⟩ := okW_if wj
      rw [r3.str_of]
      exact .inr (.inr ⟨_, rfl, c, wj _ H3 s03 (.str _)⟩)
    · exact wj.elim⟩
end
end DL
end

section
set_option Elab.async false
set_option linter.all false
set_option maxRecDepth 100000
set_option maxHeartbeats 2000000
set_option autoImplicit false
/-! DL9: zip of a tuple with a list. -/
namespace DL
open PySem PySem.Spec PyProof.Rows L2 RZ

/-- a tuple at a, a list at b, walked side by side -/
def ItzM (K : PySem.W.Frag) (a b : Addr) : It where
  go := fun i H => ∃ (xs ys : List V) (x y : V), SqT K H a xs ∧ SqL K H b ys ∧ xs[i]? = some x ∧ ys[i]? = some y
  yld := fun i H v H' => ∃ T x y, v = .ref T ∧ H T = none ∧ H' = upd H T (.tup [x, y]) ∧ (∀ xs, SqT K H a xs → xs[i]? = some x) ∧ ∀ ys, SqL K H b ys → ys[i]? = some y
  stop := fun i H => ∃ xs ys : List V, SqT K H a xs ∧ SqL K H b ys ∧ i ≤ xs.length ∧ i ≤ ys.length ∧ (i = xs.length ∨ i = ys.length)

section
variable {P : Program} {w : World} {K : PySem.W.Frag} {elts : List Expr} {kk : Nat} {tpos : Pos} {a b z TI TO i1 i2 : Addr}
theorem turn_mix (S : ZipSep2 z TI TO i1 i2 [i1, a] [i2, b]) (na : a ≠ i1) (nb : b ≠ i2) :
    Turn P w K (.Tuple elts kk tpos) (ItzM K a b) [z, TI, TO, i1, i2] z (fun i h => IsZip h z TI TO .none ∧ IsTupOf2 h TI (.ref i1) (.ref i2) ∧ (∃ x y, IsTupOf2 h TO x y) ∧ h.IsTupleIter i1 a i ∧ h.IsListIter i2 b i) where
  mem := List.mem_cons_self
  obj := by
    rintro i h ⟨k1, k2, ⟨x, y, k3⟩, ⟨o1, e1, _, d1⟩, ⟨o2, e2, _, d2⟩⟩ c hc
    simp only [List.mem_cons, List.not_mem_nil, or_false] at hc
    rcases hc with rfl | rfl | rfl | rfl | rfl
    · exact ⟨_, k1, fun v => nofun⟩
    · exact ⟨_, k2, fun v => nofun⟩
    · exact ⟨_, k3, fun v => nofun⟩
    · exact ⟨o1, e1, fun v q => by rw [d1] at q; cases q⟩
    · exact ⟨o2, e2, fun v q => by rw [d2] at q; cases q⟩
  keep := by
    rintro i h h' ⟨k1, k2, ⟨x, y, k3⟩, m1, m2⟩ k
    exact ⟨k _ (by simp) _ k1, k _ (by simp) _ k2, ⟨x, y, k _ (by simp) _ k3⟩, m1.at (k i1 (by simp)), m2.at (k i2 (by simp))⟩
  item := by
    rintro X rfl rfl rfl hc i pins s σ H E I hf ⟨k1, k2, ⟨x0, y0, k3⟩, m1, m2⟩ ⟨xs, ys, x, y, qx, qy, gx, gy⟩
    obtain ⟨us, rv, pa, _⟩ := I.tuple qx
    obtain ⟨ts, rv2, pb, _⟩ := I.list qy
    obtain ⟨u, gu, ru⟩ := rv.get gx
    obtain ⟨t, gt, rt⟩ := rv2.get gy
    have hd : X.A.in1.handled = none := I.ok.hd hc
    have hpa : s.heap.IsTuple a us.toArray := pa
    have hu' : us.toArray[i]? = some u := by simpa using gu
    have ht' : ts.toArray[i]? = some t := by simpa using gt
    have lu : i < us.toArray.size := (Array.getElem?_eq_some_iff.mp hu').1
    have lt' : i < ts.toArray.size := (Array.getElem?_eq_some_iff.mp ht').1
    have zl := Heap.lt_size k1
    refine wpAny_pyNext_zipD2_item S (Draws.tuple hd i1 a na us.toArray) (Draws.list hd i2 b nb ts.toArray) k1 k2 k3 ⟨m1, hpa⟩ ⟨m2, pb.isList⟩ lu lt' ?_
    intro x1 x2 h1 tk f1 f2 z1 TO1 st1 st2 new1 sz kp
    rw [hu'] at f1
    rw [ht'] at f2
    cases f1
    cases f2
    refine ⟨_, rfl, wpAny_letOwnedTupleGo_zip (s := { s with heap := h1, toks := tk }) z1 ?_⟩
    intro h2 z2 sb
    have keeps : ∀ c o, c ∉ [z, TI, TO, i1, i2] → s.heap.get? c = some o → h2.get? c = some o := fun c o hb q => by
      simp only [List.mem_cons, List.not_mem_nil, or_false, not_or] at hb
      exact (sb.2 c hb.1).trans (kp c o hb.1 hb.2.2.1 hb.2.2.2.1 hb.2.2.2.2 q)
    have new2 := (sb.2 _ (Nat.ne_of_gt zl)).trans new1
    have ob : ObjOk X.prog X.w (upd H s.heap.objs.size (.tup [x, y])) h2 s.heap.objs.size (.tup [x, y]) := ⟨by show 2 ≤ sizeLine; decide, [u, t], .cons ru (.cons rt .nil), ⟨_, new2, rfl, _, rfl⟩⟩
    have I2 := I.turnedNew (t' := tk) (ch := [z, TI, TO, i1, i2]) keeps hf (Nat.le_refl _) ob
    refine ⟨.ref s.heap.objs.size, _, I2, rfl, ⟨_, x, y, rfl, I.hok.fresh (Nat.le_refl _), rfl, fun l hl => ?_, fun l hl => ?_⟩, ⟨z2, ?_, ⟨u, t, ?_⟩, ?_, ?_⟩, fun c hcm => ?_⟩
    · rw [I.tuple_inj hl qx]
      exact gx
    · rw [I.list_inj hl qy]
      exact gy
    · exact (sb.2 TI S.TIz).trans (kp TI _ S.TIz S.TITO S.TIi1 S.TIi2 k2)
    · exact (sb.2 TO S.TOz).trans TO1
    · exact st1.1.at fun o q => (sb.2 i1 S.zi1.symm).trans q
    · exact st2.1.at fun o q => (sb.2 i2 S.zi2.symm).trans q
    · have below : c < s.heap.objs.size := by
        simp only [List.mem_cons, List.not_mem_nil, or_false] at hcm
        rcases hcm with rfl | rfl | rfl | rfl | rfl
        · exact zl
        · exact Heap.lt_size k2
        · exact Heap.lt_size k3
        · obtain ⟨_, e, _⟩ := m1
          exact Heap.lt_size e
        · obtain ⟨_, e, _⟩ := m2
          exact Heap.lt_size e
      rw [upd_ne (Nat.ne_of_lt below)]
      exact (hf c hcm).1
  done := by
    rintro X rfl rfl rfl hc i pins s σ H E I hf ⟨k1, k2, ⟨x0, y0, k3⟩, m1, m2⟩ ⟨xs, ys, qx, qy, l1, l2, he⟩
    obtain ⟨us, rv, pa, _⟩ := I.tuple qx
    obtain ⟨ts, rv2, pb, _⟩ := I.list qy
    have hd : X.A.in1.handled = none := I.ok.hd hc
    have hpa : s.heap.IsTuple a us.toArray := pa
    have e1 : xs.length = us.toArray.size := by rw [rv.length]; simp
    have e2 : ys.length = ts.toArray.size := by rw [rv2.length]; simp
    refine wpAny_pyNext_zipD2_end S (Draws.tuple hd i1 a na us.toArray) (Draws.list hd i2 b nb ts.toArray) k1 k2 k3 (i := i) ⟨m1, hpa⟩ ⟨m2, pb.isList⟩ (by omega) (by omega) (by omega) ?_
    intro h1 tk kp
    have keeps : ∀ c o, c ∉ [z, TI, TO, i1, i2] → s.heap.get? c = some o → h1.get? c = some o := fun c o hb q => by
      simp only [List.mem_cons, List.not_mem_nil, or_false, not_or] at hb
      exact kp c o hb.1 hb.2.2.1 hb.2.2.2.1 hb.2.2.2.2 q
    exact ⟨rfl, I.turnedL (t' := tk) (ch := [z, TI, TO, i1, i2]) keeps hf⟩
  self := fun A i s Q E st h => wpAny_pyIter_zip st.1 h

end
section
variable {X : Cx} {K : PySem.W.Frag} {mg : Str → Option Value} {E : XK} {own : List Nat} {a b : Expr} {ta tb : TE} {fa fb : Ex} {p pos : Pos}
/-- zip of a tuple and a list -/
def iZipM (K : PySem.W.Frag) (ta : TA) : TI := fun σ H R => ta σ H fun vs H1 => ∃ a b xs ys, vs = [.ref a, .ref b] ∧ SqT K H1 a xs ∧ SqL K H1 b ys ∧ R (ItzM K a b) H1
theorem sepM {N a b : Nat} (ha : a < N) (hb : b < N) : ZipSep2 (N + 4) (N + 2) (N + 3) N (N + 1) [N, a] [N + 1, b] :=
  zip_sep2 (fp1 := [a]) (fp2 := [b]) (fun c m => by rcases List.mem_cons.mp m with rfl | m; exact ha; cases m) (fun c m => by rcases List.mem_cons.mp m with rfl | m; exact hb; cases m)
theorem pi_zipM {ta : TA} {elts : List Expr} {kk : Nat} {tpos : Pos} (hg : Gl X "zip") (hm : X.mg "zip" = none) (ha : PA X [a, b] ta)
    (hs : starEach [a, b] X.env = (false, eval a X.env) :: starEach [b] X.env := by rfl) (hpl : (backTo pos (starEach [b] X.env)).any (·.1) = false := by rfl) :
    PI X (.Tuple elts kk tpos) (.Call (.Name "zip" p) [a, b] [] pos) (iZipM X.K ta) where
  run := by
    intro pins s σ H R I h
    refine Call_ (ld_blt I hg hm PyProof.Rows.boot_zip (PyProof.Rows.callWith_type1 (thn (ha.run pos pins s σ H _ I h) ?_) hs hpl))
    rintro us s1 ⟨vs, H1, I1, r1, ⟨l, m, xs, ys, rfl, qx, qy, q⟩⟩
    cases r1 with
    | cons r rr =>
    cases rr with
    | cons r' rr =>
    cases rr
    cases r
    cases r'
    obtain ⟨its, rv, p1, _⟩ := I1.tuple qx
    obtain ⟨ts, rv2, p2, _⟩ := I1.list qy
    have hp1 : s1.heap.IsTuple l its.toArray := p1
    obtain ⟨o1, ho1, _⟩ := id p1
    have la := Heap.lt_size ho1
    have lb := p2.lt
    refine zip_begins2 (begins_tuple l its.toArray) (begins_list m ts.toArray) hp1 p2.isList ?_
    intro h' hz hTI hTO g1 g2 hsz hk
    refine wpAny_pyIter_zip hz ?_
    have I2 : Inv X pins σ H1 { s1 with heap := h' } := I1.kept (t' := s1.toks) hk
    refine ⟨s1.heap.objs.size + 4, [s1.heap.objs.size + 4, s1.heap.objs.size + 2, s1.heap.objs.size + 3, s1.heap.objs.size, s1.heap.objs.size + 1], _, _, H1, rfl, I2, turn_mix (sepM la lb) (Nat.ne_of_lt la) (Nat.ne_of_lt (Nat.lt_succ_of_lt lb)), ⟨hz, hTI, ⟨_, _, hTO⟩, ⟨_, g1, rfl, rfl⟩, ⟨_, g2, rfl, rfl⟩⟩, ?_, q⟩
    intro c hc
    have hle : s1.heap.objs.size ≤ c := by
      simp only [List.mem_cons, List.not_mem_nil, or_false] at hc
      rcases hc with rfl | rfl | rfl | rfl | rfl
      · exact Nat.le_add_right _ 4
      · exact Nat.le_add_right _ 2
      · exact Nat.le_add_right _ 3
      · exact Nat.le_refl _
      · exact Nat.le_add_right _ 1
    exact I1.fpOk hle (I1.hok.fresh hle)
theorem itOk_zipM {Hb : Hp} {l l2 : Addr} {xs ys : List V} {ds es : List D} (q : SqT K Hb l xs) (r : RAll K Hb xs ds) (q2 : Hb l2 = some (.lst ys)) (r2 : RAll K Hb ys es) : ItOk K Hb (ItzM K l l2) (zipD ds es) := by
  refine ⟨fun i H hi s => ?_, fun H s => ⟨xs, ys, sqT_same s q, .of (s _ _ q2), ?_⟩, fun i d x H H' hd s y => ?_⟩
  · rw [zipD_len] at hi
    have h1 : i < xs.length := by rw [r.length]; omega
    have h2 : i < ys.length := by rw [r2.length]; omega
    exact ⟨xs, ys, xs[i], ys[i], sqT_same s q, .of (s _ _ q2), by simp [h1], by simp [h2]⟩
  · rw [zipD_len, r.length, r2.length]; omega
  · obtain ⟨T, x1, x2, rfl, nT, rfl, f1, f2⟩ := y
    obtain ⟨d1, d2, e1, e2, rfl⟩ := zipD_get hd
    obtain ⟨v1, g1, rv1⟩ := r.get e1
    obtain ⟨v2, g2, rv2⟩ := r2.get e2
    have z1 := f1 xs (sqT_same s q); rw [g1] at z1; cases z1
    have z2 := f2 ys (.of (s _ _ q2)); rw [g2] at z2; cases z2
    refine ⟨same_new nT, fun A dm ha => .tup (.inl (.inl (cut_new (dm.new nT)))) (.cons (rv1.mono ?_) (.cons (rv2.mono ?_) .nil))⟩
    all_goals
      intro b o h
      have h' := (s.trans (same_new (o := .tup [x1, x2]) nT)) b o h
      rw [cut_out]
      · exact h'
      · intro z; rw [ha b z] at h; cases h
def itY (fa fb : Ex) : Ax := fun ρ => (fa ρ).bind fun x => (fb ρ).bind fun y => match x, y with
  | .list xs, .list ys => .ok (zipD xs ys)
  | .tuple xs, .tuple ys => .ok (zipD xs ys)
  | .tuple xs, .list ys => .ok (zipD xs ys)
  | _, _ => .bad
def iZipY (K : PySem.W.Frag) (ta : TA) : TI := fun σ H R => ta σ H fun vs H1 => ∃ a b xs ys, vs = [.ref a, .ref b] ∧
  ((SqL K H1 a xs ∧ SqL K H1 b ys ∧ R (Itz K a b) H1) ∨ (SqT K H1 a xs ∧ SqT K H1 b ys ∧ R (ItzT K a b) H1) ∨ (SqT K H1 a xs ∧ SqL K H1 b ys ∧ R (ItzM K a b) H1))
theorem pi_zipY {ta : TA} {elts : List Expr} {kk : Nat} {tpos : Pos} (hg : Gl X "zip") (hm : X.mg "zip" = none) (ha : PA X [a, b] ta)
    (hs : starEach [a, b] X.env = (false, eval a X.env) :: starEach [b] X.env := by rfl) (hpl : (backTo pos (starEach [b] X.env)).any (·.1) = false := by rfl) :
    PI X (.Tuple elts kk tpos) (.Call (.Name "zip" p) [a, b] [] pos) (iZipY X.K ta) where
  run := by
    intro pins s σ H R I h
    refine Call_ (ld_blt I hg hm PyProof.Rows.boot_zip (PyProof.Rows.callWith_type1 (thn (ha.run pos pins s σ H _ I h) ?_) hs hpl))
    rintro us s1 ⟨vs, H1, I1, r1, ⟨l, m, xs, ys, rfl, q1⟩⟩
    cases r1 with
    | cons r rr =>
    cases rr with
    | cons r' rr =>
    cases rr
    cases r
    cases r'
    have fr5 : ∀ c, c ∈ [s1.heap.objs.size + 4, s1.heap.objs.size + 2, s1.heap.objs.size + 3, s1.heap.objs.size, s1.heap.objs.size + 1] → FpOk X pins H1 c := by
      intro c hc
      have hle : s1.heap.objs.size ≤ c := by
        simp only [List.mem_cons, List.not_mem_nil, or_false] at hc
        rcases hc with rfl | rfl | rfl | rfl | rfl
        · exact Nat.le_add_right _ 4
        · exact Nat.le_add_right _ 2
        · exact Nat.le_add_right _ 3
        · exact Nat.le_refl _
        · exact Nat.le_add_right _ 1
      exact I1.fpOk hle (I1.hok.fresh hle)
    rcases q1 with ⟨qx, qy, q⟩ | ⟨qx, qy, q⟩ | ⟨qx, qy, q⟩
    · obtain ⟨its, rv, p1, _⟩ := I1.list qx
      obtain ⟨ts, rv2, p2, _⟩ := I1.list qy
      refine zip_begins2 (begins_list l its.toArray) (begins_list m ts.toArray) p1.isList p2.isList ?_
      intro h' hz hTI hTO g1 g2 hsz hk
      exact wpAny_pyIter_zip hz ⟨_, _, _, _, H1, rfl, I1.kept (t' := s1.toks) hk, turn_zip (PySem.W.ktu_apart s1.heap.objs.size l m p1.lt p2.lt), ⟨hz, hTI, ⟨_, _, hTO⟩, ⟨_, g1, rfl, rfl⟩, ⟨_, g2, rfl, rfl⟩⟩, fr5, q⟩
    · obtain ⟨its, rv, p1, _⟩ := I1.tuple qx
      obtain ⟨ts, rv2, p2, _⟩ := I1.tuple qy
      obtain ⟨o1, ho1, _⟩ := id p1
      obtain ⟨o2, ho2, _⟩ := id p2
      refine zip_begins2 (begins_tuple l its.toArray) (begins_tuple m ts.toArray) (show s1.heap.IsTuple l its.toArray from p1) (show s1.heap.IsTuple m ts.toArray from p2) ?_
      intro h' hz hTI hTO g1 g2 hsz hk
      exact wpAny_pyIter_zip hz ⟨_, _, _, _, H1, rfl, I1.kept (t' := s1.toks) hk, turn_zipT (PySem.W.ktu_apart s1.heap.objs.size l m (Heap.lt_size ho1) (Heap.lt_size ho2)), ⟨hz, hTI, ⟨_, _, hTO⟩, ⟨_, g1, rfl, rfl⟩, ⟨_, g2, rfl, rfl⟩⟩, fr5, q⟩
    · obtain ⟨its, rv, p1, _⟩ := I1.tuple qx
      obtain ⟨ts, rv2, p2, _⟩ := I1.list qy
      obtain ⟨o1, ho1, _⟩ := id p1
      have la := Heap.lt_size ho1
      have lb := p2.lt
      refine zip_begins2 (begins_tuple l its.toArray) (begins_list m ts.toArray) (show s1.heap.IsTuple l its.toArray from p1) p2.isList ?_
      intro h' hz hTI hTO g1 g2 hsz hk
      exact wpAny_pyIter_zip hz ⟨_, _, _, _, H1, rfl, I1.kept (t' := s1.toks) hk, turn_mix (sepM la lb) (Nat.ne_of_lt la) (Nat.ne_of_lt (Nat.lt_succ_of_lt lb)), ⟨hz, hTI, ⟨_, _, hTO⟩, ⟨_, g1, rfl, rfl⟩, ⟨_, g2, rfl, rfl⟩⟩, fr5, q⟩
theorem di_zipY {elts : List Expr} {kk : Nat} {tpos : Pos} (hg : Gl X "zip") (hm : X.mg "zip" = none) (ha : DE X K mg E own a ta fa) (hb : DE X K mg E own b tb fb)
    (he : starEach (a :: [b]) X.env = (false, eval a X.env) :: starEach [b] X.env := by rfl) (he2 : starEach (b :: []) X.env = (false, eval b X.env) :: starEach [] X.env := by rfl)
    (hs : starEach [a, b] X.env = (false, eval a X.env) :: starEach [b] X.env := by rfl) (hpl : (backTo pos (starEach [b] X.env)).any (·.1) = false := by rfl) (hK : X.K = K := by rfl) :
    DI X K mg E own (.Tuple elts kk tpos) (.Call (.Name "zip" p) [a, b] [] pos) (iZipY K (tCons ta (tCons tb tNil))) (itY fa fb) := by
  subst hK
  exact ⟨pi_zipY hg hm (pa_cons ha.pe (pa_cons hb.pe pa_nil he2) he) hs hpl, fun O H0 ρ σ H W e w => by
    unfold itY at w
    rw [resW_bind] at w
    refine ha.ok O H0 ρ σ H _ e (w.mono (Same.refl H) fun d wd v1 H1 s1 r1 => ?_)
    rw [resW_bind] at wd
    refine hb.ok O H0 ρ σ H1 _ (e.mono s1) (wd.mono s1 fun d2 wd v2 H2 s2 r2 => ?_)
    cases d <;> first | exact wd.elim | skip
    · cases d2 <;> first | exact wd.elim | skip
      obtain ⟨l, xs, rfl, q, r⟩ := (r1.mono (cut_same s2)).list_of
      obtain ⟨l2, ys, rfl, q2, r2⟩ := r2.list_of
      exact ⟨l, l2, xs, ys, rfl, .inl ⟨.of (cut_sub _ _ q), .of (cut_sub _ _ q2), wd _ H2 (s1.trans s2) (itOk_zip q r q2 r2)⟩⟩
    · cases d2 <;> first | exact wd.elim | skip
      · obtain ⟨l, xs, rfl, q, r⟩ := (r1.mono (cut_same s2)).tuple_of
        obtain ⟨l2, ys, rfl, q2, r2⟩ := r2.list_of
        exact ⟨l, l2, xs, ys, rfl, .inr (.inr ⟨sqT_same cut_sub q, .of (cut_sub _ _ q2), wd _ H2 (s1.trans s2) (itOk_zipM q r q2 r2)⟩)⟩
      · obtain ⟨l, xs, rfl, q, r⟩ := (r1.mono (cut_same s2)).tuple_of
        obtain ⟨l2, ys, rfl, q2, r2⟩ := r2.tuple_of
        exact ⟨l, l2, xs, ys, rfl, .inr (.inl ⟨sqT_same cut_sub q, sqT_same cut_sub q2, wd _ H2 (s1.trans s2) (itOk_zipT q r q2 r2)⟩)⟩⟩
end
end DL
end

section
set_option Elab.async false
set_option linter.all false
set_option maxRecDepth 100000
set_option maxHeartbeats 2000000
set_option autoImplicit false
/-! DL10: defs that may raise; try, except. -/
namespace DL
open PySem PySem.Spec PyProof.Rows L2

/-! ### the own classes of exceptions: all stand under ChanceError, that under ValueError -/
def upB (c x : Str) : Bool := decide (c = x) || decide (x = "ChanceError") || decide (x = "ValueError")
def excOneB (K : PySem.W.Frag) (c : Str) : Bool :=
  He.eqO (PySem.W.nsIn K mainGlobals c) (some (some (.ref (He.ga K c)))) && (PySem.W.excIn K (He.ga K c) He.veBase "ValueError.__new__" && (PySem.W.keepIn K (.ref (He.ga K c)) &&
  (decide (PySem.W.subIn K (.ref (He.ga K c)) (.type "BaseException") = some true) && (decide (PySem.W.typeIn K (.ref (He.ga K c)) = some (.type "type")) &&
  (He.eqO (PySem.W.findIn K (.ref (He.ga K c)) "__getattribute__") (some (some (.builtin "BaseException.__getattribute__"))) && (He.eqO (PySem.W.findIn K (.ref (He.ga K c)) "__getattr__") (some none) &&
  (PySem.W.hasDictIn K (He.ga K c) && (He.eqO (PySem.W.findIn K (.ref (He.ga K c)) "__class__") (some (some (.builtin "object.__class__"))) &&
  (He.eqO (PySem.W.specialIn K (.builtin "object.__class__") "__get__") (some (some (.builtin "getset_descriptor.__get__"))) && (decide (PySem.W.takesIn K (.builtin "object.__class__") = some true) &&
  (decide (PySem.W.mroIn K (He.ga K c) (.type "object") = some true) && decide (PySem.W.kitOne K (.ref (He.ga K c)) (.type "ValueError") = some true))))))))))))
def excTwoB (K : PySem.W.Frag) (c x : Str) : Bool := decide (PySem.W.exmOne K (.ref (He.ga K c)) (.ref (He.ga K x)) = some (upB c x)) && decide (PySem.W.kitOne K (.ref (He.ga K c)) (.ref (He.ga K x)) = some (upB c x))
def excAllB (K : PySem.W.Frag) (cs : List Str) : Bool := cs.all fun c => excOneB K c && cs.all fun x => excTwoB K c x
structure ExcOne (K : PySem.W.Frag) (mg : Str → Option Value) (c : Str) : Prop where
  g : mg c = some (.ref (He.ga K c))
  x : PySem.W.excIn K (He.ga K c) He.veBase "ValueError.__new__" = true
  k : PySem.W.keepIn K (.ref (He.ga K c)) = true
  b : PySem.W.subIn K (.ref (He.ga K c)) (.type "BaseException") = some true
  t : PySem.W.typeIn K (.ref (He.ga K c)) = some (.type "type")
  C : ExcC K (He.ga K c)
  v : PySem.W.kitOne K (.ref (He.ga K c)) (.type "ValueError") = some true
structure ExcAll (K : PySem.W.Frag) (mg : Str → Option Value) (cs : List Str) : Prop where
  one : ∀ c, c ∈ cs → ExcOne K mg c
  exm : ∀ c x, c ∈ cs → x ∈ cs → PySem.W.exmOne K (.ref (He.ga K c)) (.ref (He.ga K x)) = some (upB c x)
  kit : ∀ c x, c ∈ cs → x ∈ cs → PySem.W.kitOne K (.ref (He.ga K c)) (.ref (He.ga K x)) = some (upB c x)
theorem excAll_of {K : PySem.W.Frag} {mg : Str → Option Value} {h : Heap} {cs : List Str} (X : K.In h) (G : h.Ns mainGlobals mg) (e : excAllB K cs = true) : ExcAll K mg cs := by
  have e1 : ∀ c, c ∈ cs → excOneB K c = true ∧ ∀ x, x ∈ cs → excTwoB K c x = true := fun c hc => by
    have := List.all_eq_true.mp e c hc
    obtain ⟨a, b⟩ := He.ba this
    exact ⟨a, fun x hx => List.all_eq_true.mp b x hx⟩
  refine ⟨fun c hc => ?_, fun c x hc hx => ?_, fun c x hc hx => ?_⟩
  · have q := (e1 c hc).1
    unfold excOneB at q
    obtain ⟨q1, q⟩ := He.ba q
    obtain ⟨q2, q⟩ := He.ba q
    obtain ⟨q3, q⟩ := He.ba q
    obtain ⟨q4, q⟩ := He.ba q
    obtain ⟨q5, q⟩ := He.ba q
    obtain ⟨q6, q⟩ := He.ba q
    obtain ⟨q7, q⟩ := He.ba q
    obtain ⟨q8, q⟩ := He.ba q
    obtain ⟨q9, q⟩ := He.ba q
    obtain ⟨q10, q⟩ := He.ba q
    obtain ⟨q11, q⟩ := He.ba q
    obtain ⟨q12, q13⟩ := He.ba q
    exact ⟨PySem.W.mg_of X G (He.eqO_ok q1), q2, q3, of_decide_eq_true q4, of_decide_eq_true q5, ⟨He.eqO_ok q6, He.eqO_ok q7, of_decide_eq_true q4, q8, He.eqO_ok q9, He.eqO_ok q10, of_decide_eq_true q11, of_decide_eq_true q12⟩, of_decide_eq_true q13⟩
  · exact of_decide_eq_true (He.ba ((e1 c hc).2 x hx)).1
  · exact of_decide_eq_true (He.ba ((e1 c hc).2 x hx)).2

/-! ### defs that may raise -/
structure DefX (P : Program) (w : World) (K : PySem.W.Frag) (mg : Str → Option Value) (base : Heap) (x : Str) (ps : List Str) (k n : Nat) (fM : List D → Res D) : Prop where
  ex : ∃ (f : Addr) (fd : FuncData), mg x = some (.ref f) ∧ PySem.W.keepIn K (.ref f) = true ∧ Binds K fd ps [] ∧ FnOk P w K mg base (L2.CX P w) k f fd ps (spD K mg n fM)
abbrev Loud (X : Cx) (E : XK) : Prop := Takes X (fun cls d _ H => E cls d H)
section
variable {P : Program} {w : World} {K : PySem.W.Frag} {mg : Str → Option Value} {base : Heap}
theorem mkDefX {x : Str} {st : Stmt} {N ps : List Str} {n : Nat} (g : Gx) {fM : List D → Res D} (hM : fM = run N.length g) (k : Nat) (T : At K mg x st) (S : FnScope N ps (defScope st)) (hn : ps.length = n)
    (hbind : ∀ (kV doc pm : Value) (an : Option Addr) (cdv ct : Value) (us : List Value), us.length = ps.length → bindArgs (PySem.W.fnOf x x (defArgs st) (defBody st) (defScope st) .none kV doc pm an cdv ct) ⟨us, []⟩ = pure (ps.zip us))
    (hbody : ∀ (cdv : Value) (A : Around) (outer : List Env) (s : Shared) (H : Hp) (E : XK) (f : Addr), Room k (A.deeper (envOfC x (defScope st) s.heap.objs.size f cdv)) →
      Loud (cxOf (L2.CX P w) P w K mg base N x (defScope st) f cdv A outer s H E) E →
      ∃ (own' : List Nat) (t : TS), DSs (cxOf (L2.CX P w) P w K mg base N x (defScope st) f cdv A outer s H E) K mg E [] own' (defBody st) t g) : DefX P w K mg base x ps (k + 1) n fM := by
  subst hM
  obtain ⟨f, fd, hm, F⟩ := T.ex
  refine ⟨f, fd, hm, F.kp, F.bindsN hbind, ?_⟩
  have F' := F
  obtain ⟨oc, od, dV, kV, doc, pm, an, cdv, ct, osl, rfl, lk, hcd, hD, hK⟩ := F.ex
  refine fn_of lk hcd S (fun vs H Q E h => by rw [h.1, hn]) fun A outer s H vs Q E hr h => ?_
  obtain ⟨own', t, hb⟩ := hbody cdv A outer s H E f hr (takes_of rfl rfl rfl rfl)
  obtain ⟨_, O, ds, dom, r, w⟩ := h
  exact ⟨t, hb.ps, ts_out hb.ok (fun i m => by cases m) O H _ _ H _ (env_start dom r) (ends_of w)⟩
end
section
variable {X : Cx} {K : PySem.W.Frag} {mg : Str → Option Value} {E : XK} {own own' : List Nat}
theorem passX (tk : Loud X E) : Passes (L2.CX X.prog X.w) X E := passes_call tk fun _ _ _ _ h => h
theorem passQ : Passes (L2.CX X.prog X.w) X E0' := passL
/-- a call of a def that may raise -/
theorem de_fnX {k n : Nat} {fM : List D → Res D} {x : Str} {ps : List Str} {p pos : Pos} {e : Expr} {es : List Expr} {t : TA} {g : Ax}
    (G : DefX X.prog X.w X.K X.mg X.base x ps k n fM) (hx : Passes (L2.CX X.prog X.w) X E) (hr : Room k X.A) (ha : DA X K mg E own (e :: es) t g) (hg : Gl X x := by rfl) (hdb : (x == ("__debug__" : Str)) = false := by decide) (he : starEach (e :: es) X.env = (false, eval e X.env) :: starEach es X.env := by rfl) (hpl : (backTo pos (starEach es X.env)).any (·.1) = false := by rfl) (hK : X.K = K := by rfl) (hmg : X.mg = mg := by rfl) :
    DE X K mg E own (.Call (.Name x p) (e :: es) [] pos) (tCall (spD K mg n fM) [] E t) (callD n fM g) := by
  subst hK hmg
  obtain ⟨f, fd, hm, hk, hb, F⟩ := G.ex
  exact de_call F hr hg hm hk hb hx ha hdb he hpl
theorem de_fnX0 {k : Nat} {fM : List D → Res D} {x : Str} {ps : List Str} {p pos : Pos}
    (G : DefX X.prog X.w X.K X.mg X.base x ps k 0 fM) (hx : Passes (L2.CX X.prog X.w) X E) (hr : Room k X.A) (hg : Gl X x := by rfl) (hdb : (x == ("__debug__" : Str)) = false := by decide) (hK : X.K = K := by rfl) (hmg : X.mg = mg := by rfl) :
    DE X K mg E own (.Call (.Name x p) [] [] pos) (tCall (spD K mg 0 fM) [] E tNil) (callD 0 fM aNil) := by
  subst hK hmg
  obtain ⟨f, fd, hm, hk, hb, F⟩ := G.ex
  exact ⟨pe_call0 F hr hg hm hk hb .nil hx hdb, fun O H0 ρ σ H Q en w => ⟨rfl, AllA O own σ, [], en.domA, .nil, w⟩⟩
/-- raise X('..') -/
theorem ds_raiseX {x m : Str} {j : Nat} {p p2 pos pos2 : Pos} (T : ExcOne K mg x) (tk : Loud X E) (hc : X.calm = true := by rfl) (hg : Gl X x := by rfl) (hdb : (x == ("__debug__" : Str)) = false := by decide) (hK : X.K = K := by rfl) (hmg : X.mg = mg := by rfl) :
    DS X K mg E own own' (.Raise (some (.Call (.Name x p) [.Constant (.str m) j p2] [] pos)) none pos2) (fun _ _ H => E (.ref (He.ga K x)) none H) (gRaise x) := by
  subst hK hmg
  exact ⟨ps_raise hc tk (pmk_own PySem.F.excBase_ValueError T.x T.g T.k (raises_own T.b T.t) hg hdb), fun O H0 ρ σ H D en w => by
    obtain ⟨C, hC, z⟩ := w
    rw [T.g] at hC
    cases hC
    exact z H en.base⟩
end

/-! ### try: what stands within changes no name -/
structure DB (X : Cx) (K : PySem.W.Frag) (mg : Str → Option Value) (own : List Nat) (body : List Stmt) (tb : WX → TS) (gB : Rho → Res Unit) : Prop where
  ps : ∀ (W : WX) (pn : List (Addr × Obj)) (xe : Value → Shared → Prop), Takes (X.tr pn xe) W → PSs (X.tr pn xe) body (tb W)
  ok : ∀ (O : Addr → Prop) (H0 : Hp) (ρ : Rho) (σ : L2.St) (H : Hp) (D : Ends) (W : WX), EnvOk K O H0 own ρ σ H →
    (match gB ρ with
      | .ok _ => ∀ H', EnvOk K O H0 own ρ σ H' → D.nx σ H'
      | .exc c => ∃ C, mg c = some (.ref C) ∧ ∀ H', EnvOk K O H0 own ρ σ H' → W (.ref C) none σ H'
      | .bad => False) → tb W D σ H
def bCall (n : Nat) (fM : List D → Res D) (g : Ax) : Rho → Res Unit := fun ρ => (g ρ).calm.bind fun ds => if ds.length = n then (fM ds).bind fun _ => .ok () else .bad
section
variable {X : Cx} {K : PySem.W.Frag} {mg : Str → Option Value} {own own' : List Nat}
theorem db_call {k n : Nat} {fM : List D → Res D} {x : Str} {ps : List Str} {p pos epos : Pos} {e : Expr} {es : List Expr} {t : TA} {g : Ax}
    (G : DefX X.prog X.w X.K X.mg X.base x ps k n fM) (hr : Room k X.A) (ha : ∀ (pn : List (Addr × Obj)) (xe : Value → Shared → Prop), DA (X.tr pn xe) K mg E0' own (e :: es) t g) (hg : Gl X x := by rfl) (hdb : (x == ("__debug__" : Str)) = false := by decide) (he : starEach (e :: es) X.env = (false, eval e X.env) :: starEach es X.env := by rfl) (hpl : (backTo pos (starEach es X.env)).any (·.1) = false := by rfl)
    (hs : swapsWith (.Call (.Name x p) (e :: es) [] pos) none epos.line X.env = pure false := by rfl) (hK : X.K = K := by rfl) (hmg : X.mg = mg := by rfl) :
    DB X K mg own [.Expr (.Call (.Name x p) (e :: es) [] pos) epos] (fun W => tDrop (tCallS (spD K mg n fM) (WE W) t)) (bCall n fM g) := by
  subst hK hmg
  obtain ⟨f, fd, hm, hk, hb, F⟩ := G.ex
  refine ⟨fun W pn xe tk => pss_one (ps_expr (pe_callS (X := X.tr pn xe) F hr hg hm hk hb (fun σ => passAt tk σ) (ha pn xe).pa hdb he hpl) hs), fun O H0 ρ σ H D W en w => ?_⟩
  have aok := (ha [] fun _ _ => True).ok
  unfold bCall at w
  refine aok O H0 ρ σ H _ en ?_
  cases hgr : g ρ with
  | exc c => rw [hgr] at w; exact w.elim
  | bad => rw [hgr] at w; exact w.elim
  | ok ds =>
    rw [hgr] at w
    intro vs H1 s1 r1
    have w' : (match (if ds.length = n then (fM ds).bind fun _ => .ok () else .bad : Res Unit) with
      | .ok _ => ∀ H', EnvOk X.K O H0 own ρ σ H' → D.nx σ H'
      | .exc c => ∃ C, X.mg c = some (.ref C) ∧ ∀ H', EnvOk X.K O H0 own ρ σ H' → W (.ref C) none σ H'
      | .bad => False) := w
    by_cases c : ds.length = n
    · rw [if_pos c] at w'
      refine ⟨by rw [r1.length, c], AllA O own σ, ds, en.domA.same s1, r1, ?_⟩
      cases hf : fM ds with
      | ok d =>
        rw [hf] at w'
        exact fun v H' s' _ => w' H' (en.mono (s1.trans s'))
      | exc c =>
        rw [hf] at w'
        obtain ⟨C, hC, z⟩ := w'
        exact ⟨C, hC, fun H' s' => z H' (en.mono (s1.trans s'))⟩
      | bad => rw [hf] at w'; exact w'
    · rw [if_neg c] at w'; exact w'.elim
def bIf (c : Tx) (g h : Rho → Res Unit) : Rho → Res Unit := fun ρ => (c ρ).calm.bind fun b => if b = true then g ρ else h ρ
theorem db_if {c : Expr} {a b : List Stmt} {tc : TT} {fc : Tx} {ta tb : WX → TS} {ga gb : Rho → Res Unit} {pos : Pos} (hc : ∀ (pn : List (Addr × Obj)) (xe : Value → Shared → Prop), DT (X.tr pn xe) K mg E0' own c tc fc) (ha : DB X K mg own a ta ga) (hb : DB X K mg own b tb gb) :
    DB X K mg own [.If c a b pos] (fun W => tIfS tc (ta W) (tb W)) (bIf fc ga gb) := by
  refine ⟨fun W pn xe tk => pss_one (ps_if (hc pn xe).pt (ha.ps W pn xe tk) (hb.ps W pn xe tk)), fun O H0 ρ σ H D W en w => ?_⟩
  unfold bIf at w
  refine (hc [] fun _ _ => True).ok O H0 ρ σ H _ en ?_
  cases hcr : fc ρ with
  | exc c => rw [hcr] at w; exact w.elim
  | bad => rw [hcr] at w; exact w.elim
  | ok k =>
    rw [hcr] at w
    intro H1 s1
    cases k with
    | true => exact iteT (ha.ok O H0 ρ σ H1 D W (en.mono s1) w)
    | false => exact iteF (hb.ok O H0 ρ σ H1 D W (en.mono s1) w)
/-! #### clauses without a name -/
def pickG : List (Str × Gx) → Str → Gx
  | [], _ => fun _ => .bad
  | (x, g) :: r, c => fun ρ => if upB c x = true then g ρ else pickG r c ρ
structure DHs (X : Cx) (K : PySem.W.Frag) (mg : Str → Option Value) (cs : List Str) (own own' : List Nat) (hds : List ExceptHandler) (l : List (Value × (Addr → Value → Option Addr → TS))) (gs : List (Str × Gx)) : Prop where
  ps : HdsOk X hds l
  ok : ∀ (O : Addr → Prop) (H0 : Hp) (ρ : Rho) (σ : L2.St) (H : Hp) (D : Ends) (c : Str), c ∈ cs → EnvOk K O H0 own ρ σ H → OutW K mg E0' O H0 own' D (pickG gs c ρ) → wMany K (fun _ _ _ _ => False) D l (.ref (He.ga K c)) none σ H
theorem dhs_nil {cs : List Str} : DHs X K mg cs own own' [] [] [] := ⟨.nil, fun O H0 ρ σ H D c hc en w => w⟩
theorem dhs_cons {cs : List Str} (A : ExcAll K mg cs) {x : Str} {np pos' : Pos} {b₀ : Stmt} {suite : List Stmt} {ts : TS} {g : Gx} {hds : List ExceptHandler} {l : List (Value × (Addr → Value → Option Addr → TS))} {gs : List (Str × Gx)}
    (hsu : ∀ (a : Addr) (oe : Obj) (pn : List (Addr × Obj)), DSs (X.suite a ((a, oe) :: pn)) K mg E0' own own' (b₀ :: suite) ts g) (r : DHs X K mg cs own own' hds l gs) (hxc : x ∈ cs := by decide) (hg : Gl X x := by rfl) (hdb : (x == ("__debug__" : Str)) = false := by decide) (hK : X.K = K := by rfl) (hmg : X.mg = mg := by rfl) :
    DHs X K mg cs own own' (.ExceptHandler (some (.Name x np)) none (b₀ :: suite) pos' :: hds) ((.ref (He.ga K x), fun _ _ _ => ts) :: l) ((x, g) :: gs) := by
  subst hK hmg
  refine ⟨.cons ⟨hg, hdb, .inl (A.one x hxc).g⟩ (fun a oe cls d pn _ _ => (hsu a oe pn).ps) r.ps, fun O H0 ρ σ H D c hc en w => ?_⟩
  refine ⟨upB c x, A.exm c x hc hxc, fun e a _ => ?_, fun e => ?_⟩
  · unfold pickG at w
    rw [if_pos e] at w
    exact (hsu a default []).ok O H0 ρ σ H D en w
  · unfold pickG at w
    rw [if_neg (by rw [e]; decide)] at w
    exact r.ok O H0 ρ σ H D c hc en w
def gTryM (cs : List Str) (gB : Rho → Res Unit) (gs : List (Str × Gx)) : Gx := fun ρ => match gB ρ with
  | .ok _ => .nx ρ
  | .exc c => if c ∈ cs then pickG gs c ρ else .bad
  | .bad => .bad
theorem ds_tryM {cs : List Str} (A : ExcAll K mg cs) {body : List Stmt} {tb : WX → TS} {gB : Rho → Res Unit} {h₀ : ExceptHandler} {hds : List ExceptHandler} {l : List (Value × (Addr → Value → Option Addr → TS))} {gs : List (Str × Gx)} {pos : Pos}
    (hb : DB X K mg own body tb gB) (hh : DHs X K mg cs own own' (h₀ :: hds) l gs) (s : ∀ i ∈ own', i ∈ own := by decide) (hs : X.stack = X.env :: X.outer := by rfl) (hf : X.env.frame = some X.env.locals := by rfl) (hK : X.K = K := by rfl) :
    DS X K mg E0' own own' (.Try body (h₀ :: hds) [] [] pos) (fun D σ H => tb (wMany K (fun _ _ _ _ => False) D l) D σ H) (gTryM cs gB gs) := by
  subst hK
  refine ⟨ps_try_many hs hf takes0 (fun W pn xe tk _ => hb.ps W pn xe tk) hh.ps, fun O H0 ρ σ H D en w => ?_⟩
  refine hb.ok O H0 ρ σ H D _ en ?_
  unfold gTryM at w
  cases q : gB ρ with
  | ok _ => rw [q] at w; exact fun H' e' => w σ H' (e'.freeze s)
  | bad => rw [q] at w; exact w
  | exc c =>
    rw [q] at w
    by_cases hc : c ∈ cs
    · have w' : OutW X.K mg E0' O H0 own' D (if c ∈ cs then pickG gs c ρ else .bad) := w
      rw [if_pos hc] at w'
      exact ⟨_, (A.one c hc).g, fun H' e' => hh.ok O H0 ρ σ H' D c hc e' w'⟩
    · have w' : OutW X.K mg E0' O H0 own' D (if c ∈ cs then pickG gs c ρ else .bad) := w
      rw [if_neg hc] at w'
      exact w'.elim
end

/-! ### except X as e: what the suite asks of e -/
def TEz (K : PySem.W.Frag) (mg : Str → Option Value) (i : Nat) (a : Addr) (own : List Nat) (t : TE) (f : Ex) : Prop :=
  ∀ (O : Addr → Prop) (H0 : Hp) (ρ : Rho) (σ : L2.St) (H : Hp) (Q : VK), EnvOk K O H0 own ρ σ H → σ[i]? = some (some (.ref a)) → ResW mg E0' H (fun d => ∀ v H', Same H H' → R K (Cut (AllA O own σ) H') v d → Q v H') (f ρ) → t σ H Q
structure DEz (X : Cx) (K : PySem.W.Frag) (mg : Str → Option Value) (i : Nat) (a : Addr) (own : List Nat) (e : Expr) (t : TE) (f : Ex) : Prop where
  pe : PE X e t
  ok : TEz K mg i a own t f
def TSz (K : PySem.W.Frag) (mg : Str → Option Value) (i : Nat) (a : Addr) (own own' : List Nat) (t : TS) (g : Gx) : Prop :=
  ∀ (O : Addr → Prop) (H0 : Hp) (ρ : Rho) (σ : L2.St) (H : Hp) (D : Ends), EnvOk K O H0 own ρ σ H → σ[i]? = some (some (.ref a)) → OutW K mg E0' O H0 own' D (g ρ) → t D σ H
structure DSz (X : Cx) (K : PySem.W.Frag) (mg : Str → Option Value) (i : Nat) (a : Addr) (own own' : List Nat) (st : List Stmt) (t : TS) (g : Gx) : Prop where
  ps : PSs X st t
  ok : TSz K mg i a own own' t g
section
variable {X : Cx} {K : PySem.W.Frag} {mg : Str → Option Value} {i : Nat} {a : Addr} {own own' own'' : List Nat} {e b c : Expr} {t te tb tc : TE} {f fb fc : Ex} {p pos : Pos} {rest : List Expr}
theorem dez_of (h : DE X K mg E0' own e te f) : DEz X K mg i a own e te f := ⟨h.pe, fun O H0 ρ σ H Q en _ w => h.ok O H0 ρ σ H Q en w⟩
theorem dez_op {o : Operator} {op : D → D → Option D} {r : R2} (ho : OpR X (binaryOp o) r) (hr : OpD K r op) (ha : DEz X K mg i a own e te f) (hb : DEz X K mg i a own b tb fb) : DEz X K mg i a own (.BinOp e o b pos) (tOp r te tb) (bin f fb op) :=
  ⟨pe_op ho ha.pe hb.pe, fun O H0 ρ σ H Q en z w => by
    unfold bin at w
    rw [resW_bind] at w
    refine ha.ok O H0 ρ σ H _ en z (w.mono (Same.refl H) fun x wa v1 H1 s1 r1 => ?_)
    rw [resW_bind] at wa
    refine hb.ok O H0 ρ σ H1 _ (en.mono s1) z (wa.mono s1 fun y wb v2 H2 s2 r2 => ?_)
    exact hr _ H2 v1 v2 x y Q (en.domA.same (s1.trans s2)) (r1.mono (cut_same s2)) r2 ((okW_of wb).mono fun d k v H' s r => k v H' ((s1.trans s2).trans s) r)⟩
theorem dez_add (ha : DEz X K mg i a own e te f) (hb : DEz X K mg i a own b tb fb) (hK : X.K = K := by rfl) : DEz X K mg i a own (.BinOp e .Add b pos) (tOp (rAddD K) te tb) (bin f fb dAdd) := by
  subst hK
  exact dez_op op_addD od_add ha hb
theorem dez_eq (hu : X.A.units + 64 < cLine) (ha : DEz X K mg i a own e te f) (hb : DEz X K mg i a own b tb fb) (hK : X.K = K := by rfl) : DEz X K mg i a own (.Compare e [.Eq] [b] pos) (tOp (rEqD K) te tb) (bin f fb dEq) := by
  subst hK
  exact ⟨pe_cmpR (op_eqD hu) ha.pe hb.pe (nomark _), fun O H0 ρ σ H Q en z w => by
    unfold bin at w
    rw [resW_bind] at w
    refine ha.ok O H0 ρ σ H _ en z (w.mono (Same.refl H) fun x wa v1 H1 s1 r1 => ?_)
    rw [resW_bind] at wa
    refine hb.ok O H0 ρ σ H1 _ (en.mono s1) z (wa.mono s1 fun y wb v2 H2 s2 r2 => ?_)
    exact od_eq _ H2 v1 v2 x y Q (en.domA.same (s1.trans s2)) (r1.mono (cut_same s2)) r2 ((okW_of wb).mono fun d k v H' s r => k v H' ((s1.trans s2).trans s) r)⟩
theorem dez_int (hm : X.mg "int" = none) (ha : DEz X K mg i a own e te f) (hg : Gl X "int" := by rfl) (he : starEach (e :: []) X.env = (false, eval e X.env) :: starEach [] X.env := by rfl) (hpl : (backTo pos (starEach [] X.env)).any (·.1) = false := by rfl) :
    DEz X K mg i a own (.Call (.Name "int" p) [e] [] pos) (tCB (fun xs H Q => (∃ i, xs = [V.int i] ∧ Q (.int i) H) ∨ ∃ k, xs = [V.bl k] ∧ Q (.int (if k then 1 else 0)) H) (tCons te tNil)) (un f dInt) :=
  ⟨pe_callTy call_int1 hg hm bt_int (pa_cons ha.pe pa_nil he) (by decide) (by decide) he hpl, fun O H0 ρ σ H Q en z w => by
    unfold un at w
    rw [resW_bind] at w
    refine ha.ok O H0 ρ σ H _ en z (w.mono (Same.refl H) fun x wa v1 H1 s1 r1 => ?_)
    exact cc_int (K := K) _ H1 v1 x Q (en.domA.same s1) (.sh r1) ((okW_of wa).mono fun d k v H' s r => k v H' (s1.trans s) r)⟩
theorem dez_one {o : BoolOp} (h : DEz X K mg i a own e te f) : DEz X K mg i a own (.BoolOp o [e] pos) te f := ⟨pe_one h.pe, h.ok⟩
theorem dez_and (ha : DEz X K mg i a own e te f) (hb : DEz X K mg i a own (.BoolOp .And (b :: rest) pos) tb fb) : DEz X K mg i a own (.BoolOp .And (e :: b :: rest) pos) (tAndV te tb) (andV f fb) :=
  ⟨pe_and ha.pe hb.pe, fun O H0 ρ σ H Q en z w => by
    unfold andV at w
    rw [resW_bind] at w
    refine ha.ok O H0 ρ σ H _ en z (w.mono (Same.refl H) fun d wd v H1 s1 r1 => ?_)
    cases d <;> first | exact wd.elim | skip
    rename_i k
    rw [r1.bool_of]
    refine ⟨k, rfl, ?_⟩
    cases k with
    | true => exact iteT (hb.ok O H0 ρ σ H1 _ (en.mono s1) z (ResW.mono wd s1 fun k h v H' s => h v H' (s1.trans s)))
    | false => exact iteF (wd _ H1 s1 (.bl false))⟩
theorem dez_not (ha : DEz X K mg i a own e te f) : DEz X K mg i a own (.UnaryOp .Not e pos) (tNotV te) (notV f) :=
  ⟨pe_not ha.pe, fun O H0 ρ σ H Q en z w => by
    unfold notV at w
    rw [resW_bind] at w
    refine ha.ok O H0 ρ σ H _ en z (w.mono (Same.refl H) fun d wd v H1 s1 r1 => ?_)
    cases d <;> first | exact wd.elim | skip
    rename_i k
    rw [r1.bool_of]
    exact ⟨k, rfl, wd _ H1 s1 (.bl _)⟩⟩
theorem dsz_ret (he : DEz X K mg i a own e te f) : DSz X K mg i a own own' [.Return (some e) pos] (tRet te) (gRet f) :=
  ⟨pss_one (ps_ret he.pe), fun O H0 ρ σ H D en z w => he.ok O H0 ρ σ H _ en z ((outW_out en w).mono (Same.refl H) fun d wd v H1 s1 r1 => wd v H1 (en.base.trans s1) (r1.mono (cut_mono fun a h => .inl h)))⟩
theorem dsz_set (j : Nat) {x : Str} {pos' : Pos} (hi' : j ∉ own := by decide) (hN : X.N.Nodup) (he : DEz X K mg i a own e te f) (hi : X.N[j]? = some x := by rfl) (hx : Loc X.env.scope x := by first | exact Or.inl rfl | exact Or.inr rfl)
    (hs : swapsWith e (some (.Name x pos')) pos.line X.env = pure false := by rfl) (hf : X.fn x = true ∨ X.env.scope.names.lookup x = some .local := by first | exact .inl rfl | exact .inr rfl | assumption) :
    DSz X K mg i a own own [.Assign [.Name x pos'] e pos] (tAsg te (gName j)) (gSet j f) :=
  ⟨pss_one (ps_set hN hi hx he.pe hs hf), fun O H0 ρ σ H D en z w => he.ok O H0 ρ σ H _ en z ((outW_out en w).mono (Same.refl H) fun d wd v H1 s1 r1 => wd _ H1 ((en.mono s1).setSh hi' r1))⟩
/-- x = e, then the rest -/
theorem dsz_setC (j : Nat) {x : Str} {pos' : Pos} {st : List Stmt} {u : TS} {g : Gx} (hj : j ≠ i := by decide) (hi' : j ∉ own := by decide) (hN : X.N.Nodup) (he : DEz X K mg i a own e te f) (hr : DSz X K mg i a own own' st u g) (hi : X.N[j]? = some x := by rfl) (hx : Loc X.env.scope x := by first | exact Or.inl rfl | exact Or.inr rfl)
    (hs : swapsWith e (some (.Name x pos')) pos.line X.env = pure false := by rfl) (hf : X.fn x = true ∨ X.env.scope.names.lookup x = some .local := by first | exact .inl rfl | exact .inr rfl | assumption) :
    DSz X K mg i a own own' (.Assign [.Name x pos'] e pos :: st) (tSeq (tAsg te (gName j)) u) (gSeq (gSet j f) g) :=
  ⟨pss_cons (ps_set hN hi hx he.pe hs hf) hr.ps, fun O H0 ρ σ H D en z w => by
    refine he.ok O H0 ρ σ H _ en z ?_
    unfold gSeq gSet at w
    cases q : f ρ with
    | exc c => rw [q] at w; obtain ⟨_, _, y⟩ := w; exact (y H en.base).elim
    | bad => rw [q] at w; exact w
    | ok d =>
      rw [q] at w
      intro v H1 s1 r1
      exact hr.ok O H0 _ _ H1 D ((en.mono s1).setSh hi' r1) (by rw [List.getElem?_set_ne hj]; exact z) w⟩
/-- if t: .. (the suite's branch ends it), then the rest -/
theorem dsz_ifC {st st' : List Stmt} {u u' : TS} {g g' : Gx} (hc : DEz X K mg i a own c tc fc) (ht : PT X c (tTest tc)) (ha : DSz X K mg i a own own st u g) (hr : DSz X K mg i a own own' st' u' g')
    (hret : ∀ ρ ρ', g ρ ≠ .nx ρ') : DSz X K mg i a own own' (.If c st [] pos :: st') (tSeq (tIfS (tTest tc) u tNext) u') (gSeq (gIf (asB fc) g gSkip) g') :=
  ⟨pss_cons (ps_if ht ha.ps pss_nil) hr.ps, fun O H0 ρ σ H D en z w => by
    refine hc.ok O H0 ρ σ H _ en z ?_
    unfold gSeq gIf asB at w
    cases q : fc ρ with
    | exc c => rw [q] at w; obtain ⟨_, _, y⟩ := w; exact (y H en.base).elim
    | bad => rw [q] at w; exact w
    | ok d =>
      rw [q] at w
      intro v H1 s1 r1
      cases d <;> first | exact w.elim | skip
      rename_i k
      refine ⟨k, r1.bool_of, ?_⟩
      cases k with
      | true =>
        refine iteT (ha.ok O H0 ρ σ H1 _ (en.mono s1) z ?_)
        have w' : OutW K mg E0' O H0 own' D (match g ρ with | .nx ρ' => g' ρ' | o => o) := w
        cases qg : g ρ with
        | nx ρ' => exact (hret _ _ qg).elim
        | rt d => rw [qg] at w'; exact w'
        | exc c => rw [qg] at w'; exact w'
        | bad => rw [qg] at w'; exact w'
      | false => exact iteF (hr.ok O H0 ρ σ H1 D (en.mono s1) z w)⟩
theorem dsz_ifEq {st st' : List Stmt} {u u' : TS} {g g' : Gx} {k : Nat} {A0 : Around} (hr0 : Room k A0) (ha : DEz X K mg i a own e te f) (hb : DEz X K mg i a own b tb fb) (hs : DSz X K mg i a own own st u g) (hr : DSz X K mg i a own own' st' u' g')
    (hret : ∀ ρ ρ', g ρ ≠ .nx ρ') (hA : X.A.units = A0.units := by rfl) (hK : X.K = K := by rfl) : DSz X K mg i a own own' (.If (.Compare e [.Eq] [b] pos) st [] p :: st') (tSeq (tIfS (tTest (tOp (rEqD K) te tb)) u tNext) u') (gSeq (gIf (asB (bin f fb dEq)) g gSkip) g') :=
  have hu : X.A.units + 64 < cLine := by rw [hA]; exact hu64 hr0
  dsz_ifC (dez_eq hu ha hb hK) (by subst hK; exact pt_cmpR (op_eqD hu) ha.pe hb.pe (nomark _)) hs hr hret
end
/-! isinstance(e, T), isinstance(e, (T, ..)) -/
/-- isinstance(e, (c1, c2, ..)), e the exception that the suite holds -/
def rIsET (K : PySem.W.Frag) (D a : Addr) : List V → Hp → VK → Prop := fun xs H Q => ∃ (tp : Addr) (cs : List V) (us : List Value) (b : Bool), xs = [.ref a, .ref tp] ∧ H tp = some (.tup cs) ∧ Paired ClsV cs us ∧ PySem.W.kitAny K (.ref D) us = some b ∧ Q (.bl b) H
theorem call_isET {X : Cx} {a D : Addr} {oe : Obj} {pn : List (Addr × Obj)} (C : ExcC X.K D) (hz : Zc (.ref D) none oe) (hf : ∃ vs, oe.data = .fields vs) : CallR (X.suite a ((a, oe) :: pn)) (.builtin "isinstance") (rIsET X.K D a) := by
  intro pins s σ H xs us Q I r h
  obtain ⟨tp, cs, ws, b, rfl, hT, k, e, q⟩ := h
  cases r with
  | cons rx rr =>
    cases rr with
    | cons rt rr =>
      cases rr
      cases rx
      cases rt
      obtain ⟨hget, _⟩ := I.pin (a, oe) (List.mem_append.mpr (.inl List.mem_cons_self))
      obtain ⟨vs, hv⟩ := hf
      have J : PySem.W.InstAt s.heap a oe D none := by
        obtain ⟨oc, od, oda, osl⟩ := oe
        obtain ⟨h1, h2⟩ := hz
        dsimp only at h1 h2 hv
        subst h1 h2 hv
        exact ⟨hget, rfl, rfl, trivial⟩
      obtain ⟨_, its, rv, o, h1, h2, n, h3⟩ := (show ObjOk X.prog X.w H s.heap tp (.tup cs) from I.hok tp _ hT)
      have e3 := ClsV.all k rv
      subst e3
      obtain ⟨oc, od, dt, sl⟩ := o
      simp only at h2 h3
      subst h2 h3
      exact PySem.W.kia_tup (PySem.W.handS_kitx_exc C.hg C.hk C.hs C.hd C.ha C.hn C.ht C.hm) I.kIn J h1 e (fun z => nomatch z) fun tk => ⟨.bl b, H, I.kept (t' := tk) fun _ _ z => z, rfl, q⟩
section
variable {X : Cx} {K : PySem.W.Frag} {mg : Str → Option Value} {i : Nat} {a : Addr} {own own' : List Nat} {oe : Obj} {pn : List (Addr × Obj)} {c : Str} {cs : List Str} {e y : Str} {p p1 p2 pos : Pos}
/-- isinstance(e, ValueError) -/
theorem dez_isV (A : ExcAll K mg cs) (hc : c ∈ cs) (hz : Zc (.ref (He.ga K c)) none oe) (hf : ∃ vs, oe.data = .fields vs) (hm : X.mg "isinstance" = none) (hmy : X.mg "ValueError" = none) (hN : X.N[i]? = some e := by rfl) (hv : Vis X.env.scope e := by first | exact Or.inl rfl | exact Or.inr (Or.inl rfl) | exact Or.inr (Or.inr rfl)) (hd : (e == ("__debug__" : Str)) = false := by decide)
    (hcd : (e == ("__classdict__" : Str)) = false := by decide) (hg : Gl X "isinstance" := by rfl) (hgy : Gl X "ValueError" := by rfl)
    (he : starEach ((.Name e p1) :: [.Name "ValueError" p2]) X.env = (false, eval (.Name e p1) X.env) :: starEach [.Name "ValueError" p2] X.env := by rfl) (he2 : starEach [.Name "ValueError" p2] X.env = (false, eval (.Name "ValueError" p2) X.env) :: starEach [] X.env := by rfl)
    (hpl : (backTo pos (starEach [.Name "ValueError" p2] X.env)).any (·.1) = false := by rfl) (hK : X.K = K := by rfl) (hmg : X.mg = mg := by rfl) :
    DEz (X.suite a ((a, oe) :: pn)) K mg i a own (.Call (.Name "isinstance" p) [.Name e p1, .Name "ValueError" p2] [] pos) (tCB (rIsE K (He.ga K c) a) (tCons (tVar i) (tCons (tC (.ty "ValueError")) tNil))) (kc (.bool true)) := by
  subst hK hmg
  exact ⟨pe_callB (X := X.suite a ((a, oe) :: pn)) (call_isE (A.one c hc).C hz hf) hg hm (by decide +kernel) (pa_cons (pe_var (X := X.suite a ((a, oe) :: pn)) hN hv hd hcd) (pa_cons (pe_bltn (X := X.suite a ((a, oe) :: pn)) hgy hmy (by decide +kernel) rfl) pa_nil he2) he) (by decide) (by decide) he hpl,
    fun O H0 ρ σ H Q en z w => ⟨_, z, .ty "ValueError", .type "ValueError", true, rfl, fun u r => r, (A.one c hc).v, w _ H (Same.refl H) (.bl true)⟩⟩
/-- isinstance(e, X), X an own class -/
theorem dez_isO (A : ExcAll K mg cs) (hc : c ∈ cs) (hz : Zc (.ref (He.ga K c)) none oe) (hf : ∃ vs, oe.data = .fields vs) (hm : X.mg "isinstance" = none) (hy : y ∈ cs := by decide) (hN : X.N[i]? = some e := by rfl) (hv : Vis X.env.scope e := by first | exact Or.inl rfl | exact Or.inr (Or.inl rfl) | exact Or.inr (Or.inr rfl)) (hd : (e == ("__debug__" : Str)) = false := by decide)
    (hcd : (e == ("__classdict__" : Str)) = false := by decide) (hg : Gl X "isinstance" := by rfl) (hgy : Gl X y := by rfl) (hdy : (y == ("__debug__" : Str)) = false := by decide)
    (he : starEach ((.Name e p1) :: [.Name y p2]) X.env = (false, eval (.Name e p1) X.env) :: starEach [.Name y p2] X.env := by rfl) (he2 : starEach [.Name y p2] X.env = (false, eval (.Name y p2) X.env) :: starEach [] X.env := by rfl)
    (hpl : (backTo pos (starEach [.Name y p2] X.env)).any (·.1) = false := by rfl) (hK : X.K = K := by rfl) (hmg : X.mg = mg := by rfl) :
    DEz (X.suite a ((a, oe) :: pn)) K mg i a own (.Call (.Name "isinstance" p) [.Name e p1, .Name y p2] [] pos) (tCB (rIsE K (He.ga K c) a) (tCons (tVar i) (tCons (tC (.ref (He.ga K y))) tNil))) (kc (.bool (upB c y))) := by
  subst hK hmg
  exact ⟨pe_callB (X := X.suite a ((a, oe) :: pn)) (call_isE (A.one c hc).C hz hf) hg hm (by decide +kernel) (pa_cons (pe_var (X := X.suite a ((a, oe) :: pn)) hN hv hd hcd) (pa_cons (pe_glob (X := X.suite a ((a, oe) :: pn)) hgy (A.one y hy).g rfl hdy) pa_nil he2) he) (by decide) (by decide) he hpl,
    fun O H0 ρ σ H Q en z w => ⟨_, z, .ref (He.ga X.K y), .ref (He.ga X.K y), upB c y, rfl, fun u r => r, A.kit c y hc hy, w _ H (Same.refl H) (.bl _)⟩⟩
end
/-- the classes of a tuple, by their names -/
def tNames (K : PySem.W.Frag) : List Str → TA
  | [] => tNil
  | y :: r => tCons (tC (.ref (He.ga K y))) (tNames K r)
theorem tNames_ok {K : PySem.W.Frag} {σ : L2.St} {H : Hp} {Q : List V → Hp → Prop} : ∀ {ys : List Str}, Q (ys.map fun y => .ref (He.ga K y)) H → tNames K ys σ H Q
  | [], h => h
  | y :: r, h => tNames_ok (ys := r) (Q := fun vs H' => Q (.ref (He.ga K y) :: vs) H') h
structure PNm (X : Cx) (es : List Expr) (ys : List Str) : Prop where
  pa : PA X es (tNames X.K ys)
theorem pnm_nil {X : Cx} : PNm X [] [] := ⟨pa_nil⟩
theorem pnm_cons {X : Cx} {cs : List Str} {y : Str} {ys : List Str} {q : Pos} {es : List Expr} (A : ExcAll X.K X.mg cs) (r : PNm X es ys) (hy : y ∈ cs := by decide) (hgy : Gl X y := by rfl) (hdy : (y == ("__debug__" : Str)) = false := by decide) (he : starEach (.Name y q :: es) X.env = (false, eval (.Name y q) X.env) :: starEach es X.env := by rfl) : PNm X (.Name y q :: es) (y :: ys) :=
  ⟨pa_cons (pe_glob hgy (A.one y hy).g rfl hdy) r.pa he⟩
theorem paired_names {K : PySem.W.Frag} : ∀ ys : List Str, Paired ClsV (ys.map fun y => V.ref (He.ga K y)) (ys.map fun y => Value.ref (He.ga K y))
  | [] => .nil
  | y :: r => .cons (.own _) (paired_names r)
theorem kitAny_names {K : PySem.W.Frag} {mg : Str → Option Value} {cs : List Str} {c : Str} (A : ExcAll K mg cs) (hc : c ∈ cs) : ∀ ys : List Str, (∀ y, y ∈ ys → y ∈ cs) → PySem.W.kitAny K (.ref (He.ga K c)) (ys.map fun y => Value.ref (He.ga K y)) = some (ys.any fun y => upB c y)
  | [], _ => rfl
  | y :: r, h => by
    have e := A.kit c y hc (h y List.mem_cons_self)
    have ih := kitAny_names A hc r fun z hz => h z (List.mem_cons_of_mem _ hz)
    rw [List.map_cons]
    unfold PySem.W.kitAny
    rw [e, List.any_cons]
    cases upB c y with
    | true => rfl
    | false => exact ih
section
variable {X : Cx} {K : PySem.W.Frag} {mg : Str → Option Value} {i : Nat} {a : Addr} {own own' : List Nat} {oe : Obj} {pn : List (Addr × Obj)} {c : Str} {cs : List Str} {e : Str} {ys : List Str} {es : List Expr} {kk : Nat} {p p1 p2 pos : Pos}
theorem dez_isT (A : ExcAll K mg cs) (hc : c ∈ cs) (hz : Zc (.ref (He.ga K c)) none oe) (hf : ∃ vs, oe.data = .fields vs) (hm : X.mg "isinstance" = none) (hes : PNm (X.suite a ((a, oe) :: pn)) es ys) (hy : ∀ y, y ∈ ys → y ∈ cs := by decide) (hl : ys.length ≤ 100 := by decide) (hN : X.N[i]? = some e := by rfl) (hv : Vis X.env.scope e := by first | exact Or.inl rfl | exact Or.inr (Or.inl rfl) | exact Or.inr (Or.inr rfl)) (hd : (e == ("__debug__" : Str)) = false := by decide)
    (hcd : (e == ("__classdict__" : Str)) = false := by decide) (hg : Gl X "isinstance" := by rfl)
    (he : starEach ((.Name e p1) :: [.Tuple es kk p2]) X.env = (false, eval (.Name e p1) X.env) :: starEach [.Tuple es kk p2] X.env := by rfl) (he2 : starEach [.Tuple es kk p2] X.env = (false, eval (.Tuple es kk p2) X.env) :: starEach [] X.env := by rfl)
    (hpl : (backTo pos (starEach [.Tuple es kk p2] X.env)).any (·.1) = false := by rfl) (hK : X.K = K := by rfl) (hmg : X.mg = mg := by rfl) :
    DEz (X.suite a ((a, oe) :: pn)) K mg i a own (.Call (.Name "isinstance" p) [.Name e p1, .Tuple es kk p2] [] pos) (tCB (rIsET K (He.ga K c) a) (tCons (tVar i) (tCons (tTup (tNames K ys)) tNil))) (kc (.bool (ys.any fun y => upB c y))) := by
  subst hK hmg
  exact ⟨pe_callB (X := X.suite a ((a, oe) :: pn)) (call_isET (A.one c hc).C hz hf) hg hm (by decide +kernel) (pa_cons (pe_var (X := X.suite a ((a, oe) :: pn)) hN hv hd hcd) (pa_cons (pe_tup hes.pa) pa_nil he2) he) (by decide) (by decide) he hpl,
    fun O H0 ρ σ H Q en z w => ⟨_, z, tNames_ok ⟨by rw [List.length_map]; exact line_le (by omega), fun q nq => ⟨q, _, _, _, rfl, upd_same, paired_names ys, kitAny_names A hc ys hy, w _ _ (same_new nq) (.bl _)⟩⟩⟩⟩
end
/-! the clause -/
theorem set_len {σ : L2.St} {i : Nat} {o : Option V} (h : i < σ.length) : (σ.set i o)[i]? = some o := List.getElem?_set_self h
theorem EnvOk.unset {K : PySem.W.Frag} {O : Addr → Prop} {H0 H : Hp} {own : List Nat} {ρ : Rho} {σ : L2.St} (e : EnvOk K O H0 own ρ σ H) {i : Nat} (h : i ∉ own) (o : Option V) : EnvOk K O H0 own (ρ.set i none) (σ.set i o) H := by
  have own_eq : ∀ a, OwnA own (σ.set i o) a ↔ OwnA own σ a := fun a => by
    constructor
    · rintro ⟨j, m, q⟩
      have ne : i ≠ j := fun z => h (z ▸ m)
      rw [List.getElem?_set_ne ne] at q
      exact ⟨j, m, q⟩
    · rintro ⟨j, m, q⟩
      have ne : i ≠ j := fun z => h (z ▸ m)
      exact ⟨j, m, by rw [List.getElem?_set_ne ne]; exact q⟩
  have all_eq : AllA O own (σ.set i o) = AllA O own σ := by
    funext a
    exact propext (or_congr Iff.rfl (own_eq a))
  refine ⟨by rw [List.length_set, List.length_set]; exact e.len, e.base, e.dom, fun a z => e.new a ((own_eq a).mp z), fun a z => e.live a ((own_eq a).mp z), fun j k a m m' q q' => ?_, fun j d m q => ?_, fun j d m q => ?_⟩
  · have ne : i ≠ j := fun z => h (z ▸ m)
    have ne' : i ≠ k := fun z => h (z ▸ m')
    rw [List.getElem?_set_ne ne] at q
    rw [List.getElem?_set_ne ne'] at q'
    exact e.inj j k a m m' q q'
  · rw [all_eq]
    by_cases c : i = j
    · subst c
      by_cases l : i < ρ.length
      · rw [List.getElem?_set_self l] at q; cases q
      · rw [List.getElem?_eq_none (by rw [List.length_set]; omega)] at q; cases q
    · rw [List.getElem?_set_ne c] at q ⊢
      exact e.sh j d m q
  · rw [all_eq]
    have ne : i ≠ j := fun z => h (z ▸ m)
    rw [List.getElem?_set_ne ne] at q ⊢
    exact e.ow j d m q
def gTryE (cs : List Str) (gB : Rho → Res Unit) (x : Str) (i : Nat) (gS : Str → Gx) : Gx := fun ρ => match gB ρ with
  | .ok _ => .nx ρ
  | .exc c => if c ∈ cs ∧ upB c x = true ∧ i < ρ.length then (match gS c (ρ.set i none) with
    | .nx ρ' => .nx (ρ'.set i none)
    | o => o) else .bad
  | .bad => .bad
/-- the suite's reading for an exception of an own class -/
def tsE (K : PySem.W.Frag) (cs : List Str) (ts : Str → Addr → TS) : Addr → Value → Option Addr → TS := fun a cls d D σ H => ∃ c, c ∈ cs ∧ cls = .ref (He.ga K c) ∧ d = none ∧ ts c a D σ H
theorem ds_tryE {X : Cx} {K : PySem.W.Frag} {mg : Str → Option Value} {own : List Nat} {cs : List Str} (A : ExcAll K mg cs) (i : Nat) {x n : Str} {body suite : List Stmt} {b₀ : Stmt} {np pos pos' : Pos} {tb : WX → TS} {ts : Str → Addr → TS} {gB : Rho → Res Unit} {gS : Str → Gx}
    (hN : X.N.Nodup) (hb : DB X K mg own body tb gB) (hsu : ∀ (c : Str), c ∈ cs → ∀ (a : Addr) (oe : Obj) (pn : List (Addr × Obj)), Zc (.ref (He.ga K c)) none oe → (∃ vs, oe.data = .fields vs) → DSz (X.suite a ((a, oe) :: pn)) K mg i a own own (b₀ :: suite) (ts c a) (gS c))
    (hio : i ∉ own := by decide) (hxc : x ∈ cs := by decide) (hi : X.N[i]? = some n := by rfl) (hln : X.env.kindOf n = some .local := by rfl) (hg : Gl X x := by rfl) (hdb : (x == ("__debug__" : Str)) = false := by decide) (hs : X.stack = X.env :: X.outer := by rfl) (hf : X.env.frame = some X.env.locals := by rfl) (hK : X.K = K := by rfl) (hmg : X.mg = mg := by rfl) :
    DS X K mg E0' own own (.Try body [.ExceptHandler (some (.Name x np)) (some n) (b₀ :: suite) pos'] [] [] pos) (fun D σ H => tb (wAs K (.ref (He.ga K x)) i (tsE K cs ts) (fun _ _ _ _ => False) D) D σ H) (gTryE cs gB x i gS) := by
  subst hK hmg
  refine ⟨ps_try_as (ts := tsE X.K cs ts) hs hf hN hi hln ⟨hg, hdb, .inl (A.one x hxc).g⟩ takes0 (fun W pn xe tk _ => hb.ps W pn xe tk) (fun a oe cls d pn hz hv => ⟨fun pins s σ H D I h => ?_⟩), fun O H0 ρ σ H D en w => ?_⟩
  · obtain ⟨c, hc, rfl, rfl, h⟩ := h
    exact (hsu c hc a oe pn hz hv).ps.run pins s σ H D I h
  · refine hb.ok O H0 ρ σ H D _ en ?_
    unfold gTryE at w
    cases q : gB ρ with
    | ok _ => rw [q] at w; exact fun H' e' => w σ H' e'
    | bad => rw [q] at w; exact w
    | exc c =>
      rw [q] at w
      have w' : OutW X.K X.mg E0' O H0 own D (if c ∈ cs ∧ upB c x = true ∧ i < ρ.length then (match gS c (ρ.set i none) with
        | .nx ρ' => .nx (ρ'.set i none)
        | o => o) else .bad) := w
      by_cases hc : c ∈ cs ∧ upB c x = true ∧ i < ρ.length
      · rw [if_pos hc] at w'
        obtain ⟨h1, h2, h3⟩ := hc
        refine ⟨_, (A.one c h1).g, fun H' e' => ⟨true, by rw [← h2]; exact A.exm c x h1 hxc, fun _ a ha => ⟨c, h1, rfl, rfl, ?_⟩, fun z => by cases z⟩⟩
        have un := e'.unset hio (some (.ref a))
        have hex : ∃ oe : Obj, Zc (.ref (He.ga X.K c)) none oe ∧ ∃ vs, oe.data = .fields vs := ⟨⟨.ref (He.ga X.K c), none, .fields #[], #[]⟩, ⟨rfl, rfl⟩, #[], rfl⟩
        obtain ⟨oe, z1, z2⟩ := hex
        refine (hsu c h1 a oe [] z1 z2).ok O H0 _ _ H' _ un (set_len (by rw [e'.len]; exact h3)) ?_
        cases qg : gS c (ρ.set i none) with
        | nx ρ' => rw [qg] at w'; exact fun σ2 H2 e2 => w' _ H2 (e2.unset hio none)
        | rt d => rw [qg] at w'; exact w'
        | exc c => rw [qg] at w'; exact w'
        | bad => rw [qg] at w'; exact w'
      · rw [if_neg hc] at w'
        exact w'.elim
end DL
end

section
set_option Elab.async false
set_option linter.all false
set_option maxRecDepth 100000
set_option maxHeartbeats 2000000
set_option autoImplicit false
/-! DL11: t[::-1]. -/
namespace DL
open PySem PySem.Spec PyProof.Rows L2
section
open HT
variable {prog : Program} {w : World} {A : Around} {E : Value → Shared → Prop} {s : Shared}
theorem adjust_rev (n : Nat) : Builtin.Slice.sliceAdjust none none (-1) (n : Int) = ((n : Int) - 1, -1) := rfl
theorem places_rev (n : Nat) : Builtin.Slice.slicePlaces ((n : Int) - 1) (-1) (-1) = n := by
  unfold Builtin.Slice.slicePlaces
  have h1 : ¬ (-1 : Int) > 0 := by omega
  rw [if_neg h1]
  have h2 : (-(-1) : Int) = 1 := by omega
  rw [h2, Int.ediv_one]
  by_cases h : (n : Int) - 1 > -1
  · rw [if_pos h]; omega
  · rw [if_neg h]; omega
theorem sliceApplied_rev {sl : Addr} {vl vu vs : Value} {n : Nat} {Q : Int × Int × Nat → Shared → Prop} (hs : s.heap.IsSliceOf sl vl vu vs) (pl : IsPart vl none) (pu : IsPart vu none) (ps : IsPart vs (some (-1)))
    (h : Q ((n : Int) - 1, -1, n) s) : wpAny (model prog w) A (Builtin.Slice.sliceApplied (.ref sl) (pure (n : Int))) Q E s := by
  obtain ⟨os, hos, hcs, hds⟩ := id hs
  unfold Builtin.Slice.sliceApplied Builtin.Slice.sliceFields
  refine wpAny_bind (wpAny_bind (wpAny_field hos hds (x := vl) rfl (wpAny_bind (wpAny_field hos hds (x := vu) rfl (wpAny_bind (wpAny_field hos hds (x := vs) rfl (wpAny_pure ?_)))))))
  refine wpAny_bind (slicePart_ ps ?_)
  show wpAny _ _ (if ((-1 : Int) == 0) = true then _ else _) _ _ s
  rw [if_neg (by decide)]
  refine wpAny_bind (slicePart_ pl (wpAny_bind (slicePart_ pu (wpAny_bind (wpAny_pure ?_)))))
  show wpAny _ _ (match Builtin.Slice.sliceAdjust none none (-1) (n : Int) with | (lo, hi) => pure (lo, (-1 : Int), Builtin.Slice.slicePlaces lo hi (-1))) _ _ s
  rw [adjust_rev]
  show wpAny _ _ (pure ((n : Int) - 1, (-1 : Int), Builtin.Slice.slicePlaces ((n : Int) - 1) (-1) (-1))) _ _ s
  rw [places_rev]
  exact wpAny_pure h
theorem filterMap_is {α β : Type} {f : α → Option β} {g : α → β} : ∀ {l : List α}, (∀ m, m ∈ l → f m = some (g m)) → l.filterMap f = l.map g
  | [], _ => rfl
  | x :: r, h => by
    rw [List.filterMap_cons, h x List.mem_cons_self, List.map_cons]
    exact congrArg _ (filterMap_is fun m hm => h m (List.mem_cons_of_mem _ hm))
theorem pick_rev (xs : Array Value) : ((List.range xs.size).filterMap fun (m : Nat) => xs[(((xs.size : Nat) : Int) - 1 + (m : Int) * (-1)).toNat]?).toArray = xs.toList.reverse.toArray := by
  congr 1
  rw [filterMap_is (g := fun m => xs.getD (xs.size - 1 - m) .none)]
  · apply List.ext_getElem?
    intro i
    rw [List.getElem?_map]
    by_cases h : i < xs.size
    · rw [List.getElem?_range h, List.getElem?_reverse (by rw [Array.length_toList]; exact h), Array.length_toList]
      rw [Array.getElem?_toList, Array.getElem?_eq_getElem (by omega)]
      show some (xs.getD (xs.size - 1 - i) .none) = _
      rw [Array.getD_eq_getD_getElem?, Array.getElem?_eq_getElem (by omega)]
      rfl
    · rw [List.getElem?_eq_none (by rw [List.length_range]; omega), List.getElem?_eq_none (by rw [List.length_reverse, Array.length_toList]; omega)]
      rfl
  · intro m hm
    have hm := List.mem_range.mp hm
    have : (((xs.size : Nat) : Int) - 1 + (m : Int) * (-1)).toNat = xs.size - 1 - m := by omega
    rw [this, Array.getElem?_eq_getElem (by omega), Array.getD_eq_getD_getElem?, Array.getElem?_eq_getElem (by omega)]
    rfl
theorem getItem_tuple_rev {t sl : Addr} {items : Array Value} {vl vu vs : Value} {Q : Value → Shared → Prop} (ht : IsTup s.heap t items) (hs : s.heap.IsSliceOf sl vl vu vs) (pl : IsPart vl none) (pu : IsPart vu none) (ps : IsPart vs (some (-1)))
    (h : Q (.ref s.heap.objs.size) { s with heap := s.heap.push { cls := .type "tuple", data := .seq items.toList.reverse.toArray } })
    (hsz : items.size ≤ sizeLine) : wpAny (model prog w) A (getItem (.ref t) (.ref sl)) Q E s := by
  have htake : sizeOk (.seq items.toList.reverse.toArray) := by
    show items.toList.reverse.toArray.size ≤ sizeLine
    rw [List.size_toArray, List.length_reverse, Array.length_toList]
    exact hsz
  obtain ⟨os, hos, hcs, hds⟩ := id hs
  have hTs : s.TypeIs (.ref sl) "slice" := ⟨os, hos, hcs⟩
  unfold getItem
  try with_reducible refine wpAny_holding ?_
  first | refine wpAny_bind (wpAny_pure ?_) | skip
  refine wpAny_bind (wpAny_sequenceKey ht.typeIs (by decide) ?_)
  refine wpAny_bind (wpAny_callSpecial?_slot (name := Str.ofString "__getitem__") ht.typeIs PyProof.Rows.slot_tuple_getitem
    (wpAny_call_entry PyProof.Rows.slot_tuple_getitem ht.typeIs entry_tuple_getitem ?_ (args_tuple_getitem _ _)))
  show wpAny _ _ (Builtin.Tuple.tupleItemsOf (.ref t) >>= _) _ _ s
  refine wpAny_bind (tupleItemsOf_ ht ?_)
  refine wpAny_bind (wpAny_typeOf hTs ?_)
  rw [if_pos (by decide)]
  refine wpAny_bind (sliceApplied_rev hs pl pu ps ?_)
  have hno : ¬ ((((items.size : Nat) : Int) - 1 == 0 && (-1 : Int) == 1 && items.size == items.size) = true) := by
    intro q
    rw [Bool.and_eq_true, Bool.and_eq_true] at q
    have q1 : (-1 : Int) = 1 := eq_of_beq q.1.2
    omega
  show wpAny _ _ (if (((items.size : Nat) : Int) - 1 == 0 && (-1 : Int) == 1 && items.size == items.size) = true then _ else _) _ _ s
  rw [if_neg hno, pick_rev]
  first
    | exact wpAny_bind (m := Builtin.Tuple.tupleExact _) (wpAny_newObj_type (wpAny_pure ⟨_, rfl, wpAny_pure h⟩) htake)
    | exact wpAny_bind (m := Builtin.Tuple.tupleExact _) (wpAny_newObj_type (wpAny_bind (wpAny_pure (wpAny_pure ⟨_, rfl, wpAny_pure h⟩))) htake)
    | exact wpAny_bind (wpAny_bind (m := Builtin.Tuple.tupleExact _) (wpAny_newObj_type (wpAny_pure (wpAny_pure ⟨_, rfl, wpAny_pure h⟩)) htake))
    | exact wpAny_bind (wpAny_bind (m := Builtin.Tuple.tupleExact _) (wpAny_newObj_type (wpAny_pure ⟨_, rfl, wpAny_pure h⟩) htake))
end
section
variable {X : Cx}
def tRevT (K : PySem.W.Frag) (te : TE) : TE := fun σ H Q => te σ H fun x H1 => ∃ a xs, x = .ref a ∧ SqT K H1 a xs ∧ ∀ p, H1 p = none → Q (.ref p) (upd H1 p (.tup xs.reverse))
theorem pe_revT {e : Expr} {te : TE} {k : Nat} {p1 p2 p3 pos : Pos} (he : PE X e te) : PE X (.Subscript e (.Slice none none (some (.UnaryOp .USub (.Constant (.int 1) k p1) p2)) p3) pos) (tRevT X.K te) := by
  refine ⟨fun pins s σ H Q I h => ?_⟩
  refine Subscript_ (thn (he.run pins s σ H _ I h) fun v s1 ⟨x, H1, I1, r1, q1⟩ => ?_)
  obtain ⟨a, xs, ex, hx, q⟩ := q1
  subst ex
  cases r1
  have hst : PO X (some (.UnaryOp .USub (.Constant (.int 1) k p1) p2)) (tPart (tUn (rU fun i => .int (-i)) (tC (.int 1)))) := po_some (pe_un un_neg pe_int)
  refine wpAny_Slice (thn (po_none.run pins s1 σ H1 (fun o H2 => o = none ∧ H2 = H1) I1 ⟨rfl, rfl⟩) fun vl s2 ⟨l, H2, I2, pl, el, e2⟩ => ?_)
  subst el e2
  refine thn (po_none.run pins s2 σ H2 (fun o H3 => o = none ∧ H3 = H2) I2 ⟨rfl, rfl⟩) fun vu s3 ⟨u, H3, I3, pu, eu, e3⟩ => ?_
  subst eu e3
  refine thn (hst.run pins s3 σ H3 (fun o H4 => o = some (-1) ∧ H4 = H3) I3 ⟨1, rfl, -1, rfl, rfl, rfl⟩) fun vs s4 ⟨o, H4, I4, ps, eo, e4⟩ => ?_
  subst eo e4
  have I5 : Inv X pins σ H4 { s4 with heap := s4.heap.push { cls := .type "slice", data := .fields #[vl, vu, vs] } } := I4.kept (t' := s4.toks) fun b ob q => Heap.get?_push_of_some _ q
  obtain ⟨its, r, ht, hz⟩ := I5.tuple hx
  have hlen := r.length
  show wpAny (model X.prog X.w) X.A (subscriptTail e (.Slice none none (some (.UnaryOp .USub (.Constant (.int 1) k p1) p2)) p3) (.ref a) (.ref s4.heap.objs.size)) (EP X pins σ Q) X.xe { s4 with heap := s4.heap.push { cls := .type "slice", data := .fields #[vl, vu, vs] } }
  refine tail_any (ops := [.ref a, .ref s4.heap.objs.size]) ht.typeIs (PyProof.Rows.slot_tuple_getitem.lookup) ?_ (by with_unfolding_all rfl)
  refine getItem_tuple_rev ht (Heap.IsSliceOf.new _ vl vu vs) pl pu ps ?_ (by rw [List.size_toArray]; omega)
  refine ⟨.ref _, _, I5.laid (t' := s4.toks) (o := .tup xs.reverse) (fun b ob q => Heap.get?_push_of_some _ q) (Nat.le_refl _) ?_, rfl, q _ (I5.hok.fresh (Nat.le_refl _))⟩
  refine ⟨by rw [List.length_reverse]; exact hz, _, r.reverse, ?_⟩
  exact IsTup.new _ _
end
section
variable {X : Cx} {K : PySem.W.Frag} {mg : Str → Option Value} {E : XK} {own : List Nat}
def dRev : D → Option D
  | .tuple ds => some (.tuple ds.reverse)
  | _ => none
theorem de_rev {a : Expr} {ta : TE} {fa : Ex} {k : Nat} {p1 p2 p3 pos : Pos} (ha : DC X K mg E own a ta fa) (hK : X.K = K := by rfl) : DE X K mg E own (.Subscript a (.Slice none none (some (.UnaryOp .USub (.Constant (.int 1) k p1) p2)) p3) pos) (tRevT K ta) (un fa dRev) := by
  subst hK
  exact ⟨pe_revT ha.pe, fun O H0 ρ σ H Q e w => by
    unfold un at w
    rw [resW_bind] at w
    refine ha.ok O H0 ρ σ H _ e (w.mono (Same.refl H) fun d wd v1 H1 s1 r1 => ?_)
    replace wd := okW_of wd
    unfold dRev at wd
    split at wd
    · obtain ⟨l, xs, rfl, q, r⟩ := r1.tuple_of cut_sub
      exact ⟨l, xs, rfl, q, fun p np => wd _ _ (s1.trans (same_new np)) (.tup (.inl (.inl (cut_new ((e.domA.same s1).new np)))) (r.reverse.mono (cut_same (same_new np))))⟩
    · exact wd.elim⟩
end
end DL
end

section
set_option Elab.async false
set_option linter.all false
set_option maxRecDepth 100000
set_option maxHeartbeats 2000000
set_option autoImplicit false
/-! DL12: sorted of data that are alike; < of such. -/
namespace DL
open PySem PySem.Spec PyProof.Rows L2

/-! ### sorted -/
def sortKind (d : D) : Bool := match d with
  | .none => false
  | .tuple _ => false
  | _ => true
def tupKind (d : D) : Bool := match d with
  | .tuple (_ :: _) => true
  | _ => false
def sortOk (ds : List D) : Bool := (ds.all fun d => ds.all fun d' => PySem.W.alike d d') && ((ds.all tupKind || ds.all sortKind) && SeqAt.shaped (.list ds))
def sortD (ds : List D) : List D := ds.mergeSort (PySem.W.dataLe false fun d => d)
def dSortedA : D → Option D
  | .list ds => if sortOk ds = true ∧ ds.length ≤ 1000000 then some (.list (sortD ds)) else none
  | _ => none
theorem sortOk_alike {ds : List D} (h : sortOk ds = true) : PySem.W.AllAlike ds := fun d hd d' hd' => by
  unfold sortOk at h
  rw [Bool.and_eq_true] at h
  exact List.all_eq_true.mp (List.all_eq_true.mp h.1 d hd) d' hd'
theorem sortOk_kind {ds : List D} (h : sortOk ds = true) : PySem.W.Sortable ds := by
  unfold sortOk at h
  rw [Bool.and_eq_true, Bool.and_eq_true, Bool.or_eq_true] at h
  rcases h.2.1 with h | h
  · refine .inl fun d hd => ?_
    have := List.all_eq_true.mp h d hd
    cases d <;> first | (cases this; done) | skip
    rename_i xs
    cases xs with
    | nil => cases this
    | cons x r => exact ⟨x, r, rfl⟩
  · refine .inr fun d hd => ?_
    have := List.all_eq_true.mp h d hd
    constructor
    · rintro rfl; cases this
    · rintro xs rfl; cases this
theorem sortOk_shaped {ds : List D} (h : sortOk ds = true) : SeqAt.shaped (.list ds) = true := by
  unfold sortOk at h
  rw [Bool.and_eq_true, Bool.and_eq_true] at h
  exact h.2.2
theorem depth_mem : ∀ {ds : List D} {d : D}, d ∈ ds → d.depth ≤ PyData.depthAll ds
  | x :: r, d, h => by
    simp only [PyData.depthAll]
    rcases List.mem_cons.mp h with rfl | h
    · omega
    · have := depth_mem h
      omega
theorem shaped_depth {d : D} (h : SeqAt.shaped d = true) : d.depth ≤ 64 := by
  have h : (d.canLay0 && decide (d.depth ≤ 64)) = true := h
  rw [Bool.and_eq_true] at h
  exact of_decide_eq_true h.2
theorem shaped_list_depth {ds : List D} (h : SeqAt.shaped (.list ds) = true) {d : D} (hd : d ∈ ds) : d.depth ≤ 64 := by
  have h1 := shaped_depth h
  simp only [PyData.depth] at h1
  have := depth_mem hd
  omega
/-- what stands for what, item by item, sorted by the data -/
def sortP (xs : List V) (ds : List D) : List (V × D) := (List.zip xs ds).mergeSort (PySem.W.dataLe false Prod.snd)
def rSortedA (K : PySem.W.Frag) : List V → Hp → VK → Prop := fun vs H Q => ∃ (a : Addr) (xs : List V) (ds : List D), vs = [V.ref a] ∧ SqL K H a xs ∧ DpAll K H xs ds ∧ sortOk ds = true ∧ ds.length ≤ 1000000 ∧
  ∀ p, H p = none → Q (.ref p) (upd H p (.lst ((sortP xs ds).map Prod.fst)))
theorem dpAll_len {K : PySem.W.Frag} {H : Hp} : ∀ {xs : List V} {ds : List D}, DpAll K H xs ds → xs.length = ds.length
  | _, _, .nil => rfl
  | _, _, .cons _ r => by rw [List.length_cons, List.length_cons, dpAll_len r]
theorem each_zip : ∀ {us : List Value} {xs : List V} {ds : List D}, Vals xs us → xs.length = ds.length → PySem.W.EachIs (fun (u : Value) (b : V × D) => RelV b.1 u) us (List.zip xs ds)
  | _, _, [], .nil, _ => .nil
  | _, _, d :: ds, .cons r t, h => by
    rw [List.zip_cons_cons]
    exact .cons r (each_zip t (by simpa using h))
theorem each_vals : ∀ {us : List Value} {bs : List (V × D)}, PySem.W.EachIs (fun (u : Value) (b : V × D) => RelV b.1 u) us bs → Vals (bs.map Prod.fst) us
  | _, _, .nil => .nil
  | _, _, .cons r t => .cons r (each_vals t)
theorem map_snd_zip' : ∀ {xs : List V} {ds : List D}, xs.length = ds.length → (List.zip xs ds).map Prod.snd = ds
  | [], [], _ => rfl
  | x :: xs, d :: ds, h => by
    rw [List.zip_cons_cons, List.map_cons, map_snd_zip' (by simpa using h)]
theorem cr_sortedA {X : Cx} (hu : X.A.units + 70 < cLine) : CallR X (.builtin "sorted") (rSortedA X.K) := by
  intro pins s σ H vs us Q I r h
  obtain ⟨a, xs, ds, rfl, hs, dp, ok, hL, q⟩ := h
  obtain ⟨its, rv, hl, hz⟩ := I.list hs
  rw [Vals.ref1 r]
  have hlen := dpAll_len dp
  have hm : (List.zip xs ds).map Prod.snd = ds := map_snd_zip' hlen
  have hzl : (List.zip xs ds).length = ds.length := by rw [List.length_zip, hlen]; omega
  obtain ⟨as, hr⟩ := Dp.readsAll I ds xs its dp rv
  have er : PySem.W.EachIs (fun v (b : V × D) => ∃ as, PySem.Reads s.heap v b.2 as) its (List.zip xs ds) := PySem.W.readsAll_each Prod.snd (by rw [hm]; exact hr)
  refine PySem.W.sorted_data (bs := List.zip xs ds) (enc := Prod.snd) (R := fun (u : Value) (b : V × D) => RelV b.1 u) hl.isList (each_zip rv hlen) er (by rw [hm]; exact sortOk_alike ok) (by rw [hm]; exact sortOk_kind ok) (by rw [hzl, sizeLine_eq]; omega) (fun b hb => ?_) fun out ho he => ?_
  · have hd : b.2 ∈ ds := by rw [← hm]; exact List.mem_map.mpr ⟨b, hb, rfl⟩
    have := shaped_list_depth (sortOk_shaped ok) hd
    omega
  · obtain ⟨ep, he'⟩ := PyProof.Rows.sortedAll_at s.heap its out.toArray
    have hl2 : ((sortP xs ds).map Prod.fst).length ≤ sizeLine := by
      unfold sortP
      rw [List.length_map, List.length_mergeSort, hzl, sizeLine_eq]
      omega
    exact ⟨.ref _, upd H (s.heap.objs.size + 1) (.lst ((sortP xs ds).map Prod.fst)), I.laid (t' := s.toks) (fun _ _ => PyProof.Rows.sortedAll_old) (Nat.le_succ _) ⟨hl2, out, ep, each_vals he, he'⟩, rfl, q _ (I.hok.fresh (Nat.le_succ _))⟩
theorem RAll.ofZip {K : PySem.W.Frag} {H : Hp} : ∀ {bs : List (V × D)}, (∀ b, b ∈ bs → R K H b.1 b.2) → RAll K H (bs.map Prod.fst) (bs.map Prod.snd)
  | [], _ => .nil
  | b :: bs, h => .cons (h b List.mem_cons_self) (RAll.ofZip fun x m => h x (List.mem_cons_of_mem _ m))
theorem RAll.zipMem {K : PySem.W.Frag} {H : Hp} : ∀ {xs : List V} {ds : List D}, RAll K H xs ds → ∀ b, b ∈ List.zip xs ds → R K H b.1 b.2
  | _, _, .nil, b, h => by cases h
  | _, _, .cons r t, b, h => by
    rw [List.zip_cons_cons] at h
    rcases List.mem_cons.mp h with rfl | h
    · exact r
    · exact RAll.zipMem t b h
theorem sortP_snd {xs : List V} {ds : List D} (h : xs.length = ds.length) : (sortP xs ds).map Prod.snd = sortD ds := by
  unfold sortP sortD
  rw [List.map_mergeSort (r := PySem.W.dataLe false Prod.snd) (s := PySem.W.dataLe false fun d => d) (f := Prod.snd) (fun a _ b _ => rfl), map_snd_zip' h]
theorem RAll.sortP {K : PySem.W.Frag} {H : Hp} {xs : List V} {ds : List D} (r : RAll K H xs ds) : RAll K H ((DL.sortP xs ds).map Prod.fst) (sortD ds) := by
  rw [← sortP_snd r.length]
  exact RAll.ofZip fun b hb => r.zipMem b ((List.mergeSort_perm _ _).mem_iff.mp hb)
theorem cc_sortedA {K : PySem.W.Frag} : CallC K (rSortedA K) dSortedA := by
  intro A H x a Q dom ra w
  unfold dSortedA at w
  split at w
  · obtain ⟨⟨c1, c2⟩, w⟩ := okW_if w
    obtain ⟨l, xs, rfl, q, r⟩ := ra.list_of cut_sub
    rename_i ds _
    have hc : PyData.canLayAll0 ds = true := by
      have := SeqAt.canLay_of_shaped (sortOk_shaped c1)
      simpa [PyData.canLay0] using this
    refine ⟨l, xs, _, rfl, .of q, (r.mono cut_sub).dp hc, c1, c2, fun p np => ?_⟩
    exact w _ _ (same_new np) (.lst (cut_new (dom.new np)) (r.sortP.mono (cut_same (same_new np))))
  · exact w.elim
section
variable {X : Cx} {K : PySem.W.Frag} {mg : Str → Option Value} {E : XK} {own : List Nat} {a b : Expr} {ta tb : TE} {fa fb : Ex} {p pos : Pos}
theorem hu70 {A : Around} {k : Nat} (hr : Room k A) : A.units + 70 < cLine := by have := hr.un; omega
theorem de_sortedA {k : Nat} (hr : Room k X.A) (hm : X.mg "sorted" = none) (ha : DC X K mg E own a ta fa) (hg : Gl X "sorted" := by rfl) (he : starEach (a :: []) X.env = (false, eval a X.env) :: starEach [] X.env := by rfl) (hpl : (backTo pos (starEach [] X.env)).any (·.1) = false := by rfl) (hK : X.K = K := by rfl) :
    DE X K mg E own (.Call (.Name "sorted" p) [a] [] pos) (tCB (rSortedA K) (tCons ta tNil)) (un fa dSortedA) := by
  subst hK
  exact de_callB1 (cr_sortedA (hu70 hr)) cc_sortedA hg hm bt_sorted ha (by decide) (by decide) he hpl

/-! ### < of data that are alike -/
def dLtA : D → D → Option D
  | .int i, .int j => some (.bool (decide (i < j)))
  | .list xs, .list ys => if PySem.W.alike (.list xs) (.list ys) = true ∧ SeqAt.shaped (.list xs) = true ∧ SeqAt.shaped (.list ys) = true then some (.bool (PySem.W.dataLt (.list xs) (.list ys))) else none
  | _, _ => none
def rLtA (K : PySem.W.Frag) : R2 := fun x y H Q => (rI0 fun i j => V.bl (decide (i < j))) x y H Q ∨ ∃ da db, Dp K H x da ∧ Dp K H y db ∧ PySem.W.alike da db = true ∧ da ≠ .none ∧ SeqAt.shaped da = true ∧ Q (.bl (PySem.W.dataLt da db)) H
theorem op_ltA (hu : X.A.units + 70 < cLine) : OpR X (compareOp .Lt) (rLtA X.K) := op_lt.or (by
  intro pins s σ H x y v u Q I rx ry h
  obtain ⟨da, db, ha, hb, al, nn, sh, q⟩ := h
  obtain ⟨as, r1⟩ := Dp.reads I da x v ha rx
  obtain ⟨bs, r2⟩ := Dp.reads I db y u hb ry
  exact PySem.W.rcLt_alike da db X.A s v u as bs r1 r2 al nn (by have := shaped_depth sh; omega) X.prog X.w _ _ ⟨.bl _, H, I, rfl, q⟩)
theorem od_ltA : OpD K (rLtA K) dLtA := by
  intro A H x y a b Q dom ra rb w
  unfold dLtA at w
  split at w
  · rw [ra.int_of, rb.int_of]
    exact .inl ⟨_, _, rfl, rfl, w _ H (Same.refl H) (.bl _)⟩
  · obtain ⟨⟨c1, c2, c3⟩, w⟩ := okW_if w
    exact .inr ⟨_, _, Dp_mono cut_sub ra c2, Dp_mono cut_sub rb c3, c1, (fun z => by cases z), c2, w _ H (Same.refl H) (.bl _)⟩
  · exact w.elim
theorem de_ltA {k : Nat} (hr : Room k X.A) (ha : DE X K mg E own a ta fa) (hb : DE X K mg E own b tb fb) (hK : X.K = K := by rfl) : DE X K mg E own (.Compare a [.Lt] [b] pos) (tOp (rLtA K) ta tb) (bin fa fb dLtA) := by
  subst hK
  exact de_cmp (op_ltA (hu70 hr)) od_ltA ha hb (nomark _)
theorem dt_ltA {k : Nat} (hr : Room k X.A) (ha : DE X K mg E own a ta fa) (hb : DE X K mg E own b tb fb) (hK : X.K = K := by rfl) : DT X K mg E own (.Compare a [.Lt] [b] pos) (tTest (tOp (rLtA K) ta tb)) (asB (bin fa fb dLtA)) := by
  subst hK
  exact dt_cmp (op_ltA (hu70 hr)) od_ltA ha hb (nomark _)
end
end DL
end

section
set_option Elab.async false
set_option linter.all false
set_option maxRecDepth 100000
set_option maxHeartbeats 2000000
set_option autoImplicit false
/-! DL13: the keys of a dict walked by for (the dict is locked while it is walked). -/
namespace DL
open PySem PySem.Spec PyProof.Rows L2

/-- the same, but that dicts may be locked or unlocked -/
def LU (C C' : Hp) : Prop := ∀ a o, C a = some o → C' a = some o ∨ ∃ o' kvs, (o = .frz o' (.dK kvs) ∧ C' a = some (.dK kvs)) ∨ (o = .dK kvs ∧ C' a = some (.frz o' (.dK kvs)))
section
variable {K : PySem.W.Frag} {C C' : Hp}
theorem LU.lst (s : LU C C') {a : Addr} {xs : List V} (h : C a = some (.lst xs)) : C' a = some (.lst xs) := by
  rcases s _ _ h with q | ⟨o, kvs, ⟨e, _⟩ | ⟨e, _⟩⟩
  · exact q
  · cases e
  · cases e
theorem LU.rdL (s : LU C C') {a : Addr} {xs : List V} (h : Rd C a (.lst xs)) : Rd C' a (.lst xs) := by
  rcases h with h | ⟨o, h⟩
  · exact .inl (s.lst h)
  · rcases s _ _ h with q | ⟨o', kvs, ⟨e, _⟩ | ⟨e, _⟩⟩
    · exact .inr ⟨o, q⟩
    · cases e
    · cases e
theorem LU.rdT (s : LU C C') {a : Addr} {xs : List V} (h : Rd C a (.tup xs)) : Rd C' a (.tup xs) := by
  rcases h with h | ⟨o, h⟩
  · rcases s _ _ h with q | ⟨o', kvs, ⟨e, _⟩ | ⟨e, _⟩⟩
    · exact .inl q
    · cases e
    · cases e
  · rcases s _ _ h with q | ⟨o', kvs, ⟨e, _⟩ | ⟨e, _⟩⟩
    · exact .inr ⟨o, q⟩
    · cases e
    · cases e
mutual
theorem R.lu (s : LU C C') : ∀ {v : V} {d : D}, R K C v d → R K C' v d
  | _, _, .non => .non
  | _, _, .bl b => .bl b
  | _, _, .int i => .int i
  | _, _, .str x => .str x
  | _, _, .lst h r => .lst (s.lst h) (RAll.lu s r)
  | _, _, .scr h => .scr (h.imp s.rdL id)
  | _, _, .tup h r => .tup (h.imp s.rdT id) (RAll.lu s r)
  | _, _, .dic h r => by
    rcases s _ _ h with q | ⟨o, kvs, ⟨e, _⟩ | ⟨e, q⟩⟩
    · exact .dic q (RKV.lu s r)
    · cases e
    · cases e; exact .fdic q (RKV.lu s r)
  | _, _, .fdic h r => by
    rcases s _ _ h with q | ⟨o, kvs, ⟨e, q⟩ | ⟨e, _⟩⟩
    · exact .fdic q (RKV.lu s r)
    · cases e; exact .dic q (RKV.lu s r)
    · cases e
theorem RAll.lu (s : LU C C') : ∀ {vs : List V} {ds : List D}, RAll K C vs ds → RAll K C' vs ds
  | _, _, .nil => .nil
  | _, _, .cons h r => .cons (R.lu s h) (RAll.lu s r)
theorem RKV.lu (s : LU C C') : ∀ {vs : List (Key × V)} {ds : List (D × D)}, RKV K C vs ds → RKV K C' vs ds
  | _, _, .nil => .nil
  | _, _, .cons h r => .cons (R.lu s h) (RKV.lu s r)
end
theorem lu_lock {A : Addr → Prop} {H : Hp} {d : Addr} {o : Obj} {kvs : List (Key × V)} (h : H d = some (.dK kvs)) : LU (Cut A H) (Cut A (upd H d (.frz o (.dK kvs)))) := fun a x q => by
  obtain ⟨c, q⟩ := cut_some q
  rw [cut_out c]
  by_cases e : a = d
  · subst e
    rw [h] at q
    cases q
    exact .inr ⟨o, kvs, .inr ⟨rfl, by rw [upd_same]⟩⟩
  · exact .inl (by rw [upd_ne e]; exact q)
theorem lu_unlock {A : Addr → Prop} {H : Hp} {d : Addr} {o : Obj} {kvs : List (Key × V)} (h : H d = some (.frz o (.dK kvs))) : LU (Cut A H) (Cut A (upd H d (.dK kvs))) := fun a x q => by
  obtain ⟨c, q⟩ := cut_some q
  rw [cut_out c]
  by_cases e : a = d
  · subst e
    rw [h] at q
    cases q
    exact .inr ⟨o, kvs, .inl ⟨rfl, by rw [upd_same]⟩⟩
  · exact .inl (by rw [upd_ne e]; exact q)
theorem OwnR.lu {H H' : Hp} {a : Addr} {x : D} (s : LU C C') (h : H' a = H a) (r : OwnR K C H a x) : OwnR K C' H' a x := by
  cases r with
  | lst q z => exact .lst (by rw [h]; exact q) (z.lu s)
  | dic q z => exact .dic (by rw [h]; exact q) (z.lu s)
variable {O : Addr → Prop} {H0 H : Hp} {own : List Nat} {ρ : Rho} {σ : L2.St}
theorem EnvOk.lockD (e : EnvOk K O H0 own ρ σ H) {d : Addr} {o : Obj} {kvs : List (Key × V)} (h : H d = some (.dK kvs)) (n : ¬ AllA O own σ d) :
    EnvOk K O (upd H0 d (.frz o (.dK kvs))) own ρ σ (upd H d (.frz o (.dK kvs))) where
  len := e.len
  base := fun b x q => by
    by_cases z : b = d
    · subst z; rw [upd_same] at q ⊢; exact q
    · rw [upd_ne z] at q ⊢; exact e.base b x q
  dom := fun b hb => by
    by_cases z : b = d
    · subst z; rw [upd_same]; intro w; cases w
    · rw [upd_ne z]; exact e.dom b hb
  new := fun b hb => by
    rw [upd_ne (show b ≠ d from fun z => n (.inr (z ▸ hb)))]
    exact e.new b hb
  live := fun b hb => by
    rw [upd_ne (show b ≠ d from fun z => n (.inr (z ▸ hb)))]
    exact e.live b hb
  inj := e.inj
  sh := fun i x hi q => let ⟨v, a, b⟩ := e.sh i x hi q; ⟨v, a, b.lu (lu_lock h)⟩
  ow := fun i x hi q => by
    obtain ⟨a, b, r⟩ := e.ow i x hi q
    exact ⟨a, b, r.lu (lu_lock h) (upd_ne fun z => n (.inr ⟨i, hi, z ▸ b⟩))⟩
theorem EnvOk.unlockD {d : Addr} {o : Obj} {kvs : List (Key × V)} (e : EnvOk K O (upd H0 d (.frz o (.dK kvs))) own ρ σ H) (dm : Dom O H0) (h0 : ∀ x, H0 d = some x → x = .dK kvs) :
    H d = some (.frz o (.dK kvs)) ∧ EnvOk K O H0 own ρ σ (upd H d (.dK kvs)) := by
  have hd : H d = some (.frz o (.dK kvs)) := e.base d _ (by rw [upd_same])
  have nd : ∀ a, OwnA own σ a → a ≠ d := fun a ha z => by have := e.new a ha; rw [z, upd_same] at this; cases this
  refine ⟨hd, e.len, fun b x q => ?_, dm, fun b hb => ?_, fun b hb => ?_, e.inj, fun i x hi q => ?_, fun i x hi q => ?_⟩
  · by_cases z : b = d
    · subst z; rw [upd_same, h0 x q]
    · rw [upd_ne z]; exact e.base b x (by rw [upd_ne z]; exact q)
  · have := e.new b hb; rw [upd_ne (nd b hb)] at this; exact this
  · rw [upd_ne (nd b hb)]; exact e.live b hb
  · obtain ⟨v, a, b⟩ := e.sh i x hi q
    exact ⟨v, a, b.lu (lu_unlock hd)⟩
  · obtain ⟨a, b, r⟩ := e.ow i x hi q
    exact ⟨a, b, r.lu (lu_unlock hd) (upd_ne (nd a ⟨i, hi, b⟩))⟩
end

/-- the keys of the dict that a name holds -/
def itK (i : Nat) : Ax := fun ρ => match ρ[i]? with
  | some (some (.dict ds)) => if isDic ds = true then .ok (ds.map (·.1)) else .bad
  | _ => .bad
/-- nothing may be raised -/
def gCalm (g : Gx) : Gx := fun ρ => match g ρ with
  | .exc _ => .bad
  | o => o
theorem itOk_keys {K : PySem.W.Frag} {Hb : Hp} {d : Addr} {o : Obj} {kvs : List (Key × V)} {ds : List (D × D)} (q : Hb d = some (.frz o (.dK kvs))) (r : RKV K Hb kvs ds) : ItOk K Hb (Itk d o kvs) (ds.map (·.1)) := by
  have keys : ∀ {kvs : List (Key × V)} {ds : List (D × D)}, RKV K Hb kvs ds → kvs.length = ds.length ∧ ∀ (i : Nat) (k : Key) (v : V), kvs[i]? = some (k, v) → (ds.map (·.1))[i]? = some (keyD k) := by
    intro kvs
    induction kvs with
    | nil => intro ds r; cases r; exact ⟨rfl, fun i k v h => by simp at h⟩
    | cons p t ih =>
      intro ds r
      cases r with
      | cons a b =>
        obtain ⟨e1, e2⟩ := ih b
        refine ⟨by simp [e1], fun i k v h => ?_⟩
        cases i with
        | zero => simp at h ⊢; rw [h.1]
        | succ i => simpa using e2 i k v (by simpa using h)
  obtain ⟨hl, hk⟩ := keys r
  refine ⟨fun i H hi s => ⟨s _ _ q, by rw [List.length_map] at hi; omega⟩, fun H s => ⟨s _ _ q, by rw [List.length_map]; omega⟩, fun i x y H H' hd s yl => ?_⟩
  obtain ⟨e, k, v, e1, rfl⟩ := yl
  subst e
  rw [hk i k v e1] at hd
  cases hd
  refine ⟨Same.refl _, fun A _ _ => ?_⟩
  cases k with
  | inl j => exact .int j
  | inr x => exact .str x
section
variable {X : Cx} {K : PySem.W.Frag} {mg : Str → Option Value} {E : XK} {own : List Nat} {g : Gx} {pos npos : Pos} {x : Str}
/-- .. the dict at hand is locked already -/
def wiK (i : Nat) : TI := fun σ H W => ∀ d o kvs, σ[i]? = some (some (.ref d)) → H d = some (.frz o (.dK kvs)) → W (Itk d o kvs) H
theorem itK_ok {ρ : Rho} {i : Nat} {H : Hp} {P : List D → Prop} (h : ResW mg E H P (itK i ρ)) : ∃ ds, ρ[i]? = some (some (.dict ds)) ∧ isDic ds = true ∧ P (ds.map (·.1)) := by
  unfold itK at h
  split at h
  · rename_i ds q
    split at h
    · rename_i c
      exact ⟨ds, q, c, h⟩
    · exact h.elim
  · exact h.elim
theorem tiK {i : Nat} (hi : i ∉ own) : TIok K mg E own (wiK i) (itK i) := fun O H0 ρ σ H W en w => by
  obtain ⟨ds, q, c, w⟩ := itK_ok w
  intro d o kvs hs hd
  obtain ⟨v, e1, r⟩ := en.sh i _ hi q
  rw [hs] at e1
  cases e1
  refine w _ H (Same.refl H) ?_
  generalize hx : (PyData.dict ds) = y at r
  cases r with
  | dic a b => have := cut_sub _ _ a; rw [hd] at this; cases this
  | fdic a b =>
    cases hx
    have z := cut_sub _ _ a
    rw [hd] at z
    cases z
    exact itOk_keys a b
  | scr _ => cases hx; simp [isDic] at c
  | lst => cases hx
  | tup => cases hx
def gForK (tg : Tgt) (i : Nat) (g : Gx) : Gx := gCalm (gFor tg (itK i) g)
theorem ts_forK {i : Nat} {gt : TG} {tg : Tgt} {tb : TS} (hi : i ∉ own) (hg : TGok K own gt tg) (hb : TSok K mg E own own tb g) :
    TSok K mg E own own (fun D σ H => tLock (tFor (iKeys (tVar i)) gt tb) D σ H ∨ tFor (iKeys (tVar i)) gt tb D σ H) (gForK tg i g) := fun O H0 ρ σ H D en w => by
  unfold gForK gCalm at w
  -- what is walked
  have hx : ∃ ds, ρ[i]? = some (some (.dict ds)) ∧ isDic ds = true := by
    unfold gFor at w
    cases q : itK i ρ with
    | ok items =>
      have : ResW mg E H (fun _ => True) (itK i ρ) := by rw [q]; trivial
      obtain ⟨ds, a, b, _⟩ := itK_ok this
      exact ⟨ds, a, b⟩
    | exc c => rw [q] at w; exact w.elim
    | bad => rw [q] at w; exact w.elim
  obtain ⟨ds, q, c⟩ := hx
  obtain ⟨v, e1, r⟩ := en.sh i _ hi q
  -- the loop over a locked one
  have core : ∀ (H0' H1 : Hp) (D' : Ends) (d : Addr) (o : Obj) (kvs : List (Key × V)), σ[i]? = some (some (.ref d)) → H1 d = some (.frz o (.dK kvs)) → EnvOk K O H0' own ρ σ H1 → OutW K mg E O H0' own D' (gFor tg (itK i) g ρ) → tFor (iKeys (tVar i)) gt tb D' σ H1 := by
    intro H0' H1 D' d o kvs hs hd en' w'
    have h := ts_for (tiK hi) hg hb O H0' ρ σ H1 D' en' w'
    exact ⟨_, hs, d, o, rfl, .inl ⟨kvs, hd, h d o kvs hs hd⟩⟩
  generalize hx : (PyData.dict ds) = y at r
  cases r with
  | scr _ => cases hx; simp [isDic] at c
  | lst => cases hx
  | tup => cases hx
  | non => cases hx
  | bl => cases hx
  | int => cases hx
  | str => cases hx
  | fdic a b =>
    refine .inr (core H0 H D _ _ _ e1 (cut_sub _ _ a) en ?_)
    cases z : gFor tg (itK i) g ρ with
    | exc _ => rw [z] at w; exact w.elim
    | nx _ => rw [z] at w; exact w
    | rt _ => rw [z] at w; exact w
    | bad => rw [z] at w; exact w
  | dic a b =>
    rename_i d kvs _
    obtain ⟨nA, hd⟩ := cut_some a
    have h0 : ∀ x, H0 d = some x → x = .dK kvs := fun x hx => by have := en.base d x hx; rw [hd] at this; cases this; rfl
    refine .inl ⟨d, .dK kvs, hd, trivial, fun od => core (upd H0 d (.frz od (.dK kvs))) _ _ d od kvs e1 (by rw [upd_same]) (en.lockD hd nA) ?_⟩
    cases z : gFor tg (itK i) g ρ with
    | exc _ => rw [z] at w; exact w.elim
    | bad => rw [z] at w; exact w
    | nx ρ' =>
      rw [z] at w
      intro σ' H' e'
      obtain ⟨h1, h2⟩ := e'.unlockD en.dom h0
      exact ⟨h1, w σ' _ h2⟩
    | rt x =>
      rw [z] at w
      intro v H' s r
      have h1 : H' d = some (.frz od (.dK kvs)) := s d _ (by rw [upd_same])
      refine ⟨h1, w v _ (fun b x q => ?_) (r.lu (lu_unlock h1))⟩
      by_cases z : b = d
      · subst z; rw [upd_same, h0 x q]
      · rw [upd_ne z]; exact s b x (by rw [upd_ne z]; exact q)
theorem PS.or {st : Stmt} {t u : TS} (h1 : PS X st t) (h2 : PS X st u) : PS X st (fun D σ H => t D σ H ∨ u D σ H) :=
  ⟨fun pins s σ H D I h => h.elim (h1.run pins s σ H D I) (h2.run pins s σ H D I)⟩
theorem ds_forK (i : Nat) {tgx : Expr} {body : List Stmt} {gt : TG} {tg : Tgt} {tb : TS} (hp : PassesOwn (model X.prog X.w) X.A X.env X.xe) (hc : X.calm = true) (hg : DG X K own tgx gt tg) (hb : DSs X K mg E own own body tb g)
    (hi : i ∉ own := by decide) (hN : X.N[i]? = some x := by rfl) (hv : Vis X.env.scope x := by first | exact Or.inl rfl | exact Or.inr (Or.inl rfl) | exact Or.inr (Or.inr rfl)) (hd : (x == ("__debug__" : Str)) = false := by decide)
    (hcd : (x == ("__classdict__" : Str)) = false := by decide) (hs : ∀ y, foldedSetIterable (.Name x npos) X.env y = pure y := by intro _; rfl) :
    DS X K mg E own own (.For tgx (.Name x npos) body [] pos) (fun D σ H => tLock (tFor (iKeys (tVar i)) gt tb) D σ H ∨ tFor (iKeys (tVar i)) gt tb D σ H) (gForK tg i g) :=
  have p := ps_for hp hc (pi_keys (tg := tgx) (pe_var (X := X) (pos := npos) hN hv hd hcd)) hg.pg hb.ps hs
  ⟨PS.or (ps_lock p) p, ts_forK hi hg.ok hb.ok⟩
end
end DL
end

section
set_option Elab.async false
set_option linter.all false
set_option maxRecDepth 100000
set_option maxHeartbeats 2000000
set_option autoImplicit false
/-! DL14: defs whose result is new: fit to be the caller's own. -/
namespace DL
open PySem PySem.Spec PyProof.Rows L2

/-- THE PROMISE of a def whose result is new -/
def spF (K : PySem.W.Frag) (mg : Str → Option Value) (n : Nat) (f : List D → Res D) : Sp := fun vs H Q E => vs.length = n ∧ ∃ (O : Addr → Prop) (ds : List D), Dom O H ∧ RAll K (Cut O H) vs ds ∧
  ResW mg E H (fun d => ∀ p H', Same H H' → H p = none → OwnR K (Cut (Plus O p) H') H' p d → Q (.ref p) H') (f ds)
structure DefF (P : Program) (w : World) (K : PySem.W.Frag) (mg : Str → Option Value) (base : Heap) (x : Str) (ps : List Str) (k n : Nat) (fM : List D → Res D) : Prop where
  ex : ∃ (f : Addr) (fd : FuncData), mg x = some (.ref f) ∧ PySem.W.keepIn K (.ref f) = true ∧ (∃ oc od osl, K.lookup f = some ⟨oc, od, .func fd, osl⟩) ∧ Binds K fd ps [] ∧ FnOk P w K mg base CX0 k f fd ps (spF K mg n fun ds => (fM ds).calm)
theorem DefF.df {P : Program} {w : World} {K : PySem.W.Frag} {mg : Str → Option Value} {base : Heap} {x : Str} {ps : List Str} {k n : Nat} {fM : List D → Res D} (G : DefF P w K mg base x ps k n fM) : Def P w K mg base x ps k n fM := by
  obtain ⟨f, fd, a, b, c, d, F⟩ := G.ex
  refine ⟨f, fd, a, b, c, d, F.imp fun vs H Q E h => ?_⟩
  obtain ⟨hl, O, ds, dom, r, w⟩ := h
  exact ⟨hl, O, ds, dom, r, w.mono (Same.refl H) fun d k p H' s np r => k _ H' s (ownR_R r fun z => (dom.same (Same.refl H)) p z np)⟩
/-- what never returns -/
def NoRt (g : Gx) : Prop := ∀ ρ d, g ρ ≠ .rt d
section
variable {g h : Gx} {f : Ex} {c : Tx} {i : Nat}
theorem nrt_skip : NoRt gSkip := fun ρ d z => by cases z
theorem nrt_bad : NoRt gBad := fun ρ d z => by cases z
theorem nrt_raise {c : Str} : NoRt (gRaise c) := fun ρ d z => by cases z
theorem nrt_set : NoRt (gSet i f) := fun ρ d z => by
  unfold gSet at z
  cases q : f ρ <;> rw [q] at z <;> cases z
theorem nrt_drop : NoRt (gDrop f) := fun ρ d z => by
  unfold gDrop at z
  cases q : f ρ <;> rw [q] at z <;> cases z
theorem nrt_seq (a : NoRt g) (b : NoRt h) : NoRt (gSeq g h) := fun ρ d z => by
  unfold gSeq at z
  cases q : g ρ with
  | nx ρ' => rw [q] at z; exact b ρ' d z
  | rt d' => exact a ρ d' q
  | exc c => rw [q] at z; cases z
  | bad => rw [q] at z; cases z
theorem nrt_if (a : NoRt g) (b : NoRt h) : NoRt (gIf c g h) := fun ρ d z => by
  unfold gIf at z
  cases q : c ρ with
  | ok k =>
    rw [q] at z
    cases k with
    | true => exact a ρ d z
    | false => exact b ρ d z
  | exc c => rw [q] at z; cases z
  | bad => rw [q] at z; cases z
theorem nrt_forL {tg : Tgt} (a : NoRt g) : ∀ (l : List D), NoRt (forL tg g l)
  | [], ρ, d, z => by cases z
  | x :: l, ρ, d, z => by
    unfold forL at z
    cases q : tg.put x ρ with
    | none => rw [q] at z; cases z
    | some ρ' =>
      rw [q] at z
      replace z : (match g ρ' with | .nx ρ'' => forL tg g l ρ'' | o => o) = .rt d := z
      cases q2 : g ρ' with
      | nx ρ2 => rw [q2] at z; exact nrt_forL a l ρ2 d z
      | rt d' => exact a ρ' d' q2
      | exc c => rw [q2] at z; cases z
      | bad => rw [q2] at z; cases z
theorem nrt_for {tg : Tgt} {fi : Ax} (a : NoRt g) : NoRt (gFor tg fi g) := fun ρ d z => by
  unfold gFor at z
  cases q : fi ρ with
  | ok l => rw [q] at z; exact nrt_forL a l ρ d z
  | exc c => rw [q] at z; cases z
  | bad => rw [q] at z; cases z
theorem nrt_forK {tg : Tgt} (a : NoRt g) : NoRt (gForK tg i g) := fun ρ d z => by
  unfold gForK gCalm at z
  cases q : gFor tg (itK i) g ρ with
  | rt d' => exact nrt_for a ρ d' q
  | nx ρ2 => rw [q] at z; cases z
  | exc c => rw [q] at z; cases z
  | bad => rw [q] at z; cases z
theorem nrt_whN (a : NoRt g) : ∀ (n : Nat), NoRt (whN c g n)
  | 0, ρ, d, z => by cases z
  | n + 1, ρ, d, z => by
    unfold whN at z
    cases q : c ρ with
    | ok b =>
      rw [q] at z
      cases b with
      | false => cases z
      | true =>
        replace z : (match g ρ with | .nx ρ' => whN c g n ρ' | o => o) = .rt d := z
        cases q2 : g ρ with
        | nx ρ2 => rw [q2] at z; exact nrt_whN a n ρ2 d z
        | rt d' => exact a ρ d' q2
        | exc c => rw [q2] at z; cases z
        | bad => rw [q2] at z; cases z
    | exc c => rw [q] at z; cases z
    | bad => rw [q] at z; cases z
theorem nrt_wh (a : NoRt g) : NoRt (gWh c g) := fun ρ d z => by
  unfold gWh at z
  split at z
  · exact nrt_whN a _ ρ d z
  · cases z
theorem nrt_app : NoRt (gApp i f) := fun ρ d z => by
  unfold gApp at z
  split at z
  · cases q : f ρ with
    | ok x => rw [q] at z; replace z : (if _ then Out.nx _ else .bad) = .rt d := z; split at z <;> cases z
    | exc c => rw [q] at z; cases z
    | bad => rw [q] at z; cases z
  · cases z
theorem nrt_ext : NoRt (gExt i f) := fun ρ d z => by
  unfold gExt at z
  split at z
  · cases q : f ρ with
    | ok x =>
      rw [q] at z
      cases x <;> first | cases z | (replace z : (if _ then Out.nx _ else .bad) = .rt d := z; split at z <;> cases z)
    | exc c => rw [q] at z; cases z
    | bad => rw [q] at z; cases z
  · cases z
theorem nrt_putL {fk : Ex} : NoRt (gPutL i fk f) := fun ρ d z => by
  unfold gPutL at z
  split at z
  · cases q : f ρ with
    | ok x =>
      rw [q] at z
      cases q2 : fk ρ with
      | ok k =>
        simp only [q2, Res.out] at z
        split at z
        · split at z <;> cases z
        · cases z
      | exc c => simp only [q2, Res.out] at z; cases z
      | bad => simp only [q2, Res.out] at z; cases z
    | exc c => rw [q] at z; cases z
    | bad => rw [q] at z; cases z
  · cases z
theorem nrt_putD {fk : Ex} : NoRt (gPutD i fk f) := fun ρ d z => by
  unfold gPutD at z
  split at z
  · cases q : f ρ with
    | ok x =>
      rw [q] at z
      cases q2 : fk ρ with
      | ok k =>
        simp only [q2, Res.out] at z
        split at z
        · split at z <;> cases z
        · cases z
      | exc c => simp only [q2, Res.out] at z; cases z
      | bad => simp only [q2, Res.out] at z; cases z
    | exc c => rw [q] at z; cases z
    | bad => rw [q] at z; cases z
  · cases z
theorem nrt_un {tg : Tgt} : NoRt (gUn tg f) := fun ρ d z => by
  unfold gUn at z
  cases q : f ρ with
  | ok x => simp only [q, Res.out] at z; split at z <;> cases z
  | exc c => rw [q] at z; cases z
  | bad => rw [q] at z; cases z
end
/-! ### bodies that end in a new result -/
def OutWF (K : PySem.W.Frag) (mg : Str → Option Value) (E : XK) (O : Addr → Prop) (H0 : Hp) (D : Ends) : Out → Prop
  | .nx _ => False
  | .rt d => ∀ p H, Same H0 H → H0 p = none → OwnR K (Cut (Plus O p) H) H p d → D.rt (.ref p) H
  | .exc c => ∃ C, mg c = some (.ref C) ∧ ∀ H, Same H0 H → E (.ref C) none H
  | .bad => False
structure DSsF (X : Cx) (K : PySem.W.Frag) (mg : Str → Option Value) (E : XK) (own : List Nat) (st : List Stmt) (t : TS) (g : Gx) : Prop where
  ps : PSs X st t
  ok : ∀ (O : Addr → Prop) (H0 : Hp) (ρ : Rho) (σ : L2.St) (H : Hp) (D : Ends), EnvOk K O H0 own ρ σ H → OutWF K mg E O H0 D (g ρ) → t D σ H
  nn : ∀ ρ ρ', g ρ ≠ .nx ρ'
theorem OwnR.mono {K : PySem.W.Frag} {C C' H : Hp} {a : Addr} {d : D} (s : Same C C') (r : OwnR K C H a d) : OwnR K C' H a d := by
  cases r with
  | lst q z => exact .lst q (z.mono s)
  | dic q z => exact .dic q (z.mono s)
section
variable {X : Cx} {K : PySem.W.Frag} {mg : Str → Option Value} {E : XK} {own own' own'' : List Nat} {st : Stmt} {rest : List Stmt} {t u : TS} {g h : Gx} {e : Expr} {te : TE} {f : Ex} {pos npos : Pos} {x : Str}
theorem ret_nn (ρ ρ' : Rho) : gRet f ρ ≠ .nx ρ' := fun z => by
  unfold gRet at z
  cases q : f ρ <;> rw [q] at z <;> cases z
theorem dssF_ret (he : DF X K mg E own e te f) : DSsF X K mg E own [.Return (some e) pos] (tRet te) (gRet f) :=
  ⟨pss_one (ps_ret he.pe), fun O H0 ρ σ H D en w => he.ok O H0 ρ σ H _ en (by
    unfold gRet at w
    cases q : f ρ with
    | ok d =>
      rw [q] at w
      exact fun p H' s np r => w p H' (en.base.trans s) (en.base.free np) (r.mono (cut_mono fun a z => z.imp .inl id))
    | exc c => rw [q] at w; obtain ⟨C, a, b⟩ := w; exact ⟨C, a, fun H' s => b H' (en.base.trans s)⟩
    | bad => rw [q] at w; exact w), ret_nn⟩
theorem dssF_own (i : Nat) (hi : i ∈ own := by decide) (hN : X.N[i]? = some x := by rfl) (hv : Vis X.env.scope x := by first | exact Or.inl rfl | exact Or.inr (Or.inl rfl) | exact Or.inr (Or.inr rfl)) (hd : (x == ("__debug__" : Str)) = false := by decide)
    (hcd : (x == ("__classdict__" : Str)) = false := by decide) : DSsF X K mg E own [.Return (some (.Name x npos)) pos] (tRet (tVar i)) (gRet (rd i)) :=
  ⟨pss_one (ps_ret (pe_var hN hv hd hcd)), fun O H0 ρ σ H D en w => by
    unfold gRet at w
    cases q : rd i ρ with
    | ok d =>
      rw [q] at w
      have h1 : ResW mg E H (fun _ => True) (rd i ρ) := by rw [q]; trivial
      obtain ⟨d', q2, _⟩ := rd_ok h1
      have ed : d' = d := by
        unfold rd at q
        rw [q2] at q
        cases q
        rfl
      subst ed
      obtain ⟨a, hσ, r⟩ := en.ow i d' hi q2
      exact ⟨.ref a, hσ, w a H en.base (en.new a ⟨i, hi, hσ⟩) (r.mono (cut_mono fun b z => by
        rcases z with z | z
        · exact .inl z
        · exact .inr ⟨i, hi, by rw [z]; exact hσ⟩))⟩
    | exc c => exfalso; unfold rd at q; split at q <;> cases q
    | bad => rw [q] at w; exact w.elim, ret_nn⟩
theorem dssF_cons (h1 : DS X K mg E own own' st t g) (n : NoRt g) (h2 : DSsF X K mg E own' rest u h) : DSsF X K mg E own (st :: rest) (tSeq t u) (gSeq g h) :=
  ⟨pss_cons h1.ps h2.ps, fun O H0 ρ σ H D en w => by
    refine h1.ok O H0 ρ σ H _ en ?_
    unfold gSeq at w
    cases q : g ρ with
    | nx ρ' => rw [q] at w; exact fun σ' H' e' => h2.ok O H0 ρ' σ' H' D e' w
    | rt d => exact (n ρ d q).elim
    | exc c => rw [q] at w; exact w
    | bad => rw [q] at w; exact w, fun ρ ρ' z => by
    unfold gSeq at z
    cases q : g ρ with
    | nx ρ2 => rw [q] at z; exact h2.nn ρ2 ρ' z
    | rt d => rw [q] at z; cases z
    | exc c => rw [q] at z; cases z
    | bad => rw [q] at z; cases z⟩
theorem dssF_freeze (own' : List Nat) (h : DSsF X K mg E own' rest u g) (s : ∀ i ∈ own', i ∈ own := by decide) : DSsF X K mg E own rest u g := ⟨h.ps, fun O H0 ρ σ H D e w => h.ok O H0 ρ σ H D (e.freeze s) w, h.nn⟩
end
section
variable {P : Program} {w : World} {K : PySem.W.Frag} {mg : Str → Option Value} {base : Heap}
theorem mkDefF {x : Str} {st : Stmt} {N ps : List Str} {n : Nat} (g : Gx) {fM : List D → Res D} (hM : fM = run N.length g) (k : Nat) (T : At K mg x st) (S : FnScope N ps (defScope st)) (hn : ps.length = n)
    (hbind : ∀ (kV doc pm : Value) (an : Option Addr) (cdv ct : Value) (us : List Value), us.length = ps.length → bindArgs (PySem.W.fnOf x x (defArgs st) (defBody st) (defScope st) .none kV doc pm an cdv ct) ⟨us, []⟩ = pure (ps.zip us))
    (hbody : ∀ (cdv : Value) (A : Around) (outer : List Env) (s : Shared) (H : Hp) (E : XK) (f : Addr), Room k (A.deeper (envOfC x (defScope st) s.heap.objs.size f cdv)) →
      ∃ (t : TS), DSsF (cxOf CX0 P w K mg base N x (defScope st) f cdv A outer s H E).nox K mg E0' [] (defBody st) t g) : DefF P w K mg base x ps (k + 1) n fM := by
  subst hM
  obtain ⟨f, fd, hm, F⟩ := T.ex
  refine ⟨f, fd, hm, F.kp, (let ⟨oc, od, _, _, _, _, _, _, _, osl, _, lk, _⟩ := F.ex; ⟨oc, od, osl, lk⟩), F.bindsN hbind, F.ok S (fun vs H Q E h => by rw [h.1, hn]) fun cdv A outer s H vs Q E hr h => ?_⟩
  obtain ⟨t, hb⟩ := hbody cdv A outer s H E f hr
  obtain ⟨_, O, ds, dom, r, w⟩ := h
  refine ⟨t, hb.ps.nox, hb.ok O H _ _ H _ (env_start dom r) ?_⟩
  have w := resW_calm (E' := E0') w
  unfold run at w
  cases q : g (ds.map some ++ List.replicate (N.length - ds.length) none) with
  | nx ρ => exact (hb.nn _ _ q).elim
  | rt d => rw [q] at w; exact w
  | exc c => rw [q] at w; exact w
  | bad => rw [q] at w; exact w
theorem df_fn {X : Cx} {K : PySem.W.Frag} {mg : Str → Option Value} {own : List Nat} {k n : Nat} {fM : List D → Res D} {x : Str} {ps : List Str} {p pos : Pos} {e : Expr} {es : List Expr} {t : TA} {g : Ax}
    (G : DefF X.prog X.w X.K X.mg X.base x ps k n fM) (hr : Room k X.A) (ha : DA X K mg E0' own (e :: es) t g) (hg : Gl X x := by rfl) (hdb : (x == ("__debug__" : Str)) = false := by decide) (he : starEach (e :: es) X.env = (false, eval e X.env) :: starEach es X.env := by rfl) (hpl : (backTo pos (starEach es X.env)).any (·.1) = false := by rfl) (hK : X.K = K := by rfl) (hmg : X.mg = mg := by rfl) :
    DF X K mg E0' own (.Call (.Name x p) (e :: es) [] pos) (tCall (spF K mg n fun ds => (fM ds).calm) [] E0' t) (callD n fM g) := by
  subst hK hmg
  obtain ⟨f, fd, hm, hk, _, hb, F⟩ := G.ex
  refine ⟨pe_call F hr hg hm hk hb .nil pass0 ha.pa hdb he hpl, fun O H0 ρ σ H Q en w => ?_⟩
  unfold callD at w
  rw [resW_bind] at w
  refine ha.ok O H0 ρ σ H _ en (w.mono (Same.refl H) fun ds wd vs H1 s1 r1 => ?_)
  by_cases c : ds.length = n
  · rw [if_pos c] at wd
    rw [List.append_nil]
    have wd' : ResW X.mg E0' H (fun d => ∀ p H', Same H H' → H p = none → OwnR X.K (Cut (Plus (AllA O own σ) p) H') H' p d → Q (.ref p) H') ((fM ds).calm) := by
      cases q : fM ds with
      | ok d => rw [q] at wd; exact wd
      | exc c => rw [q] at wd; obtain ⟨_, _, z⟩ := wd; exact (z H (Same.refl H)).elim
      | bad => rw [q] at wd; exact wd
    exact ⟨by rw [r1.length, c], AllA O own σ, ds, en.domA.same s1, r1, wd'.mono s1 fun d k p H' s np r => k p H' (s1.trans s) (s1.free np) r⟩
  · rw [if_neg c] at wd; exact wd.elim
end
end DL
end

section
set_option Elab.async false
set_option linter.all false
set_option maxRecDepth 100000
set_option maxHeartbeats 4000000
set_option autoImplicit false
/-! DL15: sorted(set(a list of numbers)), sorted(d.items()), enumerate(tuple). -/
namespace DL
open PySem PySem.Spec PyProof.Rows L2
section
variable {P : Program} {w : World} {A : Around} {E : Value → Shared → Prop} {s : Shared}
set_option maxHeartbeats 3200000 in
theorem call_set_lstI {l : Addr} {items : Array Value} (ns : List Int) {Q : Value → Shared → Prop} (hh : A.handled = none) (hl : s.heap.IsList l items) (hit : IntsAre items.toList ns) (hb : ns.length + 1 < scanBound)
    (h : ∀ (h' : Heap) (tk c : Nat), SetR w h' s.heap.objs.size (fun j => decide (j ∈ ns)) c → c ≤ ns.length → (∀ b o, s.heap.get? b = some o → h'.get? b = some o) → Q (.ref s.heap.objs.size) { s with heap := h', toks := tk }) :
    wpAny (model P w) A (call (.type "set") [.ref l]) Q E s := by
  have hisz : items.size = ns.length := by
    have q := IntsAre.length hit
    rw [Array.length_toList] at q
    exact q
  obtain ⟨c, tl, hmro⟩ := F.called_set.mro
  have hmade := F.called_set.made
  have hsub := F.called_set.sub
  refine wpAny_call (codeAny_of_tree ?_)
  show wpAny _ _ (callAny (.type "set") _) _ _ _
  refine wpAny_pure ⟨Code.quiet_builtin _ (by decide +kernel), codeAny_builtin F.entry_type_call ?_⟩
  rw [Around.under_plain (weight_type_call_type "set" [.ref l] []) rfl]
  have h1 := F.called_set.notType
  have h2 := F.called_set.canCreate
  have hct := F.typeCall_set_1 (.ref l)
  repeat (any_goals (first | assumption | wp_step))

  refine codeAny_mono (code_set_led1 (.ref l) (E := E) (Q₁ := fun obj s₁ => obj = .ref s.heap.objs.size ∧ s₁ = { s with heap := s.heap.push { cls := .type "set", dict := none, data := .set #[] 0 (.fresh 0 0 (!w.params.followText "set-order")) } }) ⟨rfl, rfl⟩) fun r s₁ hr => ?_
  cases r with
  | error e => exact hr
  | ok fl =>
    cases fl with
    | ret obj =>
      obtain ⟨rfl, rfl⟩ := hr
      have hS : (s.heap.push { cls := .type "set", dict := none, data := .set #[] 0 (.fresh 0 0 (!w.params.followText "set-order")) }).get? s.heap.objs.size = some { cls := .type "set", dict := none, data := .set #[] 0 (.fresh 0 0 (!w.params.followText "set-order")) } := Heap.get?_push_size _ rfl
      have hT : Shared.TypeIs { s with heap := s.heap.push { cls := .type "set", dict := none, data := .set #[] 0 (.fresh 0 0 (!w.params.followText "set-order")) } } (.ref s.heap.objs.size) "set" := ⟨_, hS, rfl⟩
      have hli := F.called_set.init.lookup
      have hbi := F.called_set.init.bind (.ref s.heap.objs.size)
      repeat (any_goals (first | assumption | wp_step))

      refine codeAny_mono (codeAny_call_builtin (R := wants (fun r s₂ => r = .none ∧ ∃ h' tk c, s₂ = { s with heap := h', toks := tk } ∧ SetR w h' s.heap.objs.size (fun j => decide (j ∈ ns)) c ∧ c ≤ ns.length ∧
          (∀ b o, s.heap.get? b = some o → h'.get? b = some o)) E) F.called_set.init.plain F.entry_set_init (check_set_init_1 hT ?_)) fun r₂ s₂ hr₂ => ?_
      · obtain ⟨ol, hol, hcl, nl, hdl⟩ := hl
        obtain ⟨ocls, odict, odata, oslots⟩ := ol
        simp only at hcl hdl
        subst hcl; subst hdl
        have hol' : (s.heap.push { cls := .type "set", dict := none, data := .set #[] 0 (.fresh 0 0 (!w.params.followText "set-order")) }).get? l = some { cls := .type "list", dict := odict, data := .seq items nl, slots := oslots } := Heap.get?_push_of_some _ hol
        have hsls := F.sub_list_set
        have hslf := F.sub_list_frozenset
        have hne : (Value.type "list" == Value.type "dict") = false := by decide
        have hl1 : (s.heap.push { cls := .type "set", dict := none, data := .set #[] 0 (.fresh 0 0 (!w.params.followText "set-order")) }).IsList l items := ⟨_, hol', rfl, nl, rfl⟩
        unfold Builtin.«set.__init__» noKeywords Builtin.Frozenset.updateFrom
        generalize hPI : pyIter = PI
        wp_walk
        subst hPI

        refine wpAny_pyIter_list hl1 ?_
        refine wpAny_bind (wpAny_runValue ?_)
        have hlS : l < s.heap.objs.size := Heap.lt_size hol
        have hh3 : A.in1.in1.in1.handled = none := by simp [hh]
        have hz1 : (s.heap.push { cls := .type "set", dict := none, data := .set #[] 0 (.fresh 0 0 (!w.params.followText "set-order")) }).objs.size = s.heap.objs.size + 1 := Heap.size_push ..
        have hneI : l ≠ (s.heap.push { cls := .type "set", dict := none, data := .set #[] 0 (.fresh 0 0 (!w.params.followText "set-order")) }).objs.size := by
          rw [Heap.size_push]; exact Nat.ne_of_lt (Nat.lt_succ_of_lt hlS)
        have hSf : s.heap.objs.size ∉ [(s.heap.push { cls := .type "set", dict := none, data := .set #[] 0 (.fresh 0 0 (!w.params.followText "set-order")) }).objs.size, l] := by
          rw [Heap.size_push]; simp only [List.mem_cons, List.mem_singleton, List.not_mem_nil, or_false, not_or]
          exact ⟨Nat.ne_of_lt (Nat.lt_succ_self _), Nat.ne_of_gt hlS⟩
        have hval : ∀ (i : Nat) (v : Value), items[i]? = some v → ∃ k t, ns[i]? = some k ∧ v = .int k t := fun i v hv => by
          have hi : i < ns.length := by rw [← hisz]; exact (Array.getElem?_eq_some_iff.mp hv).1
          obtain ⟨t, e⟩ := PyProof.Rows.IntsAre.int_at hit i v (by rw [Array.getElem?_toList]; exact hv)
          refine ⟨ns[i], t, List.getElem?_eq_getElem hi, ?_⟩
          rw [e, List.getD_eq_getElem?_getD, List.getElem?_eq_getElem hi] <;> rfl
        refine set_update_ints ((Walks.list hh3 _ l hneI items).toS) s.heap.objs.size
          hSf ns hisz hb hval (items.size - 0) 0 _ (by omega) (Nat.zero_le _)
          ⟨⟨_, Heap.get?_push_size _ rfl, rfl, rfl⟩, (hl1.push _)⟩ ?hS0 ?hR
        case hS0 =>
          have hget : ((s.heap.push { cls := .type "set", dict := none, data := .set #[] 0 (.fresh 0 0 (!w.params.followText "set-order")) }).push { cls := .type "list_iterator", data := .fields #[.ref l, .int 0 0] }).get? s.heap.objs.size
              = some { cls := .type "set", dict := none, data := .set #[] 0 (.fresh 0 0 (!w.params.followText "set-order")) } := Heap.get?_push_of_some _ hS
          exact ⟨0, Nat.le_refl 0, setR_new_at hget⟩
        case hR =>
          intro s' c' hm hc' hS'
          obtain ⟨h', g2, d', tk', os'⟩ := s'
          have eg : g2 = s.gens := hm.gens
          have ed : d' = s.drawn := hm.drawn
          have eo : os' = s.os := hm.os
          subst eg; subst ed; subst eo
          show wpAny _ _ _ _ _ _
          refine wpAny_pure ?_
          show wpAny _ _ (ret Value.none) _ _ _
          rw [hisz] at hc'
          refine wpAny_pure ⟨rfl, h', tk', c', rfl, hS', hc', fun b o e => ?_⟩
          have hb0 : b < s.heap.objs.size := Heap.lt_size e
          have hb1 : b ≠ s.heap.objs.size := Nat.ne_of_lt hb0
          have hb2 : b ≠ (s.heap.push { cls := .type "set", dict := none, data := .set #[] 0 (.fresh 0 0 (!w.params.followText "set-order")) }).objs.size := by
            rw [Heap.size_push]; exact Nat.ne_of_lt (Nat.lt_succ_of_lt hb0)
          exact hm.heap b o (by simp only [List.mem_cons, List.mem_singleton, List.not_mem_nil, or_false, not_or]; exact ⟨hb1, hb2⟩) (Heap.get?_push_of_some _ (Heap.get?_push_of_some _ e))

      · cases r₂ with
        | error e => exact hr₂
        | ok fl₂ =>
          cases fl₂ with
          | ret r =>
            obtain ⟨rfl, h', tk, c', rfl, hS', hc', hk'⟩ := hr₂
            repeat (any_goals (first | assumption | wp_step))
            exact h _ _ _ hS' hc' hk'
          | _ => exact hr₂.elim
    | _ => exact hr.elim

end
end DL

namespace DL
open PySem PySem.Spec PyProof.Rows L2
/-! ### sorted(set(xs)) -/
def rSetL (K : PySem.W.Frag) (w : World) : List V → Hp → VK → Prop := fun vs H Q => ∃ (l : Addr) (ns : List Int), vs = [V.ref l] ∧ SqL K H l (ns.map V.int) ∧ ns.length < 64 ∧
  ∀ p c, H p = none → c ≤ ns.length → Q (.ref p) (upd H p (SetO w p (fun j => decide (j ∈ ns)) c))
theorem cr_setL {X : Cx} (hc : X.calm = true) : CallR X (.type "set") (rSetL X.K X.w) := by
  intro pins s σ H vs us Q I r h
  obtain ⟨l, ns, rfl, hq, hl, q⟩ := h
  rw [Vals.ref1 r]
  obtain ⟨its, rv, pl, hz⟩ := I.list hq
  refine call_set_lstI ns (I.ok.hd hc) pl.isList (by simpa using RZ.intsAre_vals rv) (by unfold scanBound; omega) fun h' tk c R hcn k => ?_
  exact ⟨.ref s.heap.objs.size, upd H s.heap.objs.size (SetO X.w s.heap.objs.size (fun j => decide (j ∈ ns)) c), I.laid (t' := tk) k (Nat.le_refl _) (setO_new R), rfl, q _ c (I.hok.fresh (Nat.le_refl _)) hcn⟩
def uniqI : List Int → List Int
  | [] => []
  | x :: l => if x ∈ uniqI l then uniqI l else x :: uniqI l
theorem mem_uniqI {k : Int} : ∀ {l : List Int}, k ∈ uniqI l ↔ k ∈ l
  | [] => Iff.rfl
  | x :: l => by
    unfold uniqI
    by_cases h : x ∈ uniqI l
    · rw [if_pos h, mem_uniqI, List.mem_cons]
      exact ⟨.inr, fun z => z.elim (fun e => e ▸ mem_uniqI.mp h) id⟩
    · rw [if_neg h, List.mem_cons, List.mem_cons, mem_uniqI]
theorem nd_uniqI : ∀ (l : List Int), (uniqI l).Nodup
  | [] => .nil
  | x :: l => by
    unfold uniqI
    by_cases h : x ∈ uniqI l
    · rw [if_pos h]; exact nd_uniqI l
    · rw [if_neg h]; exact List.nodup_cons.mpr ⟨h, nd_uniqI l⟩
/-- the numbers of a list in order, each once -/
def setI (l : List Int) : List Int := sortI (uniqI l)
theorem mem_setI {k : Int} {l : List Int} : k ∈ setI l ↔ k ∈ l := (sortI_perm (uniqI l)).mem_iff.trans mem_uniqI
theorem inc_setI (l : List Int) : (setI l).Pairwise (· < ·) := by
  have h1 : (setI l).Pairwise (· ≤ ·) := sortI_sorted _
  have h2 : (setI l).Nodup := (sortI_perm (uniqI l)).nodup_iff.mpr (nd_uniqI l)
  exact h1.imp₂ (fun a b h3 h4 => by omega) h2
theorem inc_unique : ∀ {l m : List Int}, l.Pairwise (· < ·) → m.Pairwise (· < ·) → (∀ k, k ∈ l ↔ k ∈ m) → l = m
  | [], [], _, _, _ => rfl
  | [], y :: m, _, _, h => absurd ((h y).mpr List.mem_cons_self) (by simp)
  | x :: l, [], _, _, h => absurd ((h x).mp List.mem_cons_self) (by simp)
  | x :: l, y :: m, hl, hm, h => by
    obtain ⟨l1, l2⟩ := List.pairwise_cons.mp hl
    obtain ⟨m1, m2⟩ := List.pairwise_cons.mp hm
    have e : x = y := by
      rcases List.mem_cons.mp ((h x).mp List.mem_cons_self) with e | e
      · exact e
      · rcases List.mem_cons.mp ((h y).mpr List.mem_cons_self) with e2 | e2
        · exact e2.symm
        · have := l1 y e2
          have := m1 x e
          omega
    subst e
    rw [inc_unique l2 m2 fun k => ?_]
    have hk := h k
    rw [List.mem_cons, List.mem_cons] at hk
    constructor
    · intro z
      rcases hk.mp (.inr z) with e | e
      · have := l1 k z; omega
      · exact e
    · intro z
      rcases hk.mpr (.inr z) with e | e
      · have := m1 k z; omega
      · exact e
def dSortedSet : D → Option D
  | .list ds => (allI ds).bind fun ns => if ns.length < 64 then some (.list ((setI ns).map .int)) else none
  | _ => none
theorem bt_set : bootBuiltins "set" = some (.type "set") := by decide +kernel
section
variable {X : Cx} {K : PySem.W.Frag} {mg : Str → Option Value} {E : XK} {own : List Nat} {a : Expr} {ta : TE} {fa : Ex} {p p2 pos pos2 : Pos}
theorem de_sortedSet (hm : X.mg "sorted" = none) (hm2 : X.mg "set" = none) (hc : X.calm = true) (ha : DC X K mg E own a ta fa) (hg : Gl X "sorted" := by rfl) (hg2 : Gl X "set" := by rfl)
    (he2 : starEach (a :: []) X.env = (false, eval a X.env) :: starEach [] X.env := by rfl) (hpl2 : (backTo pos2 (starEach [] X.env)).any (·.1) = false := by rfl)
    (he : starEach (.Call (.Name "set" p2) [a] [] pos2 :: []) X.env = (false, eval (.Call (.Name "set" p2) [a] [] pos2) X.env) :: starEach [] X.env := by rfl) (hpl : (backTo pos (starEach [] X.env)).any (·.1) = false := by rfl) (hK : X.K = K := by rfl) :
    DE X K mg E own (.Call (.Name "sorted" p) [.Call (.Name "set" p2) [a] [] pos2] [] pos) (tCB (rSortedSet X.w) (tCons (tCB (rSetL K X.w) (tCons ta tNil)) tNil)) (un fa dSortedSet) := by
  subst hK
  refine ⟨pe_callB (cr_sortedSet hc) hg hm bt_sorted (pa_cons (pe_callTy (cr_setL hc) hg2 hm2 bt_set (pa_cons ha.pe pa_nil he2) (by decide) (by decide) he2 hpl2) pa_nil he) (by decide) (by decide) he hpl, fun O H0 ρ σ H Q en w => ?_⟩
  unfold un at w
  rw [resW_bind] at w
  refine ha.ok O H0 ρ σ H _ en (w.mono (Same.refl H) fun d wd v H1 s1 r1 => ?_)
  obtain ⟨z, e1, w2⟩ := OkW.of_some (okW_of wd)
  unfold dSortedSet at e1
  split at e1
  · obtain ⟨ns, e2, e3⟩ := Option.bind_eq_some_iff.mp e1
    split at e3
    · rename_i c
      cases e3
      obtain ⟨l, xs, rfl, q, r⟩ := r1.list_of cut_sub
      refine ⟨l, ns, rfl, by rw [← r.ints e2]; exact .of q, c, fun p c' np hc' => ?_⟩
      refine ⟨p, _, c', rfl, upd_same, by omega, fun ns' q2 hs hm' hl hq => ?_⟩
      have en' : ns' = setI ns := inc_unique hs (inc_setI ns) fun k => by rw [hm', mem_setI]; simp
      subst en'
      have s2 : Same H1 (upd (upd H1 p (SetO X.w p (fun j => decide (j ∈ ns)) c')) q2 (.lst ((setI ns).map V.int))) := (same_new np).trans (same_new hq)
      have nq : ¬ AllA O own σ q2 := (en.domA.same (s1.trans (same_new np))).new hq
      exact w2 _ _ (s1.trans s2) (.lst (cut_new nq) (RAll.ofInts _))
    · cases e3
  · cases e1
end

/-! ### sorted(d.items()) -/
def itemsD (ds : List (D × D)) : List D := ds.map fun p => .tuple [p.1, p.2]
def dSortedItems : D → Option D
  | .dict ds => if isDic ds = true ∧ sortOk (itemsD ds) = true ∧ ds.length ≤ 1000000 then some (.list (sortD (itemsD ds))) else none
  | _ => none
/-- d's value, its items as new pairs, sorted by the data that they stand for -/
def tSI (K : PySem.W.Frag) (td : TE) : TE := fun σ H Q => td σ H fun x H1 => ∃ d kvs ds, x = .ref d ∧ Rd H1 d (.dK kvs) ∧ sortOk ds = true ∧ ds.length ≤ 1000000 ∧ ds.length = kvs.length ∧
  ∀ H2 (as : List Addr), Same H1 H2 → as.length = kvs.length → (∀ t ∈ as, H1 t = none) → (∀ (j : Nat) (t : Addr) (q : Key × V), as[j]? = some t → kvs[j]? = some q → H2 t = some (.tup [kV q.1, q.2])) →
    DpAll K H2 (as.map V.ref) ds ∧ ∀ p, H2 p = none → Q (.ref p) (upd H2 p (.lst ((sortP (as.map V.ref) ds).map Prod.fst)))
theorem each_reads {h : Heap} {us : List Value} {bs : List (V × D)} (e : PySem.W.EachIs (fun v (b : V × D) => ∃ as, PySem.Reads h v b.2 as) us bs) {o : Obj} :
    PySem.W.EachIs (fun v (b : V × D) => ∃ as, PySem.Reads (h.push o) v b.2 as ∧ h.objs.size ∉ as) us bs :=
  e.mono fun v b ⟨as, r⟩ => ⟨as, PyProof.Rows.Reads.keeps (fun c ob q => Heap.get?_push_of_some _ q) r, fun z => by
    obtain ⟨ob, q⟩ := PyProof.On.reads_mem_get r _ z
    exact absurd (Heap.lt_size q) (Nat.lt_irrefl _)⟩
section
variable {X : Cx} {e : Expr} {p pos : Pos}
theorem pe_sortedItems {td : TE} {apos cpos : Pos} (hu : X.A.units + 70 < cLine) (hc : X.calm = true) (hg : Gl X "sorted") (hm : X.mg "sorted" = none) (he : PE X e td) (hbase : attributeBase e "items" X.env (eval e X.env) = eval e X.env := by rfl) (hline : (apos.endLine == cpos.line) = true := by rfl)
    (hs : starEach [.Call (.Attribute e "items" apos) [] [] cpos] X.env = (false, eval (.Call (.Attribute e "items" apos) [] [] cpos) X.env) :: starEach [] X.env := by rfl) (hpl : (backTo pos (starEach [] X.env)).any (·.1) = false := by rfl) :
    PE X (.Call (.Name "sorted" p) [.Call (.Attribute e "items" apos) [] [] cpos] [] pos) (tSI X.K td) := by
  refine ⟨fun pins s σ H Q I h => ?_⟩
  refine wpAny_Call_Name_kw (ld_blt I hg hm bt_sorted ?_ (by decide) (by decide))
  refine PyProof.Rows.callWith_builtin1 ?_ hs hpl
  have arg : wpAny (model X.prog X.w) X.A (eval (.Call (.Attribute e "items" apos) [] [] cpos) X.env) (fun u s1 => ∃ r d kvs vs ep H1 ds, u = .ref r ∧ Inv X pins σ H1 s1 ∧ s1.heap.IsItemsView r d ∧ s1.heap.DictAt (mixKind X.prog X.w) d vs ep ∧ KV kvs vs ∧ kvs.length ≤ sizeLine ∧
      sortOk ds = true ∧ ds.length ≤ 1000000 ∧ ds.length = kvs.length ∧
      ∀ H2 (as : List Addr), Same H1 H2 → as.length = kvs.length → (∀ t ∈ as, H1 t = none) → (∀ (j : Nat) (t : Addr) (q : Key × V), as[j]? = some t → kvs[j]? = some q → H2 t = some (.tup [kV q.1, q.2])) →
        DpAll X.K H2 (as.map V.ref) ds ∧ ∀ p, H2 p = none → Q (.ref p) (upd H2 p (.lst ((sortP (as.map V.ref) ds).map Prod.fst)))) X.xe s := by
    refine wpAny_Call_method (T := "dict") (id := "dict.items") hbase rfl hline PySem.F.plainAttrs_dict PySem.F.slot_dict_items PySem.F.type_dict_items (thn (he.run pins s σ H _ I h) fun u s1 ⟨x, H1, I1, rx, d, kvs, ds, ex, hd, h1, h2, h3, h4⟩ => ?_)
    subst ex
    obtain rfl : u = Value.ref d := rx
    obtain ⟨z, hsys, vs, kv, dd⟩ := dk_rd I1.hok hd
    refine ⟨dd.typeIs, dd.mapOf.noDict, ?_⟩
    obtain ⟨ep, da⟩ := dd.dictAt
    have I2 : Inv X pins σ H1 { s1 with heap := s1.heap.push { cls := .type "dict_items", data := .fields #[.ref d] } } := I1.kept (t' := s1.toks) fun b ob q => Heap.get?_push_of_some _ q
    show wpAny _ _ (callWith cpos (.builtin "dict.items") [.ref d] [] []) _ X.xe s1
    refine method_meetsIn PySem.F.slot_dict_items PySem.F.entry_dict_items rfl (PySem.evalArgs_none ⟨rfl, dd.typeIs, PySem.F.args_dict_items_1 _, _, meets_dict_items (mixKind X.prog X.w) d hsys, ⟨vs, dd⟩, ?_⟩)
    exact ⟨_, d, kvs, vs, ep, H1, ds, rfl, I2, ⟨_, Heap.get?_push_size _ rfl, rfl, rfl⟩, da.push _, kv, z, h1, h2, h3, h4⟩
  rw [hs]
  show wpAny _ _ (spliced ((false, eval (.Call (.Attribute e "items" apos) [] [] cpos) X.env) :: backTo pos (starEach [] X.env))) _ _ s
  refine Calls.spliced_cons (thn arg fun u s1 hh => ?_)
  obtain ⟨r, d, kvs, vs, ep, H1, ds, rfl, I1, hv, da, kv, hz, h1, h2, h3, h4⟩ := hh
  refine Calls.spliced_nil ?_
  obtain ⟨od, es, hod, hcd, hdd, hk, hpr, hn⟩ := da
  have lk : kvs.length = vs.length := Paired.length kv
  have hsz : es.size = vs.length := by rw [← hpr.length]; simp
  refine DT.sortedI (es := es) (ep := ep) (I1.ok.hd hc) hv ⟨od, hod, hcd, hdd⟩ (by omega) fun h' tk as hk' hlt hl hG => ?_
  have I2 : Inv X pins σ H1 { s1 with heap := h', toks := tk } := I1.kept hk'
  have nd : as.Nodup := List.Pairwise.imp (fun {a b} (h : a < b) => Nat.ne_of_lt h) hG.rise
  -- the pairs are tracked
  obtain ⟨H2, I3, keep, tr⟩ := DX.takeT (P := fun b ws => ∃ (j : Nat) (q : Key × V), as[j]? = some b ∧ kvs[j]? = some q ∧ ws = [kV q.1, q.2]) I1 as H1 I2 nd fun b hb => by
    have hlo := hG.above b hb
    refine ⟨Nat.le_of_lt hlo, I1.hok.fresh (Nat.le_of_lt hlo), ?_⟩
    obtain ⟨j, hj⟩ := List.mem_iff_getElem?.mp hb
    obtain ⟨en, he1, hg1⟩ := hG.pairs j b hj
    have hjl : j < vs.length := by
      have := (List.getElem?_eq_some_iff.mp hj).1
      omega
    obtain ⟨⟨k, y⟩, hvj⟩ : ∃ q, vs[j]? = some q := ⟨vs[j], List.getElem?_eq_getElem hjl⟩
    have hen : es.toList[j]? = some en := by rw [Array.getElem?_toList]; exact he1
    obtain ⟨hkey, hval⟩ := hpr.get? hen hvj
    obtain ⟨q, hq, rq⟩ := paired_getR kv hvj
    refine ⟨[kV q.1, q.2], ⟨j, q, hj, hq, rfl⟩, fun H' => ?_⟩
    have rk : RelV (kV q.1) en.key := by
      have : q.1 = k := rq.1
      rw [this]
      exact relV_key (show keyIs k en.key = true from hkey)
    have rv2 : RelV q.2 en.val := by rw [hval]; exact rq.2
    exact ⟨by show 2 ≤ sizeLine; decide, [en.key, en.val], .cons rk (.cons rv2 .nil), ⟨_, hg1, rfl, _, rfl⟩⟩
  have trk : ∀ (j : Nat) (t : Addr) (q : Key × V), as[j]? = some t → kvs[j]? = some q → H2 t = some (.tup [kV q.1, q.2]) := fun j t q hj hq => by
    obtain ⟨ws, ⟨j', q', hj', hq', rfl⟩, ht⟩ := tr t (List.mem_of_getElem? hj)
    have ej : j = j' := (List.getElem?_inj (List.getElem?_eq_some_iff.mp hj).1 nd).mp (hj.trans hj'.symm)
    subst ej
    rw [hq] at hq'
    cases hq'
    exact ht
  obtain ⟨dp, fin⟩ := h4 H2 as (fun b o q => keep b o q) (by omega) (fun t ht => I1.hok.fresh (Nat.le_of_lt (hG.above t ht))) trk
  have rv : Vals (as.map V.ref) (as.map Value.ref) := LiI.vals_refs as
  have hlen : (as.map V.ref).length = ds.length := by rw [List.length_map]; omega
  have hmz : (List.zip (as.map V.ref) ds).map Prod.snd = ds := map_snd_zip' hlen
  have hzl : (List.zip (as.map V.ref) ds).length = ds.length := by rw [List.length_zip, hlen]; omega
  obtain ⟨rs, hr⟩ := Dp.readsAll I3 ds (as.map V.ref) (as.map Value.ref) dp rv
  have er : PySem.W.EachIs (fun v (b : V × D) => ∃ as, PySem.Reads h' v b.2 as) (as.map Value.ref) (List.zip (as.map V.ref) ds) := PySem.W.readsAll_each Prod.snd (by rw [hmz]; exact hr)
  have hob : (h'.push { cls := .type "list", data := .seq (as.map Value.ref).toArray }).get? h'.objs.size = some (PyProof.Rows.seqObj "list" (as.map Value.ref).toArray 0) := Heap.get?_push_size _ rfl
  refine PySem.W.list_sort_data (vs := as.map Value.ref) (bs := List.zip (as.map V.ref) ds) (enc := Prod.snd) (R := fun (u : Value) (b : V × D) => RelV b.1 u) hob (each_zip rv hlen) (each_reads er) (by rw [hmz]; exact sortOk_alike h1) (by rw [hmz]; exact sortOk_kind h1) (by rw [hzl, sizeLine_eq]; omega) (fun b hb => ?_) fun out ho eo => ?_
  · have hd : b.2 ∈ ds := by rw [← hmz]; exact List.mem_map.mpr ⟨b, hb, rfl⟩
    have := shaped_list_depth (sortOk_shaped h1) hd
    show X.A.units + 1 + 1 + _ < cLine
    omega
  · obtain ⟨ep2, he'⟩ := PyProof.Rows.sortedHeap_at (vs := as.map Value.ref) (out := out.toArray) hob
    have hl2 : ((sortP (as.map V.ref) ds).map Prod.fst).length ≤ sizeLine := by
      unfold sortP
      rw [List.length_map, List.length_mergeSort, hzl, sizeLine_eq]
      omega
    have kp : ∀ b u, h'.get? b = some u → (PyProof.Rows.sortedHeap (h'.push { cls := .type "list", data := .seq (as.map Value.ref).toArray }) h'.objs.size (as.map Value.ref) out.toArray).get? b = some u := fun b u q => by
      have hlt := Heap.lt_size q
      rw [PyProof.Rows.sortedHeap_old (Nat.ne_of_lt hlt) (by rw [Heap.size_push]; exact Nat.lt_succ_of_lt hlt)]
      exact Heap.get?_push_of_some _ q
    have hn2 : H2 h'.objs.size = none := I3.hok.fresh (Nat.le_refl _)
    exact ⟨.ref h'.objs.size, upd H2 h'.objs.size (.lst ((sortP (as.map V.ref) ds).map Prod.fst)), I3.laid (t' := tk) (fun b u q => kp b u q) (Nat.le_refl _) ⟨hl2, out, ep2, each_vals eo, he'⟩, rfl, fin _ hn2⟩
end
theorem RAll.items {K : PySem.W.Frag} {C H2 : Hp} (s : Same C H2) : ∀ {kvs : List (Key × V)} {ds : List (D × D)}, RKV K C kvs ds → ∀ {as : List Addr}, as.length = kvs.length → (∀ (j : Nat) (t : Addr) (q : Key × V), as[j]? = some t → kvs[j]? = some q → H2 t = some (.tup [kV q.1, q.2])) → RAll K H2 (as.map V.ref) (itemsD ds)
  | _, _, .nil, [], _, _ => .nil
  | _, _, .nil, _ :: _, hl, _ => by cases hl
  | _, _, .cons _ _, [], hl, _ => by cases hl
  | _, _, .cons (k := k) (v := v) (d := d) r t, a :: as, hl, h => by
    have h0 := h 0 a (k, v) rfl rfl
    refine .cons (.tup (.inl (.inl h0)) (.cons ?_ (.cons (r.mono s) .nil))) (RAll.items s t (as := as) (by simpa using hl) fun j u q hj hq => h (j + 1) u q (by simpa using hj) (by simpa using hq))
    cases k with
    | inl i => exact .int i
    | inr x => exact .str x
section
variable {X : Cx} {K : PySem.W.Frag} {mg : Str → Option Value} {E : XK} {own : List Nat} {e : Expr} {p pos : Pos}
theorem de_sortedItems {k : Nat} {td : TE} {fd : Ex} {apos cpos : Pos} (hr : Room k X.A) (hm : X.mg "sorted" = none) (hc : X.calm = true) (he : DC X K mg E own e td fd) (hg : Gl X "sorted" := by rfl) (hbase : attributeBase e "items" X.env (eval e X.env) = eval e X.env := by rfl) (hline : (apos.endLine == cpos.line) = true := by rfl)
    (hs : starEach [.Call (.Attribute e "items" apos) [] [] cpos] X.env = (false, eval (.Call (.Attribute e "items" apos) [] [] cpos) X.env) :: starEach [] X.env := by rfl) (hpl : (backTo pos (starEach [] X.env)).any (·.1) = false := by rfl) (hK : X.K = K := by rfl) :
    DE X K mg E own (.Call (.Name "sorted" p) [.Call (.Attribute e "items" apos) [] [] cpos] [] pos) (tSI K td) (un fd dSortedItems) := by
  subst hK
  refine ⟨pe_sortedItems (hu70 hr) hc hg hm he.pe hbase hline hs hpl, fun O H0 ρ σ H Q en w => ?_⟩
  unfold un at w
  rw [resW_bind] at w
  refine he.ok O H0 ρ σ H _ en (w.mono (Same.refl H) fun d wd v H1 s1 r1 => ?_)
  obtain ⟨z, e1, w2⟩ := OkW.of_some (okW_of wd)
  unfold dSortedItems at e1
  split at e1
  · rename_i ds
    split at e1
    · rename_i c
      obtain ⟨c1, c2, c3⟩ := c
      cases e1
      obtain ⟨a, kvs, rfl, q, r⟩ := r1.dict_of cut_sub c1
      have il : (itemsD ds).length = ds.length := by unfold itemsD; rw [List.length_map]
      refine ⟨a, kvs, itemsD ds, rfl, q, c2, by omega, by rw [il, r.length], fun H2 as s2 hl hnew ht => ?_⟩
      -- at the heap with the pairs, cut
      have dom2 := en.domA.same (s1.trans s2)
      have tup : RAll X.K H2 (as.map V.ref) (itemsD ds) := RAll.items (cut_sub.trans s2) r hl ht
      have hcl : PyData.canLayAll0 (itemsD ds) = true := by
        have := SeqAt.canLay_of_shaped (sortOk_shaped c2)
        simpa [PyData.canLay0] using this
      have dom1 := en.domA.same s1
      have tupC : RAll X.K (Cut (AllA O own σ) H2) (as.map V.ref) (itemsD ds) := RAll.items (cut_same s2) r hl fun j t q hj hq => by
        rw [cut_out (dom1.new (hnew t (List.mem_of_getElem? hj)))]
        exact ht j t q hj hq
      refine ⟨tup.dp hcl, fun p np => ?_⟩
      exact w2 _ _ ((s1.trans s2).trans (same_new np)) (.lst (cut_new (dom2.new np)) (tupC.sortP.mono (cut_same (same_new np))))
    · cases e1
  · cases e1
end
end DL
end

section
set_option Elab.async false
set_option linter.all false
set_option maxRecDepth 100000
set_option maxHeartbeats 4000000
set_option autoImplicit false
/-! DL16: enumerate of a list, of a tuple. -/
namespace DL
open PySem PySem.Spec PyProof.Rows L2 RZ
theorem meets_enum1 {v : Value} {o : Obj} {H : Heap → Prop} (B : Begins v o H) :
    Meets (Builtin.«enumerate.__new__» ⟨[.type "enumerate", v], []⟩) (fun _ R s => H s.heap ∧
      R (.ok (.ret (.ref (s.heap.push o).objs.size))) { s with heap := (s.heap.push o).push { cls := .type "enumerate", data := .fields #[.none, .bool false, .ref s.heap.objs.size, rawInt 0, .none, .none] } }) :=
  .of_wp fun prog w A R s h => by
    obtain ⟨hp, g, d, tk, os⟩ := s; obtain ⟨h1, h⟩ := h
    have hsub := sub_enumerate
    have q1 : ∀ {A' : Around} {E : Value → Shared → Prop} {Q : Value → Shared → Prop}, Q (.ref hp.objs.size) ⟨hp.push o, g, d, tk, os⟩ → wpAny (model prog w) A' (pyIter v) Q E ⟨hp, g, d, tk, os⟩ :=
      fun q => B.iter prog w _ _ ⟨hp, g, d, tk, os⟩ _ h1 q
    wp_walk using q1
    refine wpAny_stack_any fun st => wpAny_pure ?_
    split
    · rename_i c _ _ _ _ _
      cases (c == Value.type "enumerate")
      · wp_walk using q1
        exact ⟨_, rfl, h⟩
      · wp_walk using q1
        exact ⟨_, rfl, h⟩
    · wp_walk using q1
      exact ⟨_, rfl, h⟩
theorem enum_begins1 {prog : Program} {w : World} {A : Around} {E : Value → Shared → Prop} {s : Shared} {v : Value} {o : Obj} {H : Heap → Prop} {Q : Value → Shared → Prop} (B : Begins v o H) (h1 : H s.heap)
    (h : ∀ h', IsEnum h' (s.heap.objs.size + 1) s.heap.objs.size 0 .none → h'.get? s.heap.objs.size = some o → h'.objs.size = s.heap.objs.size + 2 →
      (∀ b o, s.heap.get? b = some o → h'.get? b = some o) → Q (.ref (s.heap.objs.size + 1)) { s with heap := h' }) :
    wpAny (model prog w) A (call (.type "enumerate") [v]) Q E s := by
  refine callType_new F.called_enumerate (by decide) (F.typeCall_enumerate_1 _) (F.newCall_enumerate_1 _) (fun obj => F.args_object_init_2 obj _) F.entry_enumerate_new
    (meets_enum1 B) ⟨h1, ?_⟩
  have hz : (s.heap.push o).objs.size = s.heap.objs.size + 1 := Heap.size_push ..
  show _ ∧ _
  rw [hz]
  have he : IsEnum ((s.heap.push o).push { cls := .type "enumerate", data := .fields #[.none, .bool false, .ref s.heap.objs.size, rawInt 0, .none, .none] }) (s.heap.objs.size + 1) s.heap.objs.size 0 .none := by
    have := Heap.get?_push_size (s.heap.push o) (o := { cls := .type "enumerate", data := .fields #[.none, .bool false, .ref s.heap.objs.size, rawInt 0, .none, .none] }) rfl
    rw [hz] at this; exact this
  refine ⟨⟨_, he, rfl⟩, h _ he (Heap.get?_push_of_some _ (Heap.get?_push_size _ B.free)) (by rw [Heap.size_push, hz]) fun b o x => Heap.get?_push_of_some _ (Heap.get?_push_of_some _ x)⟩

/-- the tuple at a, each item in a new pair with its number -/
def IteT (K : PySem.W.Frag) (a : Addr) : It where
  go := fun i H => ∃ (xs : List V) (x : V), SqT K H a xs ∧ xs[i]? = some x
  yld := fun i H v H' => ∃ T x, v = .ref T ∧ H T = none ∧ H' = upd H T (.tup [.int (i : Nat), x]) ∧ ∀ xs, SqT K H a xs → xs[i]? = some x
  stop := fun i H => ∃ xs : List V, SqT K H a xs ∧ i = xs.length
theorem turn_enumT {P : Program} {w : World} {K : PySem.W.Frag} {elts : List Expr} {kk : Nat} {tpos : Pos} (a e it : Addr) (hei : e ≠ it) (hea : e ≠ a) (hai : a ≠ it) :
    Turn P w K (.Tuple elts kk tpos) (IteT K a) [e, it] e (fun i h => (∃ old, IsEnum h e it ((i : Nat) : Int) old) ∧ h.IsTupleIter it a i) where
  mem := by simp
  obj := fun i h st b hb => by
    obtain ⟨⟨old, he⟩, ⟨o, ho, hc, hd⟩⟩ := st
    have e' : b = e ∨ b = it := by simpa using hb
    rcases e' with z | z
    · rw [z]; exact ⟨_, he, fun v q => nomatch q⟩
    · rw [z]; exact ⟨o, ho, fun v q => by rw [hd] at q; cases q⟩
  keep := fun i h h' st k => let ⟨⟨old, he⟩, hi⟩ := st; ⟨⟨old, k e (by simp) _ he⟩, hi.at fun o q => k it (by simp) o q⟩
  item := by
    intro X hP hw hK hc i pins s σ H E I hf st hg
    subst hP hw hK
    obtain ⟨⟨old, he⟩, hit⟩ := st
    obtain ⟨xs, x, hq, hx⟩ := hg
    obtain ⟨its, rv, p, hz⟩ := I.tuple hq
    obtain ⟨u, hu, ru⟩ := rv.get hx
    have hel : e < s.heap.objs.size := Heap.lt_size he
    have hil : it < s.heap.objs.size := by obtain ⟨_, q, _⟩ := hit; exact Heap.lt_size q
    have hd : X.A.in1.handled = none := I.ok.hd hc
    have hpa : s.heap.IsTuple a its.toArray := p
    have hu' : its.toArray[i]? = some u := by simpa using hu
    refine wpAny_pyNext_enum_itemC (Draws.tuple hd it a hai its.toArray) he ⟨hit, hpa⟩ (Array.getElem?_eq_some_iff.mp hu').1 hei (by simp [hei, hea]) fun x2 h' tk hx2 ho st2 hT hsz hk => ?_
    rw [hu'] at hx2
    cases hx2
    refine ⟨_, rfl, wpAny_letOwnedTupleGo_enum (s := { s with heap := h', toks := tk + 1 }) ho fun h'' he' sb => ?_⟩
    have hT2 : h''.get? s.heap.objs.size = some { cls := .type "tuple", data := .seq #[.int i tk, u] } := (sb.2 _ (Nat.ne_of_gt hel)).trans hT
    have new : ObjOk X.prog X.w (upd H s.heap.objs.size (.tup [.int (i : Nat), x])) h'' s.heap.objs.size (.tup [.int (i : Nat), x]) :=
      ⟨by show 2 ≤ sizeLine; decide, [.int i tk, u], .cons ⟨_, rfl⟩ (.cons ru .nil), ⟨_, hT2, rfl, _, rfl⟩⟩
    have I1 : Inv X pins σ (upd H s.heap.objs.size (.tup [.int (i : Nat), x])) { s with heap := h'', toks := tk + 1 } :=
      I.turnedNew (ch := [e, it]) (fun b ob hb q => (sb.2 b (fun z => hb (by simp [z]))).trans (hk b ob (fun z => hb (by simp [z])) (fun z => hb (by simp [z])) q)) hf (Nat.le_refl _) new
    refine ⟨.ref s.heap.objs.size, _, I1, rfl, ⟨_, x, rfl, I.hok.fresh (Nat.le_refl _), rfl, fun ys hy => by rw [I.tuple_inj hy hq]; exact hx⟩, ⟨⟨u, ?_⟩, st2.1.at fun o q => (sb.2 it (Ne.symm hei)).trans q⟩, fun b hb => ?_⟩
    · have e1 : ((i + 1 : Nat) : Int) = (i : Int) + 1 := by omega
      rw [e1]; exact he'
    · have hb' : b < s.heap.objs.size := by
        have e' : b = e ∨ b = it := by simpa using hb
        rcases e' with z | z
        · rw [z]; exact hel
        · rw [z]; exact hil
      rw [upd_ne (Nat.ne_of_lt hb')]
      exact (hf b hb).1
  done := by
    intro X hP hw hK hc i pins s σ H E I hf st hg
    subst hP hw hK
    obtain ⟨⟨old, he⟩, hit⟩ := st
    obtain ⟨xs, hq, rfl⟩ := hg
    obtain ⟨its, rv, p, hz⟩ := I.tuple hq
    obtain ⟨f0, f1, f2, f3, f4, f5⟩ := hf it (by simp)
    have hd : X.A.in1.handled = none := I.ok.hd hc
    have hpa : s.heap.IsTuple a its.toArray := p
    have hl : its.toArray.size = xs.length := by rw [List.size_toArray, ← rv.length]
    refine wpAny_pyNext_enum_endD (Draws.tuple hd it a hai its.toArray) he (by rw [hl]; exact ⟨hit, hpa⟩) fun h' eb => ⟨rfl, I.turned (t' := s.toks) (fun b o hb q => eb b o hb q) f0 f1 f3 f4 f5⟩
  self := fun A i s Q E st h => let ⟨⟨_, he⟩, _⟩ := st; wpAny_pyIter_enum he h
def iEnumT (K : PySem.W.Frag) (ta : TA) : TI := fun σ H R => ta σ H fun vs H1 => ∃ a xs, vs = [.ref a] ∧ SqT K H1 a xs ∧ R (IteT K a) H1
theorem pi_enumT {X : Cx} {e : Expr} {ta : TA} {p pos tpos : Pos} {elts : List Expr} {kk : Nat} (hg : Gl X "enumerate") (hm : X.mg "enumerate" = none) (ha : PA X [e] ta) (hs : starEach [e] X.env = [(false, eval e X.env)] := by rfl) :
    PI X (.Tuple elts kk tpos) (.Call (.Name "enumerate" p) [e] [] pos) (iEnumT X.K ta) := by
  refine ⟨fun pins s σ H R I h => ?_⟩
  refine Call_ (ld_blt I hg hm boot_enumerate (PyProof.Rows.callWith_type1 (thn (ha.run pos pins s σ H _ I h) fun us s1 ⟨vs, H1, I1, r1, q1⟩ => ?_) hs rfl))
  obtain ⟨a, xs, ex, hq, q⟩ := q1
  subst ex
  cases r1 with
  | cons r rr =>
    cases rr
    cases r
    obtain ⟨its, rv, p', hz⟩ := I1.tuple hq
    obtain ⟨o1, ho1, _⟩ := id p'
    have la := Heap.lt_size ho1
    have hpa : s1.heap.IsTuple a its.toArray := p'
    refine enum_begins1 (begins_tuple a its.toArray) hpa fun h' he hit hsz hk => wpAny_pyIter_enum he ?_
    have I2 : Inv X pins σ H1 { s1 with heap := h' } := I1.kept (t' := s1.toks) hk
    refine ⟨s1.heap.objs.size + 1, [s1.heap.objs.size + 1, s1.heap.objs.size], _, _, H1, rfl, I2, turn_enumT a (s1.heap.objs.size + 1) s1.heap.objs.size (Nat.succ_ne_self _) (Nat.ne_of_gt (Nat.lt_succ_of_lt la)) (Nat.ne_of_lt la), ⟨⟨.none, he⟩, ⟨_, hit, rfl, rfl⟩⟩, fun b hb => ?_, q⟩
    have e' : b = s1.heap.objs.size + 1 ∨ b = s1.heap.objs.size := by simpa using hb
    have hle : s1.heap.objs.size ≤ b := by
      rcases e' with z | z
      · rw [z]; exact Nat.le_add_right _ _
      · rw [z]; exact Nat.le_refl _
    exact I1.fpOk hle (I1.hok.fresh hle)
section
variable {X : Cx} {K : PySem.W.Frag} {mg : Str → Option Value} {E : XK} {own : List Nat} {a : Expr} {ta : TE} {fa : Ex} {p pos : Pos}
theorem itOk_enumT {Hb : Hp} {l : Addr} {xs : List V} {ds : List D} (q : SqT K Hb l xs) (r : RAll K Hb xs ds) : ItOk K Hb (IteT K l) (zipD ((List.range ds.length).map fun i => .int (i : Nat)) ds) := by
  have hl : (zipD ((List.range ds.length).map fun i : Nat => PyData.int (i : Nat)) ds).length = ds.length := by rw [zipD_len, List.length_map, List.length_range]; omega
  refine ⟨fun i H hi s => ?_, fun H s => ⟨xs, sqT_same s q, by rw [hl, r.length]⟩, fun i d x H H' hd s y => ?_⟩
  · rw [hl] at hi
    have h1 : i < xs.length := by rw [r.length]; omega
    exact ⟨xs, xs[i], sqT_same s q, by simp [h1]⟩
  · obtain ⟨T, x1, rfl, nT, rfl, f1⟩ := y
    obtain ⟨d1, d2, e1, e2, rfl⟩ := zipD_get hd
    obtain ⟨v2, g2, rv2⟩ := r.get e2
    have z1 := f1 xs (sqT_same s q); rw [g2] at z1; cases z1
    rw [List.getElem?_map] at e1
    obtain ⟨j, e3, rfl⟩ := Option.map_eq_some_iff.mp e1
    have hi : i < ds.length := (List.getElem?_eq_some_iff.mp e2).1
    rw [List.getElem?_range hi] at e3
    cases e3
    refine ⟨same_new nT, fun A dm ha => .tup (.inl (.inl (cut_new (dm.new nT)))) (.cons (.int _) (.cons (rv2.mono ?_) .nil))⟩
    intro b o h
    have h' := (s.trans (same_new (o := .tup [.int (i : Nat), x1]) nT)) b o h
    rw [cut_out]
    · exact h'
    · intro z
      rw [ha b z] at h
      cases h
theorem itOk_enumL {Hb : Hp} {l : Addr} {xs : List V} {ds : List D} (q : Hb l = some (.lst xs)) (r : RAll K Hb xs ds) : ItOk K Hb (Ite K l) (zipD ((List.range ds.length).map fun i => .int (i : Nat)) ds) := by
  have hl : (zipD ((List.range ds.length).map fun i : Nat => PyData.int (i : Nat)) ds).length = ds.length := by rw [zipD_len, List.length_map, List.length_range]; omega
  refine ⟨fun i H hi s => ?_, fun H s => ⟨xs, .of (s _ _ q), by rw [hl, r.length]; exact Nat.le_refl _⟩, fun i d x H H' hd s y => ?_⟩
  · rw [hl] at hi
    have h1 : i < xs.length := by rw [r.length]; omega
    exact ⟨xs, xs[i], .of (s _ _ q), by simp [h1]⟩
  · obtain ⟨T, x1, rfl, nT, rfl, f1⟩ := y
    obtain ⟨d1, d2, e1, e2, rfl⟩ := zipD_get hd
    obtain ⟨v2, g2, rv2⟩ := r.get e2
    have z1 := f1 xs (.of (s _ _ q)); rw [g2] at z1; cases z1
    rw [List.getElem?_map] at e1
    obtain ⟨j, e3, rfl⟩ := Option.map_eq_some_iff.mp e1
    have hi : i < ds.length := (List.getElem?_eq_some_iff.mp e2).1
    rw [List.getElem?_range hi] at e3
    cases e3
    refine ⟨same_new nT, fun A dm ha => .tup (.inl (.inl (cut_new (dm.new nT)))) (.cons (.int _) (.cons (rv2.mono ?_) .nil))⟩
    intro b o h
    have h' := (s.trans (same_new (o := .tup [.int (i : Nat), x1]) nT)) b o h
    rw [cut_out]
    · exact h'
    · intro z
      rw [ha b z] at h
      cases h
theorem di_enum {elts : List Expr} {kk : Nat} {tpos : Pos} (hg : Gl X "enumerate") (hm : X.mg "enumerate" = none) (ha : DE X K mg E own a ta fa) (he : starEach (a :: []) X.env = (false, eval a X.env) :: starEach [] X.env := by rfl) (hs : starEach [a] X.env = [(false, eval a X.env)] := by rfl) (hK : X.K = K := by rfl) :
    DI X K mg E own (.Tuple elts kk tpos) (.Call (.Name "enumerate" p) [a] [] pos) (fun σ H W => iEnum K (tCons ta tNil) σ H W ∨ iEnumT K (tCons ta tNil) σ H W) (itE fa) := by
  subst hK
  refine ⟨PI.or (pi_enum hg hm (pa_cons ha.pe pa_nil he) hs) (pi_enumT hg hm (pa_cons ha.pe pa_nil he) hs), fun O H0 ρ σ H W e w => ?_⟩
  unfold itE at w
  cases q : fa ρ with
  | exc c =>
    rw [q] at w
    exact .inl (ha.ok O H0 ρ σ H _ e (by rw [q]; exact w))
  | bad => rw [q] at w; exact w.elim
  | ok d =>
    rw [q] at w
    cases d with
    | list ds =>
      refine .inl (ha.ok O H0 ρ σ H _ e ?_)
      rw [q]
      intro v H1 s1 r1
      obtain ⟨l, xs, rfl, q, r⟩ := r1.list_of
      exact ⟨l, xs, rfl, .of (cut_sub _ _ q), w _ H1 s1 (itOk_enumL q r)⟩
    | tuple ds =>
      refine .inr (ha.ok O H0 ρ σ H _ e ?_)
      rw [q]
      intro v H1 s1 r1
      obtain ⟨l, xs, rfl, q, r⟩ := r1.tuple_of
      exact ⟨l, xs, rfl, sqT_same cut_sub q, w _ H1 s1 (itOk_enumT q r)⟩
    | none => exact w.elim
    | bool _ => exact w.elim
    | int _ => exact w.elim
    | str _ => exact w.elim
    | dict _ => exact w.elim
end
end DL
end

section
set_option Elab.async false
set_option linter.all false
set_option maxRecDepth 100000
set_option maxHeartbeats 2000000
set_option autoImplicit false
/-! DL17: a new tuple that is known to its object; dict(a tuple of pairs). -/
namespace DL
open PySem PySem.Spec PyProof.Rows L2

/-- a new tuple, known to its object, which has no dict -/
def TupR (K : PySem.W.Frag) (C H : Hp) (a : Addr) (d : D) : Prop := ∃ (o : Obj) (xs : List V) (ds : List D), d = .tuple ds ∧ H a = some (.frz o (.tup xs)) ∧ o.cls = .type "tuple" ∧ o.dict = none ∧ RAll K C xs ds
theorem tupR_R {K : PySem.W.Frag} {A : Addr → Prop} {p : Addr} {H : Hp} {d : D} (h : TupR K (Cut (Plus A p) H) H p d) (n : ¬ A p) : R K (Cut A H) (.ref p) d := by
  obtain ⟨o, xs, ds, rfl, q, _, _, r⟩ := h
  exact .tup (.inl (.inr ⟨o, by rw [cut_out n]; exact q⟩)) (r.mono plus_sub)
theorem TupR.mono {K : PySem.W.Frag} {C C' H : Hp} {a : Addr} {d : D} (s : Same C C') (r : TupR K C H a d) : TupR K C' H a d := by
  obtain ⟨o, xs, ds, e, q, c, dd, r⟩ := r
  exact ⟨o, xs, ds, e, q, c, dd, r.mono s⟩
def TUok (K : PySem.W.Frag) (mg : Str → Option Value) (E : XK) (own : List Nat) (t : TE) (f : Ex) : Prop :=
  ∀ (O : Addr → Prop) (H0 : Hp) (ρ : Rho) (σ : L2.St) (H : Hp) (Q : VK), EnvOk K O H0 own ρ σ H →
    ResW mg E H (fun d => ∀ p H', Same H H' → H p = none → TupR K (Cut (Plus (AllA O own σ) p) H') H' p d → Q (.ref p) H') (f ρ) → t σ H Q
structure DU (X : Cx) (K : PySem.W.Frag) (mg : Str → Option Value) (E : XK) (own : List Nat) (e : Expr) (t : TE) (f : Ex) : Prop where
  pe : PE X e t
  ok : TUok K mg E own t f

/-! ### tuple(a new list) -/
def rTupU (K : PySem.W.Frag) : List V → Hp → VK → Prop := fun xs H Q => ∃ p ys, xs = [.ref p] ∧ SqL K H p ys ∧ ∀ l o, H l = none → o.cls = .type "tuple" → o.dict = none → Q (.ref l) (upd H l (.frz o (.tup ys)))
theorem call_tupU {X : Cx} : CallR X (.type "tuple") (rTupU X.K) := by
  intro pins s σ H xs us Q I r h
  obtain ⟨p, ys, rfl, hq, q⟩ := h
  obtain ⟨u, rfl, rx⟩ := vals1 r
  cases rx
  obtain ⟨its, r', pl, hz⟩ := I.list hq
  have hlen := r'.length
  refine call_tuple_list pl.isList (fun h' kp => ?_) (by simp only [List.size_toArray] <;> omega)
  have I1 : Inv X pins σ H { s with heap := h' } := I.kept (t' := s.toks) kp
  have I2 : Inv X pins σ (upd H h'.objs.size (.frz { cls := .type "tuple", data := .seq its.toArray } (.tup ys))) { s with heap := h'.push { cls := .type "tuple", data := .seq its.toArray } } :=
    I1.laid (t' := s.toks) (fun b o e => Heap.get?_push_of_some _ e) (Nat.le_refl _) (show ObjOk X.prog X.w _ _ _ (.frz _ (.tup ys)) from ⟨Heap.get?_push_size _ rfl, hz, its, r', IsTup.new _ _⟩)
  exact ⟨.ref h'.objs.size, _, I2, rfl, q _ _ (I1.hok.fresh (Nat.le_refl _)) rfl rfl⟩
section
variable {X : Cx} {K : PySem.W.Frag} {mg : Str → Option Value} {E : XK} {own own' : List Nat} {a : Expr} {ta : TE} {fa : Ex} {p pos : Pos}
theorem du_tuple (hm : X.mg "tuple" = none) (ha : DF X K mg E own a ta fa) (hg : Gl X "tuple" := by rfl) (he : starEach (a :: []) X.env = (false, eval a X.env) :: starEach [] X.env := by rfl) (hpl : (backTo pos (starEach [] X.env)).any (·.1) = false := by rfl) (hK : X.K = K := by rfl) :
    DU X K mg E own (.Call (.Name "tuple" p) [a] [] pos) (tCB (rTupU K) (tCons ta tNil)) (un fa dTuple) := by
  subst hK
  refine ⟨pe_callTy call_tupU hg hm bt_tuple (pa_cons ha.pe pa_nil he) (by decide) (by decide) he hpl, fun O H0 ρ σ H Q en w => ?_⟩
  unfold un at w
  rw [resW_bind] at w
  refine ha.ok O H0 ρ σ H _ en (w.mono (Same.refl H) fun d wd q H1 s1 nq r1 => ?_)
  cases r1 with
  | lst hq r =>
    rename_i vs ds
    refine ⟨q, vs, rfl, .of hq, fun l o nl hc hd => ?_⟩
    have nl0 : H l = none := s1.free nl
    refine wd l _ (s1.trans (same_new nl)) nl0 ⟨o, vs, ds, rfl, upd_same, hc, hd, r.mono fun b u z => ?_⟩
    obtain ⟨c, e⟩ := cut_some z
    have ne : b ≠ l := ne_of_none e nl
    rw [cut_out, upd_ne ne]
    · exact e
    · rintro (z | z)
      · exact c (.inl z)
      · exact ne z
  | dic hq r => exact wd.elim
end
/-! ### dict(a new tuple of pairs), the keys ints, each one once -/
def pairsI : List D → Option (List (Int × D))
  | [] => some []
  | .tuple [.int k, v] :: r => (pairsI r).map ((k, v) :: ·)
  | _ => none
def dDictP : D → Option D
  | .tuple ds => (pairsI ds).bind fun l => if (l.map (·.1)).Nodup then some (.dict (l.map fun p => (.int p.1, p.2))) else none
  | _ => none
theorem pairsI_map {α : Type} (k : α → Int) (v : α → D) (l : List α) : pairsI (l.map fun a => .tuple [.int (k a), v a]) = some (l.map fun a => (k a, v a)) := by
  induction l with
  | nil => rfl
  | cons a l ih =>
    show (pairsI (l.map fun a => .tuple [.int (k a), v a])).map _ = _
    rw [ih]
    rfl
theorem pairsI_cons {d : D} {ds : List D} {l : List (Int × D)} (h : pairsI (d :: ds) = some l) : ∃ k v l', d = .tuple [.int k, v] ∧ pairsI ds = some l' ∧ l = (k, v) :: l' := by
  unfold pairsI at h
  split at h
  · rename_i q; cases q
  · rename_i k v r q
    cases q
    obtain ⟨l', e, e2⟩ := Option.map_eq_some_iff.mp h
    exact ⟨_, _, l', rfl, e, e2.symm⟩
  · cases h
theorem pairs_ex {K : PySem.W.Frag} {C : Hp} : ∀ (xs : List V) (ds : List D) (l : List (Int × D)), RAll K C xs ds → pairsI ds = some l →
    ∃ ts : List (Addr × Int × V), xs = ts.map (fun t => V.ref t.1) ∧ l.map (·.1) = ts.map (·.2.1) ∧ (∀ t, t ∈ ts → SqT K C t.1 [.int t.2.1, t.2.2]) ∧ RKV K C (ts.map fun t => ((.inl t.2.1 : Key), t.2.2)) (l.map fun p => (PyData.int p.1, p.2)) := by
  intro xs
  induction xs with
  | nil =>
    intro ds l r h
    cases r
    have e : l = [] := by
      have h : some ([] : List (Int × D)) = some l := h
      exact (Option.some.inj h).symm
    subst e
    exact ⟨[], rfl, rfl, (fun t m => by cases m), .nil⟩
  | cons x xs ih =>
    intro ds l r h
    cases r with
    | cons r t =>
      rename_i d ds
      obtain ⟨k, v, l', rfl, e, rfl⟩ := pairsI_cons h
      obtain ⟨ts, rfl, e2, hT, hr⟩ := ih _ _ t e
      obtain ⟨a, ys, rfl, q, ry⟩ := r.tuple_of
      cases ry with
      | cons ry rz =>
        cases rz with
        | cons rz rn =>
          cases rn
          have ey := ry.int_of
          subst ey
          refine ⟨(a, k, _) :: ts, rfl, ?_, ?_, .cons rz hr⟩
          · rw [List.map_cons, List.map_cons, e2]
          · intro t m
            rcases List.mem_cons.mp m with rfl | m
            · exact q
            · exact hT t m
def rDictP (K : PySem.W.Frag) : List V → Hp → VK → Prop := fun xs H Q => ∃ p o, ∃ ts : List (Addr × Int × V), xs = [.ref p] ∧ H p = some (.frz o (.tup (ts.map fun t => V.ref t.1))) ∧ o.cls = .type "tuple" ∧ o.dict = none ∧ (∀ t, t ∈ ts → SqT K H t.1 [.int t.2.1, t.2.2]) ∧ (ts.map (·.2.1)).Nodup ∧
  ∀ l, H l = none → Q (.ref l) (upd H l (.dK (ts.map fun t => ((.inl t.2.1 : Key), t.2.2))))
theorem bt_dict : bootBuiltins "dict" = some (.type "dict") := by decide +kernel
theorem pairs_at {X : Cx} {pins : List (Addr × Obj)} {s : Shared} {σ : L2.St} {H : Hp} (I : Inv X pins σ H s) (ts : List (Addr × Int × V)) : (∀ t, t ∈ ts → SqT X.K H t.1 [.int t.2.1, t.2.2]) →
    ∃ (ps : List (Value × Value)) (kvs : List (Key × Value)), ps.length = ts.length ∧ kvs.length = ts.length ∧ KV (ts.map fun t => ((.inl t.2.1 : Key), t.2.2)) kvs ∧ kvs.map (·.1) = ts.map (fun t => (.inl t.2.1 : Key)) ∧
      ∀ (j : Nat) (k v : Value), ps[j]? = some (k, v) → ∃ t : Addr × Int × V, ts[j]? = some t ∧ PairAt s.heap t.1 k v ∧ ∃ k', kvs[j]? = some (k', v) ∧ (mixKind X.prog X.w).is k' k = true := by
  induction ts with
  | nil => exact fun _ => ⟨[], [], rfl, rfl, .nil, rfl, fun j k v h => by simp at h⟩
  | cons t ts ih =>
    intro h
    obtain ⟨ps, kvs, l1, l2, kv, ke, hj⟩ := ih fun u m => h u (List.mem_cons_of_mem _ m)
    obtain ⟨its, r, it, _⟩ := I.tuple (h t List.mem_cons_self)
    cases r with
    | cons ru rr =>
      cases rr with
      | cons rv rn =>
        cases rn
        obtain ⟨tk, eu⟩ := ru
        subst eu
        rename_i v
        refine ⟨(.int t.2.1 tk, v) :: ps, (.inl t.2.1, v) :: kvs, by rw [List.length_cons, List.length_cons, l1], by rw [List.length_cons, List.length_cons, l2], .cons ⟨rfl, rv⟩ kv, by rw [List.map_cons, List.map_cons, ke], ?_⟩
        intro j k w hw
        cases j with
        | zero =>
          have hw : some (Value.int t.2.1 tk, v) = some (k, w) := hw
          cases hw
          exact ⟨t, rfl, .inl it, .inl t.2.1, rfl, mixKind_int _ _ _ _⟩
        | succ j => exact hj j k w hw
theorem call_dictP {X : Cx} (hc : X.calm = true) : CallR X (.type "dict") (rDictP X.K) := by
  intro pins s σ H xs us Q I r h
  obtain ⟨p, o, ts, rfl, hp, ho, hd, hT, hn, q⟩ := h
  obtain ⟨u, rfl, rx⟩ := vals1 r
  cases rx
  obtain ⟨hg, hz, its, r', o', e', _, n, hdat⟩ := I.hok p _ hp
  rw [hg] at e'
  cases e'
  have hlen : its.length = ts.length := by rw [← r'.length, List.length_map]
  rw [List.length_map] at hz
  obtain ⟨ps, kvs, l1, l2, kv, ke, hj⟩ := pairs_at I ts hT
  have hnd : (kvs.map (·.1)).Nodup := by
    rw [ke]
    have := hn
    rw [List.nodup_iff_pairwise_ne, List.pairwise_map] at this ⊢
    exact this.imp fun h z => h (Sum.inl.inj z)
  have hits : ∀ (j : Nat) (t : Addr × Int × V), ts[j]? = some t → its.toArray[j]? = some (.ref t.1) := fun j t e => by
    obtain ⟨u, e1, e2⟩ := r'.get (i := j) (x := .ref t.1) (by rw [List.getElem?_map, e]; rfl)
    rw [List.getElem?_toArray, e1]
    exact congrArg some e2
  have hTs : ∀ (j : Nat) (t : Addr × Int × V), ts[j]? = some t → ((ts.map (·.1)).getD j 0) = t.1 := fun j t e => by
    rw [List.getD_eq_getElem?_getD, List.getElem?_map, e]
    rfl
  refine call_dict_pairs (knd := mixKind X.prog X.w) (kvs := kvs) (PairArg.tuple p its.toArray (fun j => (ts.map (·.1)).getD j 0) ps) (I.ok.hd hc)
    ⟨⟨o, n, hg, ho, hd, hdat⟩, by rw [List.size_toArray, hlen, l1], fun j k v e => ?_⟩ ⟨by rw [l1, l2], fun i key v e => ?_⟩ (by rw [l1]; exact hz) fun h' tk hd' hk => ?_
  · obtain ⟨t, e1, e2, _⟩ := hj j k v e
    show its.toArray[j]? = some (.ref ((ts.map (·.1)).getD j 0)) ∧ PairAt s.heap ((ts.map (·.1)).getD j 0) k v
    rw [hTs j t e1]
    exact ⟨hits j t e1, e2⟩
  · obtain ⟨t, e1, e2, k', e3, e4⟩ := hj i key v e
    exact ⟨k', e3, e4⟩
  · rw [merged_nil_of_nodup _ hnd] at hd'
    have I2 : Inv X pins σ (upd H s.heap.objs.size (.dK (ts.map fun t => ((.inl t.2.1 : Key), t.2.2)))) { s with heap := h', toks := tk } :=
      I.laid (t' := tk) (fun b o e => hk b o (by simp) e) (Nat.le_refl _) (show ObjOk X.prog X.w _ _ _ (.dK _) from ⟨by rw [List.length_map]; exact hz, beq_eq_false_iff_ne.mpr (Ne.symm (Nat.ne_of_lt I.big)), kvs, kv, hd'⟩)
    exact ⟨.ref s.heap.objs.size, _, I2, rfl, q _ (I.hok.fresh (Nat.le_refl _))⟩
section
variable {X : Cx} {K : PySem.W.Frag} {mg : Str → Option Value} {E : XK} {own own' : List Nat} {a : Expr} {ta : TE} {fa : Ex} {p pos : Pos}
theorem df_dictP (hm : X.mg "dict" = none) (hc : X.calm = true) (ha : DU X K mg E own a ta fa) (hg : Gl X "dict" := by rfl) (he : starEach (a :: []) X.env = (false, eval a X.env) :: starEach [] X.env := by rfl) (hpl : (backTo pos (starEach [] X.env)).any (·.1) = false := by rfl) (hK : X.K = K := by rfl) :
    DF X K mg E own (.Call (.Name "dict" p) [a] [] pos) (tCB (rDictP K) (tCons ta tNil)) (un fa dDictP) := by
  subst hK
  refine ⟨pe_callTy (call_dictP hc) hg hm bt_dict (pa_cons ha.pe pa_nil he) (by decide) (by decide) he hpl, fun O H0 ρ σ H Q en w => ?_⟩
  unfold un at w
  rw [resW_bind] at w
  refine ha.ok O H0 ρ σ H _ en (w.mono (Same.refl H) fun d wd q H1 s1 nq r1 => ?_)
  obtain ⟨o, xs, ds, rfl, hq, ho, hd, r⟩ := r1
  have wd : ResW mg E H (fun d => ∀ p H', Same H H' → H p = none → OwnR X.K (Cut (Plus (AllA O own σ) p) H') H' p d → Q (.ref p) H') (ofO ((pairsI ds).bind fun l => if (l.map (·.1)).Nodup then some (.dict (l.map fun p => (.int p.1, p.2))) else none)) := wd
  cases e : pairsI ds with
  | none => rw [e] at wd; exact wd.elim
  | some l =>
    rw [e] at wd
    obtain ⟨ts, rfl, e2, hT, hr⟩ := pairs_ex _ _ _ r e
    have wd : ResW mg E H (fun d => ∀ p H', Same H H' → H p = none → OwnR X.K (Cut (Plus (AllA O own σ) p) H') H' p d → Q (.ref p) H') (ofO (if (l.map (·.1)).Nodup then some (.dict (l.map fun p => (.int p.1, p.2))) else none)) := wd
    by_cases c : (l.map (·.1)).Nodup
    · rw [if_pos c] at wd
      refine ⟨q, o, ts, rfl, hq, ho, hd, fun t m => sqT_same cut_sub (hT t m), by rw [← e2]; exact c, fun l' nl => ?_⟩
      have nl0 : H l' = none := s1.free nl
      refine wd l' _ (s1.trans (same_new nl)) nl0 (.dic upd_same (hr.mono fun b u z => ?_))
      obtain ⟨c, e⟩ := cut_some z
      have ne : b ≠ l' := ne_of_none e nl
      rw [cut_out, upd_ne ne]
      · exact e
      · rintro (z | z)
        · exact c (.inl z)
        · exact ne z
    · rw [if_neg c] at wd
      exact wd.elim
end
/-! ### defs whose result is such a tuple -/
def spU (K : PySem.W.Frag) (mg : Str → Option Value) (n : Nat) (f : List D → Res D) : Sp := fun vs H Q E => vs.length = n ∧ ∃ (O : Addr → Prop) (ds : List D), Dom O H ∧ RAll K (Cut O H) vs ds ∧
  ResW mg E H (fun d => ∀ p H', Same H H' → H p = none → TupR K (Cut (Plus O p) H') H' p d → Q (.ref p) H') (f ds)
structure DefU (P : Program) (w : World) (K : PySem.W.Frag) (mg : Str → Option Value) (base : Heap) (x : Str) (ps : List Str) (k n : Nat) (fM : List D → Res D) : Prop where
  ex : ∃ (f : Addr) (fd : FuncData), mg x = some (.ref f) ∧ PySem.W.keepIn K (.ref f) = true ∧ (∃ oc od osl, K.lookup f = some ⟨oc, od, .func fd, osl⟩) ∧ Binds K fd ps [] ∧ FnOk P w K mg base CX0 k f fd ps (spU K mg n fun ds => (fM ds).calm)
theorem DefU.df {P : Program} {w : World} {K : PySem.W.Frag} {mg : Str → Option Value} {base : Heap} {x : Str} {ps : List Str} {k n : Nat} {fM : List D → Res D} (G : DefU P w K mg base x ps k n fM) : Def P w K mg base x ps k n fM := by
  obtain ⟨f, fd, a, b, c, d, F⟩ := G.ex
  refine ⟨f, fd, a, b, c, d, F.imp fun vs H Q E h => ?_⟩
  obtain ⟨hl, O, ds, dom, r, w⟩ := h
  exact ⟨hl, O, ds, dom, r, w.mono (Same.refl H) fun d k p H' s np r => k _ H' s (tupR_R r fun z => (dom.same (Same.refl H)) p z np)⟩
def OutWU (K : PySem.W.Frag) (mg : Str → Option Value) (E : XK) (O : Addr → Prop) (H0 : Hp) (D : Ends) : Out → Prop
  | .nx _ => False
  | .rt d => ∀ p H, Same H0 H → H0 p = none → TupR K (Cut (Plus O p) H) H p d → D.rt (.ref p) H
  | .exc c => ∃ C, mg c = some (.ref C) ∧ ∀ H, Same H0 H → E (.ref C) none H
  | .bad => False
structure DSsU (X : Cx) (K : PySem.W.Frag) (mg : Str → Option Value) (E : XK) (own : List Nat) (st : List Stmt) (t : TS) (g : Gx) : Prop where
  ps : PSs X st t
  ok : ∀ (O : Addr → Prop) (H0 : Hp) (ρ : Rho) (σ : L2.St) (H : Hp) (D : Ends), EnvOk K O H0 own ρ σ H → OutWU K mg E O H0 D (g ρ) → t D σ H
  nn : ∀ ρ ρ', g ρ ≠ .nx ρ'
section
variable {X : Cx} {K : PySem.W.Frag} {mg : Str → Option Value} {E : XK} {own own' own'' : List Nat} {st : Stmt} {rest : List Stmt} {t u : TS} {g h : Gx} {e : Expr} {te : TE} {f : Ex} {pos npos : Pos} {x : Str}
theorem dssU_ret (he : DU X K mg E own e te f) : DSsU X K mg E own [.Return (some e) pos] (tRet te) (gRet f) :=
  ⟨pss_one (ps_ret he.pe), fun O H0 ρ σ H D en w => he.ok O H0 ρ σ H _ en (by
    unfold gRet at w
    cases q : f ρ with
    | ok d =>
      rw [q] at w
      exact fun p H' s np r => w p H' (en.base.trans s) (en.base.free np) (r.mono (cut_mono fun a z => z.imp .inl id))
    | exc c => rw [q] at w; obtain ⟨C, a, b⟩ := w; exact ⟨C, a, fun H' s => b H' (en.base.trans s)⟩
    | bad => rw [q] at w; exact w), ret_nn⟩
theorem dssU_cons (h1 : DS X K mg E own own' st t g) (n : NoRt g) (h2 : DSsU X K mg E own' rest u h) : DSsU X K mg E own (st :: rest) (tSeq t u) (gSeq g h) :=
  ⟨pss_cons h1.ps h2.ps, fun O H0 ρ σ H D en w => by
    refine h1.ok O H0 ρ σ H _ en ?_
    unfold gSeq at w
    cases q : g ρ with
    | nx ρ' => rw [q] at w; exact fun σ' H' e' => h2.ok O H0 ρ' σ' H' D e' w
    | rt d => exact (n ρ d q).elim
    | exc c => rw [q] at w; exact w
    | bad => rw [q] at w; exact w, fun ρ ρ' z => by
    unfold gSeq at z
    cases q : g ρ with
    | nx ρ2 => rw [q] at z; exact h2.nn ρ2 ρ' z
    | rt d => rw [q] at z; cases z
    | exc c => rw [q] at z; cases z
    | bad => rw [q] at z; cases z⟩
theorem dssU_freeze (own' : List Nat) (h : DSsU X K mg E own' rest u g) (s : ∀ i ∈ own', i ∈ own := by decide) : DSsU X K mg E own rest u g := ⟨h.ps, fun O H0 ρ σ H D e w => h.ok O H0 ρ σ H D (e.freeze s) w, h.nn⟩
end
section
variable {P : Program} {w : World} {K : PySem.W.Frag} {mg : Str → Option Value} {base : Heap}
theorem mkDefU {x : Str} {st : Stmt} {N ps : List Str} {n : Nat} (g : Gx) {fM : List D → Res D} (hM : fM = run N.length g) (k : Nat) (T : At K mg x st) (S : FnScope N ps (defScope st)) (hn : ps.length = n)
    (hbind : ∀ (kV doc pm : Value) (an : Option Addr) (cdv ct : Value) (us : List Value), us.length = ps.length → bindArgs (PySem.W.fnOf x x (defArgs st) (defBody st) (defScope st) .none kV doc pm an cdv ct) ⟨us, []⟩ = pure (ps.zip us))
    (hbody : ∀ (cdv : Value) (A : Around) (outer : List Env) (s : Shared) (H : Hp) (E : XK) (f : Addr), Room k (A.deeper (envOfC x (defScope st) s.heap.objs.size f cdv)) →
      ∃ (t : TS), DSsU (cxOf CX0 P w K mg base N x (defScope st) f cdv A outer s H E).nox K mg E0' [] (defBody st) t g) : DefU P w K mg base x ps (k + 1) n fM := by
  subst hM
  obtain ⟨f, fd, hm, F⟩ := T.ex
  refine ⟨f, fd, hm, F.kp, (let ⟨oc, od, _, _, _, _, _, _, _, osl, _, lk, _⟩ := F.ex; ⟨oc, od, osl, lk⟩), F.bindsN hbind, F.ok S (fun vs H Q E h => by rw [h.1, hn]) fun cdv A outer s H vs Q E hr h => ?_⟩
  obtain ⟨t, hb⟩ := hbody cdv A outer s H E f hr
  obtain ⟨_, O, ds, dom, r, w⟩ := h
  refine ⟨t, hb.ps.nox, hb.ok O H _ _ H _ (env_start dom r) ?_⟩
  have w := resW_calm (E' := E0') w
  unfold run at w
  cases q : g (ds.map some ++ List.replicate (N.length - ds.length) none) with
  | nx ρ => exact (hb.nn _ _ q).elim
  | rt d => rw [q] at w; exact w
  | exc c => rw [q] at w; exact w
  | bad => rw [q] at w; exact w
theorem du_fn {X : Cx} {K : PySem.W.Frag} {mg : Str → Option Value} {own : List Nat} {k n : Nat} {fM : List D → Res D} {x : Str} {ps : List Str} {p pos : Pos} {e : Expr} {es : List Expr} {t : TA} {g : Ax}
    (G : DefU X.prog X.w X.K X.mg X.base x ps k n fM) (hr : Room k X.A) (ha : DA X K mg E0' own (e :: es) t g) (hg : Gl X x := by rfl) (hdb : (x == ("__debug__" : Str)) = false := by decide) (he : starEach (e :: es) X.env = (false, eval e X.env) :: starEach es X.env := by rfl) (hpl : (backTo pos (starEach es X.env)).any (·.1) = false := by rfl) (hK : X.K = K := by rfl) (hmg : X.mg = mg := by rfl) :
    DU X K mg E0' own (.Call (.Name x p) (e :: es) [] pos) (tCall (spU K mg n fun ds => (fM ds).calm) [] E0' t) (callD n fM g) := by
  subst hK hmg
  obtain ⟨f, fd, hm, hk, _, hb, F⟩ := G.ex
  refine ⟨pe_call F hr hg hm hk hb .nil pass0 ha.pa hdb he hpl, fun O H0 ρ σ H Q en w => ?_⟩
  unfold callD at w
  rw [resW_bind] at w
  refine ha.ok O H0 ρ σ H _ en (w.mono (Same.refl H) fun ds wd vs H1 s1 r1 => ?_)
  by_cases c : ds.length = n
  · rw [if_pos c] at wd
    rw [List.append_nil]
    have wd' : ResW X.mg E0' H (fun d => ∀ p H', Same H H' → H p = none → TupR X.K (Cut (Plus (AllA O own σ) p) H') H' p d → Q (.ref p) H') ((fM ds).calm) := by
      cases q : fM ds with
      | ok d => rw [q] at wd; exact wd
      | exc c => rw [q] at wd; obtain ⟨_, _, z⟩ := wd; exact (z H (Same.refl H)).elim
      | bad => rw [q] at wd; exact wd
    exact ⟨by rw [r1.length, c], AllA O own σ, ds, en.domA.same s1, r1, wd'.mono s1 fun d k p H' s np r => k p H' (s1.trans s) (s1.free np) r⟩
  · rw [if_neg c] at wd; exact wd.elim
end
end DL
end

section
set_option Elab.async false
set_option linter.all false
set_option maxRecDepth 100000
set_option maxHeartbeats 2000000
set_option autoImplicit false
/-! DL18: texts: str(int), int(text), join, split, partition, find. -/
namespace DL
open PySem PySem.Spec PyProof.Rows L2

/-! ### a method of a text, with one thing handed in -/
def binS (fo fe : Ex) (op : Str → D → Option D) : Ex := fun ρ => (fo ρ).bind fun a => match a with
  | .str x => (fe ρ).bind fun b => ofO (op x b)
  | _ => .bad
def OpM (K : PySem.W.Frag) (r : V → List V → Hp → VK → Prop) (op : Str → D → Option D) : Prop :=
  ∀ (A : Addr → Prop) (H : Hp) (x : Str) (y : V) (b : D) (Q : VK), Dom A H → CRep K (Cut A H) H y b → OkW (fun d => ∀ v H', Same H H' → R K (Cut A H') v d → Q v H') (op x b) → r (.str x) [y] H Q
/-- .. that makes a new list -/
def OpMF (K : PySem.W.Frag) (r : V → List V → Hp → VK → Prop) (op : Str → D → Option D) : Prop :=
  ∀ (A : Addr → Prop) (H : Hp) (x : Str) (y : V) (b : D) (Q : VK), Dom A H → CRep K (Cut A H) H y b → OkW (fun d => ∀ p H', Same H H' → H p = none → OwnR K (Cut (Plus A p) H') H' p d → Q (.ref p) H') (op x b) → r (.str x) [y] H Q
section
variable {X : Cx} {K : PySem.W.Frag} {mg : Str → Option Value} {E : XK} {own : List Nat} {o e : Expr} {to te : TE} {fo fe : Ex} {op : Str → D → Option D} {r : V → List V → Hp → VK → Prop}
theorem te_m1 {K : PySem.W.Frag} {mg : Str → Option Value} (hr : OpM K r op) (ho : TEok K mg E own to fo) (he : TCok K mg E own te fe) : TEok K mg E own (tM1 r to te) (binS fo fe op) := fun O H0 ρ σ H Q en w => by
  unfold binS at w
  rw [resW_bind] at w
  refine ho O H0 ρ σ H _ en (w.mono (Same.refl H) fun a wa v1 H1 s1 r1 => ?_)
  cases a <;> first | exact wa.elim | skip
  rename_i x
  rw [r1.str_of]
  refine ⟨⟨_, rfl⟩, ?_⟩
  have wa : ResW mg E H _ ((fe ρ).bind fun b => ofO (op x b)) := wa
  rw [resW_bind] at wa
  refine he O H0 ρ σ H1 _ (en.mono s1) (wa.mono s1 fun b wb v2 H2 s2 r2 => ?_)
  exact hr _ H2 x v2 b Q (en.domA.same (s1.trans s2)) r2 ((okW_of wb).mono fun d k v H' s r => k v H' ((s1.trans s2).trans s) r)
theorem tf_m1 {K : PySem.W.Frag} {mg : Str → Option Value} (hr : OpMF K r op) (ho : TEok K mg E own to fo) (he : TCok K mg E own te fe) : TFok K mg E own (tM1 r to te) (binS fo fe op) := fun O H0 ρ σ H Q en w => by
  unfold binS at w
  rw [resW_bind] at w
  refine ho O H0 ρ σ H _ en (w.mono (Same.refl H) fun a wa v1 H1 s1 r1 => ?_)
  cases a <;> first | exact wa.elim | skip
  rename_i x
  rw [r1.str_of]
  refine ⟨⟨_, rfl⟩, ?_⟩
  have wa : ResW mg E H _ ((fe ρ).bind fun b => ofO (op x b)) := wa
  rw [resW_bind] at wa
  refine he O H0 ρ σ H1 _ (en.mono s1) (wa.mono s1 fun b wb v2 H2 s2 r2 => ?_)
  exact hr _ H2 x v2 b Q (en.domA.same (s1.trans s2)) r2 ((okW_of wb).mono fun d k p H' s np r => k p H' ((s1.trans s2).trans s) ((s1.trans s2).free np) r)
end

/-! ### join -/
def allS : List D → Option (List Str)
  | [] => some []
  | .str x :: r => (allS r).map (x :: ·)
  | _ => none
theorem allS_map (xs : List Str) : allS (xs.map .str) = some xs := by
  induction xs with
  | nil => rfl
  | cons b r ih => show (allS (r.map .str)).map (b :: ·) = _; rw [ih]; rfl
theorem allS_eq : ∀ {ds : List D} {xs : List Str}, allS ds = some xs → ds = xs.map .str
  | [], xs, h => by cases h; rfl
  | d :: ds, xs, h => by
    cases d <;> first | cases h | skip
    rename_i x
    obtain ⟨ys, e, rfl⟩ := Option.map_eq_some_iff.mp (show (allS ds).map (x :: ·) = some xs from h)
    rw [List.map_cons, allS_eq e]
theorem RAll.strs {K : PySem.W.Frag} {H : Hp} : ∀ {vs : List V} {xs : List Str}, RAll K H vs (xs.map .str) → vs = xs.map .str := by
  intro vs
  induction vs with
  | nil => intro xs h; cases xs with
    | nil => rfl
    | cons x xs => cases h
  | cons v vs ih => intro xs h; cases xs with
    | nil => cases h
    | cons x xs => cases h with | cons a b => rw [a.str_of, ih b]; rfl
def joinFits (x : Str) (ys : List Str) : Bool := decide ((ys.map (·.length)).sum + ys.length * x.length ≤ 16777216)
def dJoin (x : Str) : D → Option D
  | .list ds => (allS ds).bind fun ys => if joinFits x ys = true then some (.str (Txt.join x ys)) else none
  | .tuple ds => (allS ds).bind fun ys => if joinFits x ys = true then some (.str (Txt.join x ys)) else none
  | _ => none
def rJoin (K : PySem.W.Frag) : V → List V → Hp → VK → Prop := fun x xs H Q => ∃ a p, ∃ ys : List Str, x = .str a ∧ xs = [.ref p] ∧ (SqL K H p (ys.map V.str) ∨ SqT K H p (ys.map V.str)) ∧
      (ys.map (·.length)).sum + ys.length * a.length ≤ 16777216 ∧ Q (.str (Txt.join a ys)) H
theorem om_join {K : PySem.W.Frag} : OpM K (rJoin K) dJoin := by
  intro A H x y b Q dom rb w
  unfold dJoin at w
  split at w
  · obtain ⟨d, e, w2⟩ := OkW.of_some w
    obtain ⟨ys, e1, e2⟩ := Option.bind_eq_some_iff.mp e
    by_cases c : joinFits x ys = true
    · rw [if_pos c] at e2
      cases e2
      obtain ⟨p, vs, rfl, q, r⟩ := rb.list_of cut_sub
      rw [allS_eq e1] at r
      rw [r.strs] at q
      exact ⟨x, p, ys, rfl, rfl, .inl (.of q), of_decide_eq_true c, w2 _ H (Same.refl H) (.str _)⟩
    · rw [if_neg c] at e2; cases e2
  · obtain ⟨d, e, w2⟩ := OkW.of_some w
    obtain ⟨ys, e1, e2⟩ := Option.bind_eq_some_iff.mp e
    by_cases c : joinFits x ys = true
    · rw [if_pos c] at e2
      cases e2
      obtain ⟨p, vs, rfl, q, r⟩ := rb.tuple_of cut_sub
      rw [allS_eq e1] at r
      rw [r.strs] at q
      exact ⟨x, p, ys, rfl, rfl, .inr q, of_decide_eq_true c, w2 _ H (Same.refl H) (.str _)⟩
    · rw [if_neg c] at e2; cases e2
  · exact w.elim

/-! ### split -/
def dSplit (x : Str) : D → Option D
  | .str b => if (b.length == 0) = false ∧ x.length + 2 ≤ sizeLine then some (.list ((Txt.split x b).map .str)) else none
  | _ => none
def rSplit : V → List V → Hp → VK → Prop := fun x xs H Q => ∃ a b, x = .str a ∧ xs = [.str b] ∧ (b.length == 0) = false ∧ a.length + 2 ≤ sizeLine ∧ rNewStrs (Txt.split a b) H Q
theorem RAll_strs {K : PySem.W.Frag} {H : Hp} : ∀ xs : List Str, RAll K H (xs.map V.str) (xs.map PyData.str)
  | [] => .nil
  | x :: r => .cons (.str x) (RAll_strs r)
theorem om_split {K : PySem.W.Frag} : OpMF K rSplit dSplit := by
  intro A H x y b Q dom rb w
  unfold dSplit at w
  split at w
  · obtain ⟨c, w⟩ := okW_if w
    rw [rb.str_of]
    exact ⟨x, _, rfl, rfl, c.1, c.2, fun p np => w p _ (same_new np) np (.lst upd_same (RAll_strs _))⟩
  · exact w.elim

/-! ### partition -/
def dPart (x : Str) : D → Option D
  | .str b => if (b.length == 0) = false ∧ x.length ≤ sizeLine then some (.tuple [.str (Txt.partition x b).1, .str (Txt.partition x b).2.1, .str (Txt.partition x b).2.2]) else none
  | _ => none
def rPart : V → List V → Hp → VK → Prop := fun x xs H Q => ∃ a b, x = .str a ∧ xs = [.str b] ∧ (b.length == 0) = false ∧ a.length ≤ sizeLine ∧
      ∀ p, H p = none → Q (.ref p) (upd H p (.tup [.str (Txt.partition a b).1, .str (Txt.partition a b).2.1, .str (Txt.partition a b).2.2]))
theorem om_part {K : PySem.W.Frag} : OpM K rPart dPart := by
  intro A H x y b Q dom rb w
  unfold dPart at w
  split at w
  · obtain ⟨c, w⟩ := okW_if w
    rw [rb.str_of]
    exact ⟨x, _, rfl, rfl, c.1, c.2, fun p np => w (.ref p) _ (same_new np) (.tup (.inl (.inl (cut_new (dom.new np)))) (.cons (.str _) (.cons (.str _) (.cons (.str _) .nil))))⟩
  · exact w.elim

/-! ### find -/
def dFind (x : Str) : D → Option D
  | .str b => some (.int (Txt.find x b))
  | _ => none
def rFind : V → List V → Hp → VK → Prop := fun x xs H Q => ∃ a b, x = .str a ∧ xs = [.str b] ∧ Q (.int (Txt.find a b)) H
theorem om_find {K : PySem.W.Frag} : OpM K rFind dFind := by
  intro A H x y b Q dom rb w
  unfold dFind at w
  split at w
  · rw [rb.str_of]
    exact ⟨x, _, rfl, rfl, w _ H (Same.refl H) (.int _)⟩
  · exact w.elim

/-! ### str(int), int(text) -/
def dStr : D → Option D
  | .int i => if i.natAbs.log2 < 1920 then some (.str (toString i)) else none
  | _ => none
theorem cc_str {K : PySem.W.Frag} : CallC K (fun xs H Q => ∃ i, xs = [.int i] ∧ i.natAbs.log2 < 1920 ∧ Q (.str (toString i)) H) dStr := by
  intro A H x a Q dom ra w
  unfold dStr at w
  split at w
  · obtain ⟨c, w⟩ := okW_if w
    rw [ra.int_of]
    exact ⟨_, rfl, c, w _ H (Same.refl H) (.str _)⟩
  · exact w.elim
def dIntT : D → Option D
  | .str a => (PySem.intText? a).bind fun n => if a.length ≤ 640 then some (.int n) else none
  | _ => none
theorem cc_intT {K : PySem.W.Frag} : CallC K (fun xs H Q => ∃ a n, xs = [.str a] ∧ PySem.intText? a = some n ∧ a.length ≤ 640 ∧ Q (.int n) H) dIntT := by
  intro A H x a Q dom ra w
  unfold dIntT at w
  split at w
  · obtain ⟨d, e, w2⟩ := OkW.of_some w
    obtain ⟨n, e1, e2⟩ := Option.bind_eq_some_iff.mp e
    split at e2
    · rename_i c
      cases e2
      rw [ra.str_of]
      exact ⟨_, n, rfl, e1, c, w2 _ H (Same.refl H) (.int _)⟩
    · cases e2
  · exact w.elim

section
variable {X : Cx} {K : PySem.W.Frag} {mg : Str → Option Value} {E : XK} {own : List Nat} {a o e : Expr} {ta to te : TE} {fa fo fe : Ex} {p pos apos : Pos}
theorem de_strOf (hm : X.mg "str" = none) (ha : DC X K mg E own a ta fa) (hg : Gl X "str" := by rfl) (he : starEach (a :: []) X.env = (false, eval a X.env) :: starEach [] X.env := by rfl) (hpl : (backTo pos (starEach [] X.env)).any (·.1) = false := by rfl) :
    DE X K mg E own (.Call (.Name "str" p) [a] [] pos) (tCB (fun xs H Q => ∃ i, xs = [.int i] ∧ i.natAbs.log2 < 1920 ∧ Q (.str (toString i)) H) (tCons ta tNil)) (un fa dStr) := de_callT1 call_str_int cc_str hg hm bt_str ha (by decide) (by decide) he hpl
theorem de_intT (hm : X.mg "int" = none) (ha : DC X K mg E own a ta fa) (hg : Gl X "int" := by rfl) (he : starEach (a :: []) X.env = (false, eval a X.env) :: starEach [] X.env := by rfl) (hpl : (backTo pos (starEach [] X.env)).any (·.1) = false := by rfl) :
    DE X K mg E own (.Call (.Name "int" p) [a] [] pos) (tCB (fun xs H Q => ∃ a n, xs = [.str a] ∧ PySem.intText? a = some n ∧ a.length ≤ 640 ∧ Q (.int n) H) (tCons ta tNil)) (un fa dIntT) := de_callT1 call_int_str cc_intT hg hm bt_int ha (by decide) (by decide) he hpl
theorem de_join (ho : DE X K mg E own o to fo) (he : DC X K mg E own e te fe) (hs : starEach [e] X.env = [(false, eval e X.env)] := by rfl) (hbase : attributeBase o "join" X.env (eval o X.env) = eval o X.env := by rfl) (hline : (apos.endLine == pos.line) = true := by rfl) (hK : X.K = K := by rfl) :
    DE X K mg E own (.Call (.Attribute o "join" apos) [e] [] pos) (tM1 (rJoin K) to te) (binS fo fe dJoin) := by
  subst hK
  exact ⟨pe_join ho.pe he.pe hs hbase hline, te_m1 om_join ho.ok he.ok⟩
theorem df_split (ho : DE X K mg E own o to fo) (he : DC X K mg E own e te fe) (hs : starEach [e] X.env = [(false, eval e X.env)] := by rfl) (hbase : attributeBase o "split" X.env (eval o X.env) = eval o X.env := by rfl) (hline : (apos.endLine == pos.line) = true := by rfl) :
    DF X K mg E own (.Call (.Attribute o "split" apos) [e] [] pos) (tM1 rSplit to te) (binS fo fe dSplit) := ⟨pe_split ho.pe he.pe hs hbase hline, tf_m1 om_split ho.ok he.ok⟩
theorem de_part (ho : DE X K mg E own o to fo) (he : DC X K mg E own e te fe) (hs : starEach [e] X.env = [(false, eval e X.env)] := by rfl) (hbase : attributeBase o "partition" X.env (eval o X.env) = eval o X.env := by rfl) (hline : (apos.endLine == pos.line) = true := by rfl) :
    DE X K mg E own (.Call (.Attribute o "partition" apos) [e] [] pos) (tM1 rPart to te) (binS fo fe dPart) := ⟨pe_partition ho.pe he.pe hs hbase hline, te_m1 om_part ho.ok he.ok⟩
theorem de_find (ho : DE X K mg E own o to fo) (he : DC X K mg E own e te fe) (hs : starEach [e] X.env = [(false, eval e X.env)] := by rfl) (hbase : attributeBase o "find" X.env (eval o X.env) = eval o X.env := by rfl) (hline : (apos.endLine == pos.line) = true := by rfl) :
    DE X K mg E own (.Call (.Attribute o "find" apos) [e] [] pos) (tM1 rFind to te) (binS fo fe dFind) := ⟨pe_m1 F.slot_str_find F.type_str_find mt_find ho.pe he.pe hs hbase hline, te_m1 om_find ho.ok he.ok⟩
end
end DL
end

section
set_option Elab.async false
set_option linter.all false
set_option maxRecDepth 100000
set_option maxHeartbeats 2000000
set_option autoImplicit false
/-! DL19: own things lent to a call; an own thing under another name; a def whose result is a new tuple, its second part new too. -/
namespace DL
open PySem PySem.Spec PyProof.Rows L2

/-! ### data without lists, dicts -/
mutual
def dryB : D → Bool
  | .none => true
  | .bool _ => true
  | .int _ => true
  | .str _ => true
  | .tuple ds => dryA ds
  | .list _ => false
  | .dict _ => false
def dryA : List D → Bool
  | [] => true
  | d :: ds => dryB d && dryA ds
end
/-- .. a new list of such -/
def dryL : D → Bool
  | .list ds => dryA ds
  | _ => false
def LstDic (H : Hp) (B : Addr → Prop) : Prop := ∀ a, B a → (∃ vs, H a = some (.lst vs)) ∨ ∃ kvs, H a = some (.dK kvs)
section
variable {K : PySem.W.Frag} {A B : Addr → Prop} {H : Hp}
theorem dry_cut (hB : LstDic H B) {a : Addr} {o : HO} (h : Cut A H a = some o) (h1 : ∀ vs, o ≠ .lst vs) (h2 : ∀ kvs, o ≠ .dK kvs) : Cut (fun a => A a ∨ B a) H a = some o := by
  obtain ⟨c, e⟩ := cut_some h
  rw [cut_out]
  · exact e
  · rintro (z | z)
    · exact c z
    · rcases hB a z with ⟨vs, q⟩ | ⟨kvs, q⟩
      · rw [e] at q; exact h1 vs (Option.some.inj q)
      · rw [e] at q; exact h2 kvs (Option.some.inj q)
mutual
theorem R.dry (hB : LstDic H B) : ∀ {v : V} {d : D}, R K (Cut A H) v d → dryB d = true → R K (Cut (fun a => A a ∨ B a) H) v d
  | _, _, .non, _ => .non
  | _, _, .bl b, _ => .bl b
  | _, _, .int i, _ => .int i
  | _, _, .str x, _ => .str x
  | _, _, .lst h r, c => by simp [dryB] at c
  | _, _, .scr h, c => by simp [dryB] at c
  | _, _, .tup h r, c => .tup (by
      rcases h with (h | ⟨o, h⟩) | h
      · exact .inl (.inl (dry_cut hB h (fun _ z => by cases z) (fun _ z => by cases z)))
      · exact .inl (.inr ⟨o, dry_cut hB h (fun _ z => by cases z) (fun _ z => by cases z)⟩)
      · exact .inr h) (RAll.dry hB r (by simpa [dryB] using c))
  | _, _, .dic h r, c => by simp [dryB] at c
  | _, _, .fdic h r, c => by simp [dryB] at c
theorem RAll.dry (hB : LstDic H B) : ∀ {vs : List V} {ds : List D}, RAll K (Cut A H) vs ds → dryA ds = true → RAll K (Cut (fun a => A a ∨ B a) H) vs ds
  | _, _, .nil, _ => .nil
  | _, _, .cons h r, c => by
    simp only [dryA, Bool.and_eq_true] at c
    exact .cons (R.dry hB h c.1) (RAll.dry hB r c.2)
end
end

/-! ### own lists, dicts lent -/
def allIn (l : List Nat) (ρ : Rho) : Bool := l.all fun i => match ρ[i]? with
  | some (some _) => true
  | _ => false
def lendE (l : List Nat) (f : Ex) : Ex := fun ρ => if allIn l ρ = true then (f ρ).bind fun d => if dryL d = true then .ok d else .bad else .bad
section
variable {X : Cx} {K : PySem.W.Frag} {mg : Str → Option Value} {E : XK} {own : List Nat} {e : Expr} {t : TE} {f : Ex}
theorem lent_lstDic {O : Addr → Prop} {H0 H : Hp} {ρ : Rho} {σ : L2.St} (en : EnvOk K O H0 own ρ σ H) {l : List Nat} (hl : ∀ i ∈ l, i ∈ own) (h : allIn l ρ = true) : LstDic H (OwnA l σ) := by
  rintro a ⟨i, m, q⟩
  have hi := List.all_eq_true.mp h i m
  cases r : ρ[i]? with
  | none => rw [r] at hi; cases hi
  | some o =>
    cases o with
    | none => rw [r] at hi; cases hi
    | some d =>
      obtain ⟨b, hb, w⟩ := en.ow i d (hl i m) r
      rw [q] at hb
      cases hb
      cases w with
      | lst x _ => exact .inl ⟨_, x⟩
      | dic x _ => exact .inr ⟨_, x⟩
theorem lstDic_mono {H H' : Hp} {B : Addr → Prop} (h : LstDic H B) (s : Same H H') : LstDic H' B := fun a z => (h a z).imp (fun ⟨vs, q⟩ => ⟨vs, s _ _ q⟩) fun ⟨kvs, q⟩ => ⟨kvs, s _ _ q⟩
theorem df_lend (own1 l : List Nat) (h : DF X K mg E own1 e t f) (s : ∀ i ∈ own1, i ∈ own := by decide) (hl : ∀ i ∈ l, i ∈ own := by decide) (hc : ∀ i ∈ own, i ∈ own1 ∨ i ∈ l := by decide) : DF X K mg E own e t (lendE l f) :=
  ⟨h.pe, fun O H0 ρ σ H Q en w => by
    unfold lendE at w
    by_cases c : allIn l ρ = true
    case neg => rw [if_neg c] at w; exact w.elim
    rw [if_pos c, resW_bind] at w
    have ld := lent_lstDic en hl c
    refine h.ok O H0 ρ σ H Q (en.freeze s) (w.mono (Same.refl H) fun d wd p H' s' np r => ?_)
    by_cases cd : dryL d = true
    case neg => rw [if_neg cd] at wd; exact wd.elim
    rw [if_pos cd] at wd
    cases r with
    | dic x y => simp [dryL] at cd
    | lst x y =>
      refine wd p H' s' np (.lst x ((RAll.dry (B := OwnA l σ) (lstDic_mono ld s') y cd).mono (cut_mono fun a z => ?_)))
      rcases z with z | z
      · rcases z with z | ⟨i, m, q⟩
        · exact .inl (.inl (.inl z))
        · rcases hc i m with m | m
          · exact .inl (.inl (.inr ⟨i, m, q⟩))
          · exact .inr ⟨i, m, q⟩
      · exact .inl (.inr z)⟩
theorem dt_lend (own1 : List Nat) {tt : TT} {ft : Tx} (h : DT X K mg E own1 e tt ft) (s : ∀ i ∈ own1, i ∈ own := by decide) : DT X K mg E own e tt ft :=
  ⟨h.pt, fun O H0 ρ σ H Q en w => h.ok O H0 ρ σ H Q (en.freeze s) w⟩
end

/-! ### y = x, x own and read no more -/
def gMove (i j : Nat) : Gx := fun ρ => match ρ[j]? with
  | some (some d) => .nx ((ρ.set i (some d)).set j none)
  | _ => .bad
theorem nrt_move {i j : Nat} : NoRt (gMove i j) := fun ρ d z => by
  unfold gMove at z
  split at z <;> cases z
theorem EnvOk.move {K : PySem.W.Frag} {O : Addr → Prop} {H0 H : Hp} {own own' : List Nat} {ρ : Rho} {σ : L2.St} (e : EnvOk K O H0 own ρ σ H) {i j : Nat} {d : D} {a : Addr} (hj : j ∈ own) (hi : i ∉ own) (hi' : i ∈ own') (hj' : j ∉ own')
    (h1 : ∀ k ∈ own', k = i ∨ k ∈ own) (h2 : ∀ k ∈ own, k = j ∨ k ∈ own') (hd : ρ[j]? = some (some d)) (ha : σ[j]? = some (some (.ref a))) :
    EnvOk K O H0 own' ((ρ.set i (some d)).set j none) (σ.set i (some (.ref a))) H := by
  have ij : i ≠ j := fun z => hi (z ▸ hj)
  have sub : ∀ {b : Addr}, OwnA own' (σ.set i (some (.ref a))) b → OwnA own σ b := fun {b} ⟨k, m, q⟩ => by
    by_cases c : i = k
    · subst c
      by_cases l : i < σ.length
      · rw [List.getElem?_set_self l] at q
        cases q
        exact ⟨j, hj, ha⟩
      · rw [List.getElem?_eq_none (by rw [List.length_set]; omega)] at q; cases q
    · rw [List.getElem?_set_ne c] at q
      rcases h1 k m with z | z
      · exact (c z.symm).elim
      · exact ⟨k, z, q⟩
  have mo : Same (Cut (AllA O own σ) H) (Cut (AllA O own' (σ.set i (some (.ref a)))) H) := cut_mono fun b z => z.imp id sub
  refine ⟨by rw [List.length_set, List.length_set, List.length_set]; exact e.len, e.base, e.dom, fun b z => e.new b (sub z), fun b z => e.live b (sub z), fun k m b hk hm q q' => ?_, fun k d' hk q => ?_, fun k d' hk q => ?_⟩
  · by_cases c : i = k
    · by_cases c' : i = m
      · exact c.symm.trans c'
      · exfalso
        subst c
        rw [List.getElem?_set_ne c'] at q'
        have l : i < σ.length := by
          by_cases l : i < σ.length
          · exact l
          · rw [List.getElem?_eq_none (by rw [List.length_set]; omega)] at q; cases q
        rw [List.getElem?_set_self l] at q
        cases q
        have mo2 : m ∈ own := (h1 m hm).resolve_left fun z => c' z.symm
        have : m = j := e.inj m j _ mo2 hj q' ha
        exact hj' (this ▸ hm)
    · by_cases c' : i = m
      · exfalso
        subst c'
        rw [List.getElem?_set_ne c] at q
        have l : i < σ.length := by
          by_cases l : i < σ.length
          · exact l
          · rw [List.getElem?_eq_none (by rw [List.length_set]; omega)] at q'; cases q'
        rw [List.getElem?_set_self l] at q'
        cases q'
        have mo2 : k ∈ own := (h1 k hk).resolve_left fun z => c z.symm
        have : k = j := e.inj k j _ mo2 hj q ha
        exact hj' (this ▸ hk)
      · rw [List.getElem?_set_ne c] at q
        rw [List.getElem?_set_ne c'] at q'
        exact e.inj k m b ((h1 k hk).resolve_left fun z => c z.symm) ((h1 m hm).resolve_left fun z => c' z.symm) q q'
  · have ki : i ≠ k := fun z => hk (z ▸ hi')
    have kj : j ≠ k := fun z => by
      subst z
      by_cases l : j < (ρ.set i (some d)).length
      · rw [List.getElem?_set_self l] at q; cases q
      · rw [List.getElem?_eq_none (by rw [List.length_set]; omega)] at q; cases q
    rw [List.getElem?_set_ne kj, List.getElem?_set_ne ki] at q
    have ko : k ∉ own := fun z => (h2 k z).elim (fun z => kj z.symm) hk
    obtain ⟨v, x, y⟩ := e.sh k d' ko q
    exact ⟨v, by rw [List.getElem?_set_ne ki]; exact x, y.mono mo⟩
  · have kj : j ≠ k := fun z => hj' (z ▸ hk)
    rw [List.getElem?_set_ne kj] at q
    by_cases c : i = k
    · subst c
      have l : i < ρ.length := by
        by_cases l : i < ρ.length
        · exact l
        · rw [List.getElem?_eq_none (by rw [List.length_set]; omega)] at q; cases q
      rw [List.getElem?_set_self l] at q
      cases q
      obtain ⟨b, x, y⟩ := e.ow j _ hj hd
      rw [ha] at x
      cases x
      refine ⟨a, List.getElem?_set_self (by rw [e.len]; exact l), ?_⟩
      cases y with
      | lst x z => exact .lst x (z.mono mo)
      | dic x z => exact .dic x (z.mono mo)
    · rw [List.getElem?_set_ne c] at q
      obtain ⟨b, x, y⟩ := e.ow k d' ((h1 k hk).resolve_left fun z => c z.symm) q
      refine ⟨b, by rw [List.getElem?_set_ne c]; exact x, ?_⟩
      cases y with
      | lst x z => exact .lst x (z.mono mo)
      | dic x z => exact .dic x (z.mono mo)
section
variable {X : Cx} {K : PySem.W.Frag} {mg : Str → Option Value} {E : XK} {own own' : List Nat} {pos npos : Pos}
theorem ds_move (i j : Nat) (own' : List Nat) {x y : Str} {pos' : Pos} (hN : X.N.Nodup) (hj : j ∈ own := by decide) (hi' : i ∉ own := by decide) (hi2 : i ∈ own' := by decide) (hj2 : j ∉ own' := by decide) (h1 : ∀ k ∈ own', k = i ∨ k ∈ own := by decide) (h2 : ∀ k ∈ own, k = j ∨ k ∈ own' := by decide)
    (hi : X.N[i]? = some x := by rfl) (hx : Loc X.env.scope x := by first | exact Or.inl rfl | exact Or.inr rfl)
    (hs : swapsWith (.Name y npos) (some (.Name x pos')) pos.line X.env = pure false := by rfl) (hf : X.fn x = true ∨ X.env.scope.names.lookup x = some .local := by first | exact .inl rfl | exact .inr rfl | assumption)
    (hNj : X.N[j]? = some y := by rfl) (hv : Vis X.env.scope y := by first | exact Or.inl rfl | exact Or.inr (Or.inl rfl) | exact Or.inr (Or.inr rfl)) (hd : (y == ("__debug__" : Str)) = false := by decide)
    (hcd : (y == ("__classdict__" : Str)) = false := by decide) :
    DS X K mg E own own' (.Assign [.Name x pos'] (.Name y npos) pos) (tAsg (tVar j) (gName i)) (gMove i j) :=
  ⟨ps_set hN hi hx (pe_var hNj hv hd hcd) hs hf, fun O H0 ρ σ H D en w => by
    unfold gMove at w
    split at w
    · rename_i d q
      obtain ⟨a, hσ, _⟩ := en.ow j d hj q
      exact ⟨.ref a, hσ, w _ H (en.move hj hi' hi2 hj2 h1 h2 q hσ)⟩
    · exact w.elim⟩
end

/-! ### defs whose result is a new tuple of two, the second new too -/
def TupT (K : PySem.W.Frag) (O : Addr → Prop) (H0 H : Hp) (v : V) (d : D) : Prop := ∃ (t : Addr) (x : V) (p : Addr) (d1 d2 : D), v = .ref t ∧ d = .tuple [d1, d2] ∧ ¬ O t ∧ H t = some (.tup [x, .ref p]) ∧ H0 p = none ∧ R K (Cut (Plus O p) H) x d1 ∧ OwnR K (Cut (Plus O p) H) H p d2
theorem TupT.r {K : PySem.W.Frag} {O : Addr → Prop} {H0 H : Hp} {v : V} {d : D} (dom : Dom O H0) (h : TupT K O H0 H v d) : R K (Cut O H) v d := by
  obtain ⟨t, x, p, d1, d2, rfl, rfl, nt, ht, np, r1, r2⟩ := h
  exact .tup (.inl (.inl (by rw [cut_out nt]; exact ht))) (.cons (r1.mono plus_sub) (.cons (ownR_R r2 (dom.new np)) .nil))
def spT (K : PySem.W.Frag) (mg : Str → Option Value) (n : Nat) (f : List D → Res D) : Sp := fun vs H Q E => vs.length = n ∧ ∃ (O : Addr → Prop) (ds : List D), Dom O H ∧ RAll K (Cut O H) vs ds ∧
  ResW mg E H (fun d => ∀ v H', Same H H' → TupT K O H H' v d → Q v H') (f ds)
structure DefT (P : Program) (w : World) (K : PySem.W.Frag) (mg : Str → Option Value) (base : Heap) (x : Str) (ps : List Str) (k n : Nat) (fM : List D → Res D) : Prop where
  ex : ∃ (f : Addr) (fd : FuncData), mg x = some (.ref f) ∧ PySem.W.keepIn K (.ref f) = true ∧ (∃ oc od osl, K.lookup f = some ⟨oc, od, .func fd, osl⟩) ∧ Binds K fd ps [] ∧ FnOk P w K mg base CX0 k f fd ps (spT K mg n fun ds => (fM ds).calm)
theorem DefT.df {P : Program} {w : World} {K : PySem.W.Frag} {mg : Str → Option Value} {base : Heap} {x : Str} {ps : List Str} {k n : Nat} {fM : List D → Res D} (G : DefT P w K mg base x ps k n fM) : Def P w K mg base x ps k n fM := by
  obtain ⟨f, fd, a, b, c, d, F⟩ := G.ex
  refine ⟨f, fd, a, b, c, d, F.imp fun vs H Q E h => ?_⟩
  obtain ⟨hl, O, ds, dom, r, w⟩ := h
  exact ⟨hl, O, ds, dom, r, w.mono (Same.refl H) fun d k v H' s r => k v H' s (r.r dom)⟩
def OutWT (K : PySem.W.Frag) (mg : Str → Option Value) (E : XK) (O : Addr → Prop) (H0 : Hp) (D : Ends) : Out → Prop
  | .nx _ => False
  | .rt d => ∀ v H, Same H0 H → TupT K O H0 H v d → D.rt v H
  | .exc c => ∃ C, mg c = some (.ref C) ∧ ∀ H, Same H0 H → E (.ref C) none H
  | .bad => False
structure DSsT (X : Cx) (K : PySem.W.Frag) (mg : Str → Option Value) (E : XK) (own : List Nat) (st : List Stmt) (t : TS) (g : Gx) : Prop where
  ps : PSs X st t
  ok : ∀ (O : Addr → Prop) (H0 : Hp) (ρ : Rho) (σ : L2.St) (H : Hp) (D : Ends), EnvOk K O H0 own ρ σ H → OutWT K mg E O H0 D (g ρ) → t D σ H
  nn : ∀ ρ ρ', g ρ ≠ .nx ρ'
section
variable {X : Cx} {K : PySem.W.Frag} {mg : Str → Option Value} {E : XK} {own own' own'' : List Nat} {st : Stmt} {rest : List Stmt} {t u : TS} {g h : Gx} {e : Expr} {te : TE} {f : Ex} {pos p1 p2 tpos : Pos} {x y : Str}
theorem rd_some {i : Nat} {ρ : Rho} {d : D} (h : rd i ρ = .ok d) : ρ[i]? = some (some d) := by
  unfold rd at h
  split at h
  · rename_i q; cases h; exact q
  · cases h
theorem dssT_ret (i j : Nat) {k1 : Nat} (hi : i ∉ own := by decide) (hj : j ∈ own := by decide) (hNi : X.N[i]? = some x := by rfl) (hNj : X.N[j]? = some y := by rfl)
    (hvi : Vis X.env.scope x := by first | exact Or.inl rfl | exact Or.inr (Or.inl rfl) | exact Or.inr (Or.inr rfl)) (hvj : Vis X.env.scope y := by first | exact Or.inl rfl | exact Or.inr (Or.inl rfl) | exact Or.inr (Or.inr rfl))
    (hdi : (x == ("__debug__" : Str)) = false := by decide) (hdj : (y == ("__debug__" : Str)) = false := by decide) (hci : (x == ("__classdict__" : Str)) = false := by decide) (hcj : (y == ("__classdict__" : Str)) = false := by decide)
    (hs1 : starEach [.Name x p1, .Name y p2] X.env = (false, eval (.Name x p1) X.env) :: starEach [.Name y p2] X.env := by rfl) (hs2 : starEach [.Name y p2] X.env = (false, eval (.Name y p2) X.env) :: starEach [] X.env := by rfl) :
    DSsT X K mg E own [.Return (some (.Tuple [.Name x p1, .Name y p2] k1 tpos)) pos] (tRet (tTup (tCons (tVar i) (tCons (tVar j) tNil)))) (gRet (mkTup (aCons (rd i) (aCons (rd j) aNil)))) :=
  ⟨pss_one (ps_ret (pe_tup (pa_cons (pe_var hNi hvi hdi hci) (pa_cons (pe_var hNj hvj hdj hcj) pa_nil hs2) hs1))), fun O H0 ρ σ H D en w => by
    have key : ∃ d1 d2, rd i ρ = .ok d1 ∧ rd j ρ = .ok d2 := by
      unfold gRet mkTup aCons aNil at w
      cases q1 : rd i ρ with
      | exc c => exfalso; unfold rd at q1; split at q1 <;> cases q1
      | bad => rw [q1] at w; exact w.elim
      | ok d1 =>
        cases q2 : rd j ρ with
        | exc c => exfalso; unfold rd at q2; split at q2 <;> cases q2
        | bad => rw [q1] at w; simp only [bind_ok, q2] at w; exact w.elim
        | ok d2 => exact ⟨d1, d2, rfl, rfl⟩
    obtain ⟨d1, d2, q1, q2⟩ := key
    have e : gRet (mkTup (aCons (rd i) (aCons (rd j) aNil))) ρ = .rt (.tuple [d1, d2]) := by
      unfold gRet mkTup aCons aNil
      rw [q1]
      simp only [bind_ok, q2]
      rfl
    rw [e] at w
    obtain ⟨v, a1, b1⟩ := en.sh i d1 hi (rd_some q1)
    obtain ⟨a, a2, b2⟩ := en.ow j d2 hj (rd_some q2)
    refine ⟨v, a1, .ref a, a2, (by decide : 2 ≤ sizeLine), fun t nt => w _ _ (en.base.trans (same_new nt)) ⟨t, v, a, d1, d2, rfl, rfl, fun z => ?_, upd_same, en.new a ⟨j, hj, a2⟩, ?_, ?_⟩⟩
    · exact (en.domA) t (.inl z) nt
    · exact b1.mono fun b o z => by
        obtain ⟨c, q⟩ := cut_some z
        rw [cut_out, upd_ne (ne_of_none q nt)]
        · exact q
        · rintro (z | z)
          · exact c (.inl z)
          · exact c (.inr ⟨j, hj, by rw [z]; exact a2⟩)
    · have mo : Same (Cut (AllA O own σ) H) (Cut (Plus O a) (upd H t (.tup [v, .ref a]))) := fun b o z => by
        obtain ⟨c, q⟩ := cut_some z
        rw [cut_out, upd_ne (ne_of_none q nt)]
        · exact q
        · rintro (z | z)
          · exact c (.inl z)
          · exact c (.inr ⟨j, hj, by rw [z]; exact a2⟩)
      cases b2 with
      | lst q z => exact .lst (by rw [upd_ne (ne_of_none q nt)]; exact q) (z.mono mo)
      | dic q z => exact .dic (by rw [upd_ne (ne_of_none q nt)]; exact q) (z.mono mo), ret_nn⟩
theorem dssT_cons (h1 : DS X K mg E own own' st t g) (n : NoRt g) (h2 : DSsT X K mg E own' rest u h) : DSsT X K mg E own (st :: rest) (tSeq t u) (gSeq g h) :=
  ⟨pss_cons h1.ps h2.ps, fun O H0 ρ σ H D en w => by
    refine h1.ok O H0 ρ σ H _ en ?_
    unfold gSeq at w
    cases q : g ρ with
    | nx ρ' => rw [q] at w; exact fun σ' H' e' => h2.ok O H0 ρ' σ' H' D e' w
    | rt d => exact (n ρ d q).elim
    | exc c => rw [q] at w; exact w
    | bad => rw [q] at w; exact w, fun ρ ρ' z => by
    unfold gSeq at z
    cases q : g ρ with
    | nx ρ2 => rw [q] at z; exact h2.nn ρ2 ρ' z
    | rt d => rw [q] at z; cases z
    | exc c => rw [q] at z; cases z
    | bad => rw [q] at z; cases z⟩
theorem dssT_freeze (own' : List Nat) (h : DSsT X K mg E own' rest u g) (s : ∀ i ∈ own', i ∈ own := by decide) : DSsT X K mg E own rest u g := ⟨h.ps, fun O H0 ρ σ H D e w => h.ok O H0 ρ σ H D (e.freeze s) w, h.nn⟩
end
section
variable {P : Program} {w : World} {K : PySem.W.Frag} {mg : Str → Option Value} {base : Heap}
theorem mkDefT {x : Str} {st : Stmt} {N ps : List Str} {n : Nat} (g : Gx) {fM : List D → Res D} (hM : fM = run N.length g) (k : Nat) (T : At K mg x st) (S : FnScope N ps (defScope st)) (hn : ps.length = n)
    (hbind : ∀ (kV doc pm : Value) (an : Option Addr) (cdv ct : Value) (us : List Value), us.length = ps.length → bindArgs (PySem.W.fnOf x x (defArgs st) (defBody st) (defScope st) .none kV doc pm an cdv ct) ⟨us, []⟩ = pure (ps.zip us))
    (hbody : ∀ (cdv : Value) (A : Around) (outer : List Env) (s : Shared) (H : Hp) (E : XK) (f : Addr), Room k (A.deeper (envOfC x (defScope st) s.heap.objs.size f cdv)) →
      ∃ (t : TS), DSsT (cxOf CX0 P w K mg base N x (defScope st) f cdv A outer s H E).nox K mg E0' [] (defBody st) t g) : DefT P w K mg base x ps (k + 1) n fM := by
  subst hM
  obtain ⟨f, fd, hm, F⟩ := T.ex
  refine ⟨f, fd, hm, F.kp, (let ⟨oc, od, _, _, _, _, _, _, _, osl, _, lk, _⟩ := F.ex; ⟨oc, od, osl, lk⟩), F.bindsN hbind, F.ok S (fun vs H Q E h => by rw [h.1, hn]) fun cdv A outer s H vs Q E hr h => ?_⟩
  obtain ⟨t, hb⟩ := hbody cdv A outer s H E f hr
  obtain ⟨_, O, ds, dom, r, w⟩ := h
  refine ⟨t, hb.ps.nox, hb.ok O H _ _ H _ (env_start dom r) ?_⟩
  have w := resW_calm (E' := E0') w
  unfold run at w
  cases q : g (ds.map some ++ List.replicate (N.length - ds.length) none) with
  | nx ρ => exact (hb.nn _ _ q).elim
  | rt d => rw [q] at w; exact w
  | exc c => rw [q] at w; exact w
  | bad => rw [q] at w; exact w
/-- x, y = f(..): y becomes own -/
theorem ds_unT {X : Cx} {K : PySem.W.Frag} {mg : Str → Option Value} {own : List Nat} {k n : Nat} {fM : List D → Res D} {x a b : Str} {ps : List Str} {p pos apos bpos tpos spos : Pos} {e : Expr} {es : List Expr} {t : TA} {g : Ax} (i j : Nat) {k1 : Nat}
    (G : DefT X.prog X.w X.K X.mg X.base x ps k n fM) (hr : Room k X.A) (ha : DA X K mg E0' own (e :: es) t g) (hN : X.N.Nodup) (hi : i ∉ own := by decide) (hj : j ∉ own := by decide) (hij : i ≠ j := by decide)
    (hNi : X.N[i]? = some a := by rfl) (hNj : X.N[j]? = some b := by rfl) (hai : Loc X.env.scope a := by first | exact Or.inl rfl | exact Or.inr rfl) (haj : Loc X.env.scope b := by first | exact Or.inl rfl | exact Or.inr rfl)
    (hfi : X.fn a = true ∨ X.env.scope.names.lookup a = some .local := by first | exact .inl rfl | exact .inr rfl | assumption) (hfj : X.fn b = true ∨ X.env.scope.names.lookup b = some .local := by first | exact .inl rfl | exact .inr rfl | assumption)
    (hg : Gl X x := by rfl) (hdb : (x == ("__debug__" : Str)) = false := by decide) (he : starEach (e :: es) X.env = (false, eval e X.env) :: starEach es X.env := by rfl) (hpl : (backTo pos (starEach es X.env)).any (·.1) = false := by rfl)
    (hs : swapsWithSole [.Tuple [.Name a apos, .Name b bpos] k1 tpos] (.Call (.Name x p) (e :: es) [] pos) spos.line X.env = pure false := by rfl) (hw : swappedStores [.Tuple [.Name a apos, .Name b bpos] k1 tpos] (.Call (.Name x p) (e :: es) [] pos) X.env = pure none := by rfl)
    (h1 : (assignEach [.Tuple [.Name a apos, .Name b bpos] k1 tpos] X.env).map (·.2) = [assign (.Tuple [.Name a apos, .Name b bpos] k1 tpos) X.env] := by rfl)
    (hn1 : (assignEach [.Name a apos, .Name b bpos] X.env).length = 2 := by rfl) (hst : (assignEach [.Name a apos, .Name b bpos] X.env).findIdx? (·.1) = none := by rfl)
    (hc1 : (assignEach [.Name a apos, .Name b bpos] X.env).map (·.2) = assign (.Name a apos) X.env :: (assignEach [.Name b bpos] X.env).map (·.2) := by rfl) (hc2 : (assignEach [.Name b bpos] X.env).map (·.2) = assign (.Name b bpos) X.env :: (assignEach [] X.env).map (·.2) := by rfl)
    (hca : X.calm = true := by rfl) (hK : X.K = K := by rfl) (hmg : X.mg = mg := by rfl) :
    DS X K mg E0' own (j :: own) (.Assign [.Tuple [.Name a apos, .Name b bpos] k1 tpos] (.Call (.Name x p) (e :: es) [] pos) spos) (tAsg (tCall (spT K mg n fun ds => (fM ds).calm) [] E0' t) (gTup K 2 (gCons (gName i) (gCons (gName j) gNil)))) (gUn (.tp [i, j]) (callD n fM g)) := by
  subst hK hmg
  obtain ⟨f, fd, hm, hk, _, hb, F⟩ := G.ex
  refine ⟨ps_asg (pe_call F hr hg hm hk hb .nil pass0 ha.pa hdb he hpl) (pg_tup hca (pgs_cons (pg_name hN hNi hai hfi) (pgs_cons (pg_name hN hNj haj hfj) pgs_nil hc2) hc1) hn1 hst) hs hw h1, fun O H0 ρ σ H D en w => ?_⟩
  have w := outW_out en w
  unfold callD at w
  rw [resW_bind] at w
  refine ha.ok O H0 ρ σ H _ en (w.mono (Same.refl H) fun ds wd vs H1 s1 r1 => ?_)
  by_cases c : ds.length = n
  · rw [if_pos c] at wd
    rw [List.append_nil]
    have wd' : ResW X.mg E0' H (fun d => OutW X.K X.mg E0' O H0 (j :: own) D (match (Tgt.tp [i, j]).put d ρ with | some ρ' => .nx ρ' | none => .bad)) ((fM ds).calm) := by
      cases q : fM ds with
      | ok d => rw [q] at wd; exact wd
      | exc c => rw [q] at wd; obtain ⟨_, _, z⟩ := wd; exact (z H (Same.refl H)).elim
      | bad => rw [q] at wd; exact wd
    refine ⟨by rw [r1.length, c], AllA O own σ, ds, en.domA.same s1, r1, wd'.mono s1 fun d kd v H' s r => ?_⟩
    obtain ⟨tt, xv, q, d1, d2, rfl, rfl, nt, ht, np, ra, rb⟩ := r
    refine ⟨tt, [xv, .ref q], rfl, .inl (.inl ht), rfl, xv, [.ref q], rfl, .ref q, [], rfl, rfl, ?_⟩
    have kd : ∀ σ H2, EnvOk X.K O H0 (j :: own) ((ρ.set i (some d1)).set j (some d2)) σ H2 → D.nx σ H2 := kd
    refine kd _ _ ?_
    have e1 := en.setNew (i := j) (p := q) (d := d2) hj (s1.trans s) (s1.free np) rb
    have e2 := e1.setSh (i := i) (v := xv) (d := d1) (fun z => (List.mem_cons.mp z).elim (fun z => hij z) hi) (ra.mono (cut_mono fun b z => by
      rcases z with z | z
      · exact .inl (.inl z)
      · rcases own_put hj z with z | z
        · exact .inr z
        · exact .inl (.inr z)))
    rw [List.set_comm _ _ hij.symm, List.set_comm _ _ hij.symm] at e2
    exact e2
  · rw [if_neg c] at wd; exact wd.elim
end
end DL
end

section
set_option linter.all false
/-! DLZ: the whole layer. -/
namespace DL
end DL
end

section
set_option Elab.async false
set_option linter.all false
set_option maxRecDepth 100000
namespace LW
open PySem L2 DL

noncomputable def g_is_whole : Gx :=
  (gRet (andV (un (rd 0) (dIsi "int")) (notV (un (rd 0) (dIsi "bool")))))
noncomputable def m_is_whole : List D → Res D := run 1 g_is_whole

noncomputable def g_need_room : Gx :=
  (gIf (orT (notT (asB (callD 1 m_is_whole (aCons (rd 1) aNil)))) (orT (asB (bin (rd 1) (kc (.int 0)) dLt)) (asB (bin (rd 1) (un (rd 0) dLen) dGe)))) (gRaise ("NoRooms" : PySem.Str)) gSkip)
noncomputable def m_need_room : List D → Res D := run 2 g_need_room

noncomputable def g_divisor : Gx :=
  (gSeq (gSet 0 (un (rd 0) dAbs)) (gSeq (gSet 1 (un (rd 1) dAbs)) (gSeq (gWh (asB (bin (rd 1) (kc (.int 0)) dNe)) (gSeq (gSet 2 (bin (rd 0) (rd 1) dMod)) (gSeq (gSet 0 (rd 1)) (gSet 1 (rd 2))))) (gRet (rd 0)))))
noncomputable def m_divisor : List D → Res D := run 3 g_divisor

noncomputable def g_frac : Gx :=
  (gSeq (gIf (asB (bin (rd 1) (kc (.int 0)) dLt)) (gSeq (gSet 0 (un (rd 0) dNeg)) (gSet 1 (un (rd 1) dNeg))) gSkip) (gSeq (gSet 2 (callD 2 m_divisor (aCons (rd 0) (aCons (rd 1) aNil)))) (gRet (mkTup (aCons (bin (rd 0) (rd 2) dDiv) (aCons (bin (rd 1) (rd 2) dDiv) aNil))))))
noncomputable def m_frac : List D → Res D := run 3 g_frac

noncomputable def g_plus : Gx :=
  (gRet (callD 2 m_frac (aCons (bin (bin (bin (rd 0) (kc (.int 0)) dIx) (bin (rd 1) (kc (.int 1)) dIx) dMul) (bin (bin (rd 1) (kc (.int 0)) dIx) (bin (rd 0) (kc (.int 1)) dIx) dMul) dAdd) (aCons (bin (bin (rd 0) (kc (.int 1)) dIx) (bin (rd 1) (kc (.int 1)) dIx) dMul) aNil))))
noncomputable def m_plus : List D → Res D := run 2 g_plus

noncomputable def g_times : Gx :=
  (gRet (callD 2 m_frac (aCons (bin (bin (rd 0) (kc (.int 0)) dIx) (bin (rd 1) (kc (.int 0)) dIx) dMul) (aCons (bin (bin (rd 0) (kc (.int 1)) dIx) (bin (rd 1) (kc (.int 1)) dIx) dMul) aNil))))
noncomputable def m_times : List D → Res D := run 2 g_times

noncomputable def g_stepped : Gx :=
  (gSeq (gSet 2 (comp [6] (.nm 6) (itS (rd 0)) yes (kc (.tuple [.int 0, .int 1])))) (gSeq (gFor (.nm 3) (itR1 (un (rd 0) dLen)) (gFor (.tp [4, 5]) (itS (bin (rd 0) (rd 3) dIx)) (gPutL 2 (rd 4) (callD 2 m_plus (aCons (bin (rd 2) (rd 4) dIx) (aCons (callD 2 m_times (aCons (bin (rd 1) (rd 3) dIx) (aCons (rd 5) aNil))) aNil)))))) (gRet (rd 2))))
noncomputable def m_stepped : List D → Res D := run 7 g_stepped

noncomputable def g_after : Gx :=
  (gSeq (gDrop (callD 2 m_need_room (aCons (rd 0) (aCons (rd 1) aNil)))) (gSeq (gSet 3 (comp [5] (.nm 5) (itS (rd 0)) yes (kc (.tuple [.int 0, .int 1])))) (gSeq (gPutL 3 (rd 1) (kc (.tuple [.int 1, .int 1]))) (gSeq (gFor (.nm 4) (itR1 (rd 2)) (gSet 3 (callD 2 m_stepped (aCons (rd 0) (aCons (rd 3) aNil))))) (gRet (rd 3))))))
noncomputable def m_after : List D → Res D := run 6 g_after

noncomputable def g_can_come : Gx :=
  (gSeq (gSet 2 (kc (.dict []))) (gSeq (gFor (.nm 3) (itS (rd 1)) (gPutD 2 (rd 3) (kc (.bool true)))) (gSeq (gSet 4 (kc (.bool true))) (gSeq (gWh (asB (rd 4)) (gSeq (gSet 4 (kc (.bool false))) (gFor (.nm 3) (itR1 (un (rd 0) dLen)) (gIf (andT (asB (bin (rd 3) (rd 2) dNotIn)) (asB (un (comp [5, 6] (.tp [5, 6]) (itS (bin (rd 0) (rd 3) dIx)) yes (bin (rd 5) (rd 2) dIn)) dAny))) (gSeq (gPutD 2 (rd 3) (kc (.bool true))) (gSet 4 (kc (.bool true)))) gSkip)))) (gRet (un (un (rd 2) dList) dSorted))))))
noncomputable def m_can_come : List D → Res D := run 7 g_can_come

noncomputable def g_ahead_of : Gx :=
  (gRet (comp [2] (.nm 2) (itR1 (un (rd 0) dLen)) (asB (bin (rd 1) (callD 2 m_can_come (aCons (rd 0) (aCons (mkLst (aCons (rd 2) aNil)) aNil))) dIn)) (rd 2)))
noncomputable def m_ahead_of : List D → Res D := run 3 g_ahead_of

noncomputable def g_ends : Gx :=
  (gSeq (gSet 1 (mkLst aNil)) (gSeq (gFor (.nm 2) (itR1 (un (rd 0) dLen)) (gSeq (gSet 3 (callD 2 m_ahead_of (aCons (rd 0) (aCons (rd 2) aNil)))) (gIf (andT (asB (un (comp [4] (.nm 4) (itS (rd 3)) yes (bin (rd 2) (callD 2 m_ahead_of (aCons (rd 0) (aCons (rd 4) aNil))) dIn)) dAll)) (asB (bin (bin (rd 3) (kc (.int 0)) dIx) (rd 2) dEq))) (gApp 1 (rd 3)) gSkip))) (gRet (rd 1))))
noncomputable def m_ends : List D → Res D := run 5 g_ends

noncomputable def g_beat : Gx :=
  (gSeq (gDrop (callD 2 m_need_room (aCons (rd 0) (aCons (rd 1) aNil)))) (gSeq (gSet 2 (comp [9] (.nm 9) (itS (callD 1 m_ends (aCons (rd 0) aNil))) (asB (bin (rd 1) (rd 9) dIn)) (rd 9))) (gSeq (gIf (asB (bin (rd 2) (mkLst aNil) dEq)) (gRet (kc .none)) gSkip) (gSeq (gSet 3 (dOne (rd 1) (kc (.int 0)))) (gSeq (gSet 4 (mkLst (aCons (rd 1) aNil))) (gSeq (gSet 5 (kc (.int 0))) (gSeq (gSet 6 (kc (.int 0))) (gSeq (gWh (asB (bin (rd 6) (un (rd 4) dLen) dLt)) (gSeq (gFor (.tp [7, 8]) (itS (bin (rd 0) (bin (rd 4) (rd 6) dIx) dIx)) (gSeq (gIf (asB (bin (rd 7) (rd 3) dNotIn)) (gSeq (gPutD 3 (rd 7) (bin (bin (rd 3) (bin (rd 4) (rd 6) dIx) dDix) (kc (.int 1)) dAdd)) (gApp 4 (rd 7))) gSkip) (gSet 5 (callD 2 m_divisor (aCons (rd 5) (aCons (bin (bin (bin (rd 3) (bin (rd 4) (rd 6) dIx) dDix) (kc (.int 1)) dAdd) (bin (rd 3) (rd 7) dDix) dSub) aNil)))))) (gSet 6 (bin (rd 6) (kc (.int 1)) dAdd)))) (gRet (rd 5))))))))))
noncomputable def m_beat : List D → Res D := run 10 g_beat

noncomputable def g_below : Gx :=
  (gRet (bin (bin (bin (rd 0) (kc (.int 0)) dIx) (bin (rd 1) (kc (.int 1)) dIx) dMul) (bin (bin (rd 1) (kc (.int 0)) dIx) (bin (rd 0) (kc (.int 1)) dIx) dMul) dLt))
noncomputable def m_below : List D → Res D := run 2 g_below

noncomputable def g_summed : Gx :=
  (gSeq (gSet 1 (kc (.tuple [.int 0, .int 1]))) (gSeq (gFor (.nm 2) (itS (rd 0)) (gSet 1 (callD 2 m_plus (aCons (rd 1) (aCons (rd 2) aNil))))) (gRet (rd 1))))
noncomputable def m_summed : List D → Res D := run 3 g_summed

noncomputable def g_made_of : Gx :=
  (gRet (callD 1 m_summed (aCons (comp [2, 3] (.tp [2, 3]) (itS (rd 0)) yes (callD 2 m_times (aCons (rd 3) (aCons (bin (rd 1) (rd 2) dIx) aNil)))) aNil)))
noncomputable def m_made_of : List D → Res D := run 4 g_made_of

noncomputable def g_better : Gx :=
  (gSeq (gSet 4 (un (rd 2) dList)) (gSeq (gFor (.nm 5) (itR1 (un (rd 0) dLen)) (gSeq (gSet 6 (bin (rd 1) (rd 5) dIx)) (gFor (.nm 7) (itR1 (un (bin (rd 0) (rd 5) dIx) dLen)) (gSeq (gSet 8 (callD 2 m_made_of (aCons (bin (bin (rd 0) (rd 5) dIx) (rd 7) dIx) (aCons (rd 1) aNil)))) (gIf (andT (asB (bin (rd 5) (rd 3) dNotIn)) (asB (callD 2 m_below (aCons (rd 6) (aCons (rd 8) aNil))))) (gSeq (gSet 6 (rd 8)) (gPutL 4 (rd 5) (rd 7))) gSkip))))) (gRet (rd 4))))
noncomputable def m_better : List D → Res D := run 9 g_better

noncomputable def g_known_part : Gx :=
  (gSeq (gIf (asB (bin (rd 0) (kc (.tuple [.int 1, .int 1])) dEq)) (gRet (rd 1)) gSkip) (gRet (kc (.tuple [.int 0, .int 1]))))
noncomputable def m_known_part : List D → Res D := run 2 g_known_part

noncomputable def g_less : Gx :=
  (gRet (callD 2 m_frac (aCons (bin (bin (bin (rd 0) (kc (.int 0)) dIx) (bin (rd 1) (kc (.int 1)) dIx) dMul) (bin (bin (rd 1) (kc (.int 0)) dIx) (bin (rd 0) (kc (.int 1)) dIx) dMul) dSub) (aCons (bin (bin (rd 0) (kc (.int 1)) dIx) (bin (rd 1) (kc (.int 1)) dIx) dMul) aNil))))
noncomputable def m_less : List D → Res D := run 2 g_less

noncomputable def g_over : Gx :=
  (gRet (callD 2 m_frac (aCons (bin (bin (rd 0) (kc (.int 0)) dIx) (bin (rd 1) (kc (.int 1)) dIx) dMul) (aCons (bin (bin (rd 0) (kc (.int 1)) dIx) (bin (rd 1) (kc (.int 0)) dIx) dMul) aNil))))
noncomputable def m_over : List D → Res D := run 2 g_over

noncomputable def g_eased : Gx :=
  (gSeq (gSet 2 (comp [5] (.nm 5) (itR2 (rd 1) (un (rd 0) dLen)) (asB (bin (bin (bin (rd 0) (rd 5) dIx) (rd 1) dIx) (kc (.tuple [.int 0, .int 1])) dNe)) (rd 5))) (gSeq (gIf (asB (bin (rd 2) (mkLst aNil) dEq)) (gRet (kc .none)) gSkip) (gSeq (gSet 3 (comp [7] (.nm 7) (itS (bin (rd 0) (bin (rd 2) (kc (.int 0)) dIx) dIx)) yes (callD 2 m_over (aCons (rd 7) (aCons (bin (bin (rd 0) (bin (rd 2) (kc (.int 0)) dIx) dIx) (rd 1) dIx) aNil))))) (gSeq (gSet 4 (mkLst aNil)) (gSeq (gFor (.nm 5) (itR1 (un (rd 0) dLen)) (gIf (asB (bin (rd 5) (bin (rd 2) (kc (.int 0)) dIx) dNe)) (gSeq (gSet 6 (bin (bin (rd 0) (rd 5) dIx) (rd 1) dIx)) (gApp 4 (comp [7, 8] (.tp [7, 8]) (itY (bin (rd 0) (rd 5) dIx) (rd 3)) yes (callD 2 m_less (aCons (rd 7) (aCons (callD 2 m_times (aCons (rd 6) (aCons (rd 8) aNil))) aNil)))))) gSkip)) (gRet (bin (bin (slc (rd 4) pNo (pIs (rd 1))) (mkLst (aCons (rd 3) aNil)) dAdd) (slc (rd 4) (pIs (rd 1)) pNo) dAdd)))))))
noncomputable def m_eased : List D → Res D := run 9 g_eased

noncomputable def g_solved : Gx :=
  (gSeq (gSet 1 (rd 0)) (gSeq (gFor (.nm 2) (itR1 (un (rd 0) dLen)) (gSet 1 (callD 2 m_eased (aCons (rd 1) (aCons (rd 2) aNil))))) (gRet (comp [3] (.nm 3) (itS (rd 1)) yes (bin (rd 3) (un (kc (.int 1)) dNeg) dIx)))))
noncomputable def m_solved : List D → Res D := run 4 g_solved

noncomputable def g_solved_for : Gx :=
  (gSeq (gSet 4 (mkLst aNil)) (gSeq (gFor (.nm 5) (itS (rd 1)) (gSeq (gSet 6 (bin (comp [7] (.nm 7) (itS (rd 1)) yes (kc (.tuple [.int 0, .int 1]))) (mkLst (aCons (rd 3) aNil)) dCat)) (gSeq (gPutL 6 (idx (rd 1) (rd 5)) (kc (.tuple [.int 1, .int 1]))) (gSeq (gFor (.tp [7, 8]) (itS (bin (rd 0) (rd 5) dIx)) (gIf (asB (bin (rd 7) (rd 1) dIn)) (gPutL 6 (idx (rd 1) (rd 7)) (callD 2 m_less (aCons (bin (rd 6) (idx (rd 1) (rd 7)) dIx) (aCons (rd 8) aNil)))) (gPutL 6 (un (kc (.int 1)) dNeg) (callD 2 m_plus (aCons (bin (rd 6) (un (kc (.int 1)) dNeg) dIx) (aCons (callD 2 m_known_part (aCons (bin (rd 2) (rd 7) dIx) (aCons (rd 8) aNil))) aNil)))))) (gApp 4 (rd 6)))))) (gSeq (gSet 9 (un (rd 2) dList)) (gSeq (gFor (.tp [5, 10]) (itY (rd 1) (callD 1 m_solved (aCons (rd 4) aNil))) (gPutL 9 (rd 5) (rd 10))) (gRet (rd 9))))))
noncomputable def m_solved_for : List D → Res D := run 11 g_solved_for

noncomputable def g_walk_by : Gx :=
  (gRet (un (comp [2, 3] (.tp [2, 3]) (itY (rd 0) (rd 1)) yes (bin (rd 2) (rd 3) dIx)) dTuple))
noncomputable def m_walk_by : List D → Res D := run 4 g_walk_by

noncomputable def g_by_picks : Gx :=
  (gSeq (gSet 4 (comp [6] (.nm 6) (itS (rd 0)) yes (kc (.tuple [.int 0, .int 1])))) (gSeq (gFor (.nm 5) (itS (rd 2)) (gPutL 4 (rd 5) (kc (.tuple [.int 1, .int 1])))) (gRet (callD 4 m_solved_for (aCons (callD 2 m_walk_by (aCons (rd 0) (aCons (rd 1) aNil))) (aCons (rd 3) (aCons (rd 4) (aCons (kc (.tuple [.int 0, .int 1])) aNil))))))))
noncomputable def m_by_picks : List D → Res D := run 7 g_by_picks

noncomputable def g_is_fraction : Gx :=
  (gSeq (gIf (orT (notT (asB (un (rd 0) (dIsi "tuple")))) (orT (asB (bin (un (rd 0) dLen) (kc (.int 2)) dNe)) (orT (notT (asB (callD 1 m_is_whole (aCons (bin (rd 0) (kc (.int 0)) dIx) aNil)))) (notT (asB (callD 1 m_is_whole (aCons (bin (rd 0) (kc (.int 1)) dIx) aNil))))))) (gRet (kc (.bool false))) gSkip) (gRet (andV (bin (bin (rd 0) (kc (.int 0)) dIx) (kc (.int 0)) dGe) (andV (bin (bin (rd 0) (kc (.int 1)) dIx) (kc (.int 1)) dGe) (bin (callD 2 m_divisor (aCons (bin (rd 0) (kc (.int 0)) dIx) (aCons (bin (rd 0) (kc (.int 1)) dIx) aNil))) (kc (.int 1)) dEq)))))
noncomputable def m_is_fraction : List D → Res D := run 1 g_is_fraction

noncomputable def g_need_begin : Gx :=
  (gSeq (gIf (orT (notT (asB (un (rd 1) (dIsi "list")))) (asB (bin (un (rd 1) dLen) (un (rd 0) dLen) dNe))) (gRaise ("NoBegin" : PySem.Str)) gSkip) (gIf (orT (notT (asB (un (comp [2] (.nm 2) (itS (rd 1)) yes (callD 1 m_is_fraction (aCons (rd 2) aNil))) dAll))) (asB (bin (callD 1 m_summed (aCons (rd 1) aNil)) (kc (.tuple [.int 1, .int 1])) dNe))) (gRaise ("NoBegin" : PySem.Str)) gSkip))
noncomputable def m_need_begin : List D → Res D := run 3 g_need_begin

noncomputable def g_need_marks : Gx :=
  (gSeq (gIf (orT (notT (asB (un (rd 1) (dIsi "list")))) (asB (bin (un (rd 1) dLen) (un (rd 0) dLen) dNe))) (gRaise ("NoMarks" : PySem.Str)) gSkip) (gFor (.nm 2) (itS (rd 1)) (gIf (notT (asB (callD 1 m_is_whole (aCons (rd 2) aNil)))) (gRaise ("NoMarks" : PySem.Str)) gSkip)))
noncomputable def m_need_marks : List D → Res D := run 3 g_need_marks

noncomputable def g_need_seen : Gx :=
  (gIf (orT (notT (asB (un (rd 0) (dIsi "list")))) (orT (asB (bin (rd 0) (mkLst aNil) dEq)) (notT (asB (un (comp [1] (.nm 1) (itS (rd 0)) yes (callD 1 m_is_whole (aCons (rd 1) aNil))) dAll))))) (gRaise ("NoMarks" : PySem.Str)) gSkip)
noncomputable def m_need_seen : List D → Res D := run 2 g_need_seen

noncomputable def g_shown_only : Gx :=
  (gSeq (gSet 3 (mkLst aNil)) (gSeq (gFor (.tp [4, 5]) (itY (rd 0) (rd 1)) (gIf (asB (bin (rd 5) (rd 2) dEq)) (gApp 3 (rd 4)) (gApp 3 (kc (.tuple [.int 0, .int 1]))))) (gRet (rd 3))))
noncomputable def m_shown_only : List D → Res D := run 6 g_shown_only

noncomputable def g_reckoned : Gx :=
  (gSeq (gDrop (callD 2 m_need_begin (aCons (rd 0) (aCons (rd 1) aNil)))) (gSeq (gDrop (callD 2 m_need_marks (aCons (rd 0) (aCons (rd 2) aNil)))) (gSeq (gDrop (callD 1 m_need_seen (aCons (rd 3) aNil))) (gSeq (gSet 4 (callD 3 m_shown_only (aCons (rd 1) (aCons (rd 2) (aCons (bin (rd 3) (kc (.int 0)) dIx) aNil))))) (gSeq (gFor (.nm 5) (itS (slc (rd 3) (pIs (kc (.int 1))) pNo)) (gSet 4 (callD 3 m_shown_only (aCons (callD 2 m_stepped (aCons (rd 0) (aCons (rd 4) aNil))) (aCons (rd 2) (aCons (rd 5) aNil)))))) (gRet (rd 4)))))))
noncomputable def m_reckoned : List D → Res D := run 6 g_reckoned

noncomputable def g_chance_of : Gx :=
  (gRet (callD 1 m_summed (aCons (callD 4 m_reckoned (aCons (rd 0) (aCons (rd 1) (aCons (rd 2) (aCons (rd 3) aNil))))) aNil)))
noncomputable def m_chance_of : List D → Res D := run 4 g_chance_of

noncomputable def g_chances_of : Gx :=
  (gSeq (gSet 2 (callD 2 m_can_come (aCons (rd 0) (aCons (rd 1) aNil)))) (gSeq (gSet 3 (comp [6] (.nm 6) (itS (rd 0)) yes (kc (.tuple [.int 0, .int 1])))) (gSeq (gFor (.nm 4) (itS (rd 1)) (gPutL 3 (rd 4) (kc (.tuple [.int 1, .int 1])))) (gSeq (gSet 5 (comp [4] (.nm 4) (itS (rd 2)) (asB (bin (rd 4) (rd 1) dNotIn)) (rd 4))) (gRet (callD 4 m_solved_for (aCons (rd 0) (aCons (rd 5) (aCons (rd 3) (aCons (kc (.tuple [.int 0, .int 1])) aNil))))))))))
noncomputable def m_chances_of : List D → Res D := run 7 g_chances_of

noncomputable def g_need_rooms : Gx :=
  (gSeq (gIf (notT (asB (un (rd 1) (dIsi "list")))) (gRaise ("NoRooms" : PySem.Str)) gSkip) (gSeq (gSet 2 (un (kc (.int 1)) dNeg)) (gFor (.nm 3) (itS (rd 1)) (gSeq (gDrop (callD 2 m_need_room (aCons (rd 0) (aCons (rd 3) aNil)))) (gSeq (gIf (asB (bin (rd 3) (rd 2) dLe)) (gRaise ("NoRooms" : PySem.Str)) gSkip) (gSet 2 (rd 3)))))))
noncomputable def m_need_rooms : List D → Res D := run 4 g_need_rooms

noncomputable def g_chances : Gx :=
  (gSeq (gDrop (callD 2 m_need_rooms (aCons (rd 0) (aCons (rd 1) aNil)))) (gRet (callD 2 m_chances_of (aCons (rd 0) (aCons (rd 1) aNil)))))
noncomputable def m_chances : List D → Res D := run 2 g_chances

noncomputable def g_lies_in : Gx :=
  (gRet (un (comp [3, 4] (.tp [3, 4]) (itS (rd 0)) yes (orV (bin (rd 3) (rd 1) dIn) (bin (rd 3) (rd 2) dIn))) dAll))
noncomputable def m_lies_in : List D → Res D := run 5 g_lies_in

noncomputable def g_cheaper : Gx :=
  (gSeq (gSet 6 (un (rd 5) dList)) (gSeq (gFor (.nm 7) (itS (rd 3)) (gSeq (gSet 8 (bin (rd 4) (rd 7) dIx)) (gFor (.nm 9) (itR1 (un (bin (rd 0) (rd 7) dIx) dLen)) (gIf (asB (callD 3 m_lies_in (aCons (bin (bin (rd 0) (rd 7) dIx) (rd 9) dIx) (aCons (rd 3) (aCons (rd 2) aNil))))) (gSeq (gSet 10 (callD 2 m_plus (aCons (mkTup (aCons (bin (bin (rd 1) (rd 7) dIx) (rd 9) dIx) (aCons (kc (.int 1)) aNil))) (aCons (callD 2 m_made_of (aCons (bin (bin (rd 0) (rd 7) dIx) (rd 9) dIx) (aCons (rd 4) aNil))) aNil)))) (gIf (asB (callD 2 m_below (aCons (rd 10) (aCons (rd 8) aNil)))) (gSeq (gSet 8 (rd 10)) (gPutL 6 (rd 7) (rd 9))) gSkip)) gSkip)))) (gRet (rd 6))))
noncomputable def m_cheaper : List D → Res D := run 11 g_cheaper

noncomputable def g_is_spread : Gx :=
  (gSeq (gIf (orT (notT (asB (un (rd 0) (dIsi "tuple")))) (asB (bin (un (rd 0) dLen) (kc (.int 0)) dEq))) (gRet (kc (.bool false))) gSkip) (gSeq (gSet 2 (un (kc (.int 1)) dNeg)) (gSeq (gFor (.nm 3) (itS (rd 0)) (gSeq (gIf (orT (notT (asB (un (rd 3) (dIsi "tuple")))) (orT (asB (bin (un (rd 3) dLen) (kc (.int 2)) dNe)) (orT (notT (asB (callD 1 m_is_whole (aCons (bin (rd 3) (kc (.int 0)) dIx) aNil)))) (notT (asB (callD 1 m_is_fraction (aCons (bin (rd 3) (kc (.int 1)) dIx) aNil))))))) (gRet (kc (.bool false))) gSkip) (gSeq (gIf (orT (asB (bin (bin (rd 3) (kc (.int 0)) dIx) (rd 2) dLe)) (orT (asB (bin (bin (rd 3) (kc (.int 0)) dIx) (rd 1) dGe)) (asB (bin (bin (rd 3) (kc (.int 1)) dIx) (kc (.tuple [.int 0, .int 1])) dEq)))) (gRet (kc (.bool false))) gSkip) (gSet 2 (bin (rd 3) (kc (.int 0)) dIx))))) (gRet (bin (callD 1 m_summed (aCons (comp [3] (.nm 3) (itS (rd 0)) yes (bin (rd 3) (kc (.int 1)) dIx)) aNil)) (kc (.tuple [.int 1, .int 1])) dEq)))))
noncomputable def m_is_spread : List D → Res D := run 4 g_is_spread

noncomputable def g_is_walk : Gx :=
  (gSeq (gIf (orT (notT (asB (un (rd 0) (dIsi "tuple")))) (orT (asB (bin (un (rd 0) dLen) (kc (.int 1)) dLt)) (asB (bin (un (rd 0) dLen) (kc (.int 8)) dGt)))) (gRet (kc (.bool false))) gSkip) (gRet (un (comp [1] (.nm 1) (itS (rd 0)) yes (callD 2 m_is_spread (aCons (rd 1) (aCons (un (rd 0) dLen) aNil)))) dAll)))
noncomputable def m_is_walk : List D → Res D := run 2 g_is_walk

noncomputable def g_checked : Gx :=
  (gSeq (gIf (notT (asB (callD 1 m_is_walk (aCons (rd 0) aNil)))) (gRaise ("NoWalk" : PySem.Str)) gSkip) (gRet (rd 0)))
noncomputable def m_checked : List D → Res D := run 1 g_checked

noncomputable def g_is_choice : Gx :=
  (gSeq (gIf (orT (notT (asB (un (rd 0) (dIsi "tuple")))) (orT (asB (bin (un (rd 0) dLen) (kc (.int 1)) dLt)) (asB (bin (un (rd 0) dLen) (kc (.int 6)) dGt)))) (gRet (kc (.bool false))) gSkip) (gSeq (gFor (.nm 1) (itS (rd 0)) (gSeq (gIf (orT (notT (asB (un (rd 1) (dIsi "tuple")))) (orT (asB (bin (un (rd 1) dLen) (kc (.int 1)) dLt)) (asB (bin (un (rd 1) dLen) (kc (.int 4)) dGt)))) (gRet (kc (.bool false))) gSkip) (gIf (notT (asB (un (comp [2] (.nm 2) (itS (rd 1)) yes (callD 2 m_is_spread (aCons (rd 2) (aCons (un (rd 0) dLen) aNil)))) dAll))) (gRet (kc (.bool false))) gSkip))) (gRet (kc (.bool true)))))
noncomputable def m_is_choice : List D → Res D := run 3 g_is_choice

noncomputable def g_checked_choice : Gx :=
  (gSeq (gIf (notT (asB (callD 1 m_is_choice (aCons (rd 0) aNil)))) (gRaise ("NoChoice" : PySem.Str)) gSkip) (gRet (rd 0)))
noncomputable def m_checked_choice : List D → Res D := run 1 g_checked_choice

noncomputable def g_costs_by : Gx :=
  (gSeq (gSet 3 (mkLst aNil)) (gSeq (gFor (.nm 4) (itS (rd 2)) (gSeq (gSet 5 (bin (comp [6] (.nm 6) (itS (rd 2)) yes (kc (.tuple [.int 0, .int 1]))) (mkLst (aCons (mkTup (aCons (bin (rd 1) (rd 4) dIx) (aCons (kc (.int 1)) aNil))) aNil)) dCat)) (gSeq (gPutL 5 (idx (rd 2) (rd 4)) (kc (.tuple [.int 1, .int 1]))) (gSeq (gFor (.tp [6, 7]) (itS (bin (rd 0) (rd 4) dIx)) (gIf (asB (bin (rd 6) (rd 2) dIn)) (gPutL 5 (idx (rd 2) (rd 6)) (callD 2 m_less (aCons (bin (rd 5) (idx (rd 2) (rd 6)) dIx) (aCons (rd 7) aNil)))) gSkip)) (gApp 3 (rd 5)))))) (gSeq (gSet 8 (comp [10] (.nm 10) (itS (rd 0)) yes (kc (.tuple [.int 0, .int 1])))) (gSeq (gFor (.tp [4, 9]) (itY (rd 2) (callD 1 m_solved (aCons (rd 3) aNil))) (gPutL 8 (rd 4) (rd 9))) (gRet (rd 8))))))
noncomputable def m_costs_by : List D → Res D := run 11 g_costs_by

noncomputable def g_nearer : Gx :=
  (gSeq (gIf (orT (asB (bin (rd 0) (kc .none) dIs)) (asB (callD 2 m_below (aCons (bin (rd 0) (kc (.int 0)) dIx) (aCons (bin (rd 1) (kc (.int 0)) dIx) aNil))))) (gRet (rd 1)) gSkip) (gSeq (gIf (andT (asB (bin (bin (rd 0) (kc (.int 0)) dIx) (bin (rd 1) (kc (.int 0)) dIx) dEq)) (asB (bin (bin (rd 1) (kc (.int 1)) dIx) (bin (rd 0) (kc (.int 1)) dIx) dLtA))) (gRet (rd 1)) gSkip) (gRet (rd 0))))
noncomputable def m_nearer : List D → Res D := run 2 g_nearer

noncomputable def g_further : Gx :=
  (gSeq (gSet 4 (comp [9] (.nm 9) (itS (rd 0)) yes (kc .none))) (gSeq (gFor (.nm 5) (itR1 (un (rd 0) dLen)) (gIf (asB (bin (bin (rd 1) (rd 5) dIx) (kc .none) dIsNot)) (gFor (.tp [6, 7]) (itS (bin (rd 0) (rd 5) dIx)) (gIf (asB (bin (bin (rd 2) (rd 6) dIx) (rd 3) dEq)) (gSeq (gSet 8 (callD 2 m_times (aCons (bin (bin (rd 1) (rd 5) dIx) (kc (.int 0)) dIx) (aCons (rd 7) aNil)))) (gPutL 4 (rd 6) (callD 2 m_nearer (aCons (bin (rd 4) (rd 6) dIx) (aCons (mkTup (aCons (rd 8) (aCons (bin (bin (bin (rd 1) (rd 5) dIx) (kc (.int 1)) dIx) (mkLst (aCons (rd 6) aNil)) dAdd) aNil))) aNil))))) gSkip)) gSkip)) (gRet (rd 4))))
noncomputable def m_further : List D → Res D := run 10 g_further

noncomputable def g_law_divisor : Gx :=
  (gSeq (gSet 0 (un (rd 0) dAbs)) (gSeq (gSet 1 (un (rd 1) dAbs)) (gSeq (gWh (asB (bin (rd 1) (kc (.int 0)) dNe)) (gSeq (gSet 2 (bin (rd 0) (rd 1) dMod)) (gSeq (gSet 0 (rd 1)) (gSet 1 (rd 2))))) (gRet (rd 0)))))
noncomputable def m_law_divisor : List D → Res D := run 3 g_law_divisor

noncomputable def g_law_frac : Gx :=
  (gSeq (gSet 2 (callD 2 m_law_divisor (aCons (rd 0) (aCons (rd 1) aNil)))) (gSeq (gIf (asB (bin (rd 1) (kc (.int 0)) dLt)) (gSet 2 (un (rd 2) dNeg)) gSkip) (gRet (mkTup (aCons (bin (rd 0) (rd 2) dDiv) (aCons (bin (rd 1) (rd 2) dDiv) aNil))))))
noncomputable def m_law_frac : List D → Res D := run 3 g_law_frac

noncomputable def g_law_add : Gx :=
  (gRet (callD 2 m_law_frac (aCons (bin (bin (bin (bin (rd 0) (kc (.int 0)) dIx) (bin (rd 1) (kc (.int 1)) dIx) dMul) (bin (rd 2) (kc (.int 1)) dIx) dMul) (bin (bin (bin (rd 2) (kc (.int 0)) dIx) (bin (rd 1) (kc (.int 0)) dIx) dMul) (bin (rd 0) (kc (.int 1)) dIx) dMul) dAdd) (aCons (bin (bin (bin (rd 0) (kc (.int 1)) dIx) (bin (rd 1) (kc (.int 1)) dIx) dMul) (bin (rd 2) (kc (.int 1)) dIx) dMul) aNil))))
noncomputable def m_law_add : List D → Res D := run 3 g_law_add

noncomputable def g_law_ahead : Gx :=
  (gSeq (gSet 2 (mkLst (aCons (rd 1) aNil))) (gSeq (gSet 3 (kc (.int 0))) (gSeq (gWh (asB (bin (rd 3) (un (rd 2) dLen) dLt)) (gSeq (gFor (.nm 4) (itS (bin (rd 0) (bin (rd 2) (rd 3) dIx) dIx)) (gIf (asB (bin (bin (rd 4) (kc (.int 0)) dIx) (rd 2) dNotIn)) (gApp 2 (bin (rd 4) (kc (.int 0)) dIx)) gSkip)) (gSet 3 (bin (rd 3) (kc (.int 1)) dAdd)))) (gRet (un (rd 2) dSorted)))))
noncomputable def m_law_ahead : List D → Res D := run 5 g_law_ahead

noncomputable def g_law_all_picks : Gx :=
  (gSeq (gSet 1 (mkLst (aCons (mkLst aNil) aNil))) (gSeq (gFor (.nm 2) (itS (rd 0)) (gSeq (gSet 3 (mkLst aNil)) (gSeq (gFor (.nm 4) (itS (rd 1)) (gFor (.nm 5) (itR1 (un (rd 2) dLen)) (gApp 3 (bin (rd 4) (mkLst (aCons (rd 5) aNil)) dAdd)))) (gSet 1 (rd 3))))) (gRet (rd 1))))
noncomputable def m_law_all_picks : List D → Res D := run 6 g_law_all_picks

noncomputable def g_law_whole : Gx :=
  (gRet (andV (un (rd 0) (dIsi "int")) (notV (un (rd 0) (dIsi "bool")))))
noncomputable def m_law_whole : List D → Res D := run 1 g_law_whole

noncomputable def g_law_are_picks : Gx :=
  (gSeq (gIf (orT (notT (asB (un (rd 1) (dIsi "list")))) (asB (bin (un (rd 1) dLen) (un (rd 0) dLen) dNe))) (gRet (kc (.bool false))) gSkip) (gSeq (gFor (.nm 2) (itR1 (un (rd 0) dLen)) (gIf (orT (notT (asB (callD 1 m_law_whole (aCons (bin (rd 1) (rd 2) dIx) aNil)))) (orT (asB (bin (bin (rd 1) (rd 2) dIx) (kc (.int 0)) dLt)) (asB (bin (bin (rd 1) (rd 2) dIx) (un (bin (rd 0) (rd 2) dIx) dLen) dGe)))) (gRet (kc (.bool false))) gSkip)) (gRet (kc (.bool true)))))
noncomputable def m_law_are_picks : List D → Res D := run 3 g_law_are_picks

noncomputable def g_law_bad_choice : Gx :=
  (gSeq (gSet 2 (bin (bin (rd 0) (kc (.int 0)) dIx) (kc (.int 0)) dIx)) (gSeq (gSet 3 (mkLst (aCons (un (rd 0) dList) (aCons (mkTup aNil) (aCons (bin (mkTup (aCons (mkTup (aCons (mkTup (aCons (kc (.int 0)) (aCons (mkTup (aCons (kc (.int 1)) (aCons (kc (.int 1)) aNil))) aNil))) aNil)) aNil)) (kc (.int 7)) dMul) (aCons (kc .none) (aCons (bin (mkTup (aCons (un (bin (rd 0) (kc (.int 0)) dIx) dList) aNil)) (slc (rd 0) (pIs (kc (.int 1))) pNo) dAdd) (aCons (bin (mkTup (aCons (mkTup aNil) aNil)) (slc (rd 0) (pIs (kc (.int 1))) pNo) dAdd) aNil)))))))) (gSeq (gExt 3 (mkLst (aCons (bin (mkTup (aCons (bin (mkTup (aCons (rd 2) aNil)) (kc (.int 5)) dMul) aNil)) (slc (rd 0) (pIs (kc (.int 1))) pNo) dAdd) (aCons (bin (mkTup (aCons (mkTup (aCons (un (rd 2) dList) aNil)) aNil)) (slc (rd 0) (pIs (kc (.int 1))) pNo) dAdd) (aCons (bin (mkTup (aCons (mkTup (aCons (mkTup (aCons (mkTup (aCons (kc (.int 9)) (aCons (mkTup (aCons (kc (.int 1)) (aCons (kc (.int 1)) aNil))) aNil))) aNil)) aNil)) aNil)) (slc (rd 0) (pIs (kc (.int 1))) pNo) dAdd) aNil))))) (gSeq (gApp 3 (bin (mkTup (aCons (mkTup (aCons (mkTup (aCons (mkTup (aCons (kc (.int 0)) (aCons (mkTup (aCons (kc (.int 1)) (aCons (kc (.int 2)) aNil))) aNil))) aNil)) aNil)) aNil)) (slc (rd 0) (pIs (kc (.int 1))) pNo) dAdd)) (gRet (bin (rd 3) (bin (rd 1) (kc (.int 10)) dMod) dIx))))))
noncomputable def m_law_bad_choice : List D → Res D := run 4 g_law_bad_choice

noncomputable def g_law_below : Gx :=
  (gRet (bin (bin (bin (rd 0) (kc (.int 0)) dIx) (bin (rd 1) (kc (.int 1)) dIx) dMul) (bin (bin (rd 1) (kc (.int 0)) dIx) (bin (rd 0) (kc (.int 1)) dIx) dMul) dLt))
noncomputable def m_law_below : List D → Res D := run 2 g_law_below

noncomputable def g_picked : Gx :=
  (gSeq (gIf (orT (notT (asB (un (rd 1) (dIsi "list")))) (asB (bin (un (rd 1) dLen) (un (rd 0) dLen) dNe))) (gRaise ("NoPicks" : PySem.Str)) gSkip) (gSeq (gFor (.tp [2, 3]) (itY (rd 0) (rd 1)) (gIf (orT (notT (asB (callD 1 m_is_whole (aCons (rd 3) aNil)))) (orT (asB (bin (rd 3) (kc (.int 0)) dLt)) (asB (bin (rd 3) (un (rd 2) dLen) dGe)))) (gRaise ("NoPicks" : PySem.Str)) gSkip)) (gRet (callD 2 m_walk_by (aCons (rd 0) (aCons (rd 1) aNil))))))
noncomputable def m_picked : List D → Res D := run 4 g_picked

noncomputable def g_law_by_base : Gx :=
  (gSeq (gTryE [("ChanceError" : PySem.Str), ("NoChoice" : PySem.Str), ("NoPicks" : PySem.Str)] (bIf (asB (bin (rd 1) (kc .none) dIs)) (bCall 1 m_checked_choice (aCons (rd 0) aNil)) (bCall 2 m_picked (aCons (rd 0) (aCons (bin (rd 1) (kc (.int 0)) dIx) aNil)))) ("ChanceError" : PySem.Str) 2 (fun c => (gRet (kc (.bool true))))) (gRet (kc (.bool false))))
noncomputable def m_law_by_base : List D → Res D := run 3 g_law_by_base

noncomputable def g_law_cell_at : Gx :=
  (gSeq (gIf (asB (bin (rd 1) (un (rd 0) dLen) dLt)) (gRet (bin (rd 0) (rd 1) dIx)) gSkip) (gSeq (gIf (asB (bin (rd 0) (mkLst aNil) dEq)) (gRet (kc (.int 0))) gSkip) (gRet (bin (bin (bin (rd 0) (bin (rd 1) (un (rd 0) dLen) dMod) dIx) (kc (.int 31)) dMul) (rd 1) dAdd))))
noncomputable def m_law_cell_at : List D → Res D := run 2 g_law_cell_at

noncomputable def g_law_mixed : Gx :=
  (gSeq (gSet 3 (bin (bin (bin (bin (callD 2 m_law_cell_at (aCons (rd 0) (aCons (rd 1) aNil))) (bin (kc (.int 7919)) (rd 1) dMul) dAdd) (kc (.int 1)) dAdd) (kc (.int 48271)) dMul) (kc (.int 2147483647)) dMod)) (gRet (bin (bin (bin (bin (bin (rd 3) (rd 3) dMul) (bin (kc (.int 7)) (rd 3) dMul) dAdd) (rd 1) dAdd) (kc (.int 2147483629)) dMod) (rd 2) dMod)))
noncomputable def m_law_mixed : List D → Res D := run 4 g_law_mixed

noncomputable def g_law_spread : Gx :=
  (gSeq (gSet 3 (kc (.dict []))) (gSeq (gFor (.nm 4) (itR1 (bin (kc (.int 1)) (callD 3 m_law_mixed (aCons (rd 0) (aCons (rd 1) (aCons (kc (.int 3)) aNil)))) dAdd)) (gSeq (gSet 5 (callD 3 m_law_mixed (aCons (rd 0) (aCons (bin (bin (rd 1) (kc (.int 1)) dAdd) (bin (kc (.int 2)) (rd 4) dMul) dAdd) (aCons (rd 2) aNil))))) (gPutD 3 (rd 5) (bin (bin (getV (rd 3) (rd 5) (kc (.int 0))) (kc (.int 1)) dAdd) (callD 3 m_law_mixed (aCons (rd 0) (aCons (bin (bin (rd 1) (kc (.int 2)) dAdd) (bin (kc (.int 2)) (rd 4) dMul) dAdd) (aCons (kc (.int 4)) aNil)))) dAdd)))) (gSeq (gSet 6 (un (rd 3) dSumV)) (gRet (un (comp [5] (.nm 5) (itS (un (un (rd 3) dList) dSorted)) yes (mkTup (aCons (rd 5) (aCons (callD 2 m_law_frac (aCons (bin (rd 3) (rd 5) dDix) (aCons (rd 6) aNil))) aNil)))) dTuple)))))
noncomputable def m_law_spread : List D → Res D := run 7 g_law_spread

noncomputable def g_law_choice : Gx :=
  (gSeq (gSet 2 (bin (kc (.int 1)) (callD 3 m_law_mixed (aCons (rd 0) (aCons (rd 1) (aCons (kc (.int 4)) aNil)))) dAdd)) (gSeq (gSet 3 (mkLst aNil)) (gSeq (gFor (.nm 4) (itR1 (rd 2)) (gSeq (gSet 5 (bin (kc (.int 1)) (callD 3 m_law_mixed (aCons (rd 0) (aCons (bin (bin (rd 1) (kc (.int 1)) dAdd) (rd 4) dAdd) (aCons (kc (.int 3)) aNil)))) dAdd)) (gApp 3 (un (comp [6] (.nm 6) (itR1 (rd 5)) yes (callD 3 m_law_spread (aCons (rd 0) (aCons (bin (bin (bin (rd 1) (kc (.int 6)) dAdd) (bin (kc (.int 21)) (rd 4) dMul) dAdd) (bin (kc (.int 7)) (rd 6) dMul) dAdd) (aCons (rd 2) aNil))))) dTuple)))) (gRet (un (rd 3) dTuple)))))
noncomputable def m_law_choice : List D → Res D := run 7 g_law_choice

noncomputable def g_law_doubled : Gx :=
  (gSeq (gIf (orT (asB (bin (callD 3 m_law_mixed (aCons (rd 0) (aCons (kc (.int 80)) (aCons (kc (.int 2)) aNil)))) (kc (.int 0)) dEq)) (asB (bin (un (rd 1) dLen) (kc (.int 4)) dGt))) (gRet (rd 1)) gSkip) (gSeq (gSet 2 (un (rd 1) dLen)) (gSeq (gSet 3 (mkLst aNil)) (gSeq (gFor (.nm 4) (itR1 (kc (.int 2))) (gFor (.nm 5) (itS (rd 1)) (gSeq (gSet 6 (mkLst aNil)) (gSeq (gFor (.tp [7, 8]) (itE (rd 5)) (gSeq (gSet 9 (mkTup (aCons (bin (bin (rd 8) (kc (.int 1)) dIx) (kc (.int 0)) dIx) (aCons (bin (kc (.int 2)) (bin (bin (rd 8) (kc (.int 1)) dIx) (kc (.int 1)) dIx) dMul) aNil)))) (gSeq (gIf (asB (bin (bin (bin (rd 9) (kc (.int 0)) dIx) (kc (.int 2)) dMod) (kc (.int 0)) dEq)) (gSet 9 (mkTup (aCons (bin (bin (bin (rd 8) (kc (.int 1)) dIx) (kc (.int 0)) dIx) (kc (.int 2)) dDiv) (aCons (bin (bin (rd 8) (kc (.int 1)) dIx) (kc (.int 1)) dIx) aNil)))) gSkip) (gExt 6 (mkLst (aCons (mkTup (aCons (bin (rd 8) (kc (.int 0)) dIx) (aCons (rd 9) aNil))) (aCons (mkTup (aCons (bin (bin (rd 8) (kc (.int 0)) dIx) (rd 2) dAdd) (aCons (rd 9) aNil))) aNil))))))) (gApp 3 (un (un (rd 6) dSortedA) dTuple)))))) (gRet (un (rd 3) dTuple))))))
noncomputable def m_law_doubled : List D → Res D := run 10 g_law_doubled

noncomputable def g_law_even : Gx :=
  (gSeq (gSet 3 (mkLst aNil)) (gSeq (gFor (.nm 4) (itR1 (rd 2)) (gSeq (gSet 5 (callD 3 m_law_mixed (aCons (rd 0) (aCons (bin (rd 1) (bin (kc (.int 2)) (rd 4) dMul) dAdd) (aCons (rd 2) aNil))))) (gSeq (gSet 6 (callD 3 m_law_mixed (aCons (rd 0) (aCons (bin (bin (rd 1) (bin (kc (.int 2)) (rd 4) dMul) dAdd) (kc (.int 1)) dAdd) (aCons (rd 2) aNil))))) (gIf (asB (bin (rd 5) (rd 6) dEq)) (gApp 3 (mkTup (aCons (mkTup (aCons (rd 5) (aCons (mkTup (aCons (kc (.int 1)) (aCons (kc (.int 1)) aNil))) aNil))) aNil))) (gApp 3 (un (comp [7] (.nm 7) (itS (un (mkLst (aCons (rd 5) (aCons (rd 6) aNil))) dSorted)) yes (mkTup (aCons (rd 7) (aCons (mkTup (aCons (kc (.int 1)) (aCons (kc (.int 2)) aNil))) aNil)))) dTuple)))))) (gRet (un (rd 3) dTuple))))
noncomputable def m_law_even : List D → Res D := run 8 g_law_even

noncomputable def g_law_figures : Gx :=
  (gSeq (gSet 1 (kc (.str ("" : PySem.Str)))) (gSeq (gWh (orT (asB (bin (rd 0) (kc (.int 0)) dGt)) (asB (bin (rd 1) (kc (.str ("" : PySem.Str))) dEq))) (gSeq (gSet 1 (bin (bin (kc (.str ("0123456789" : PySem.Str))) (bin (rd 0) (kc (.int 10)) dMod) dIx) (rd 1) dAdd)) (gSet 0 (bin (rd 0) (kc (.int 10)) dDiv)))) (gRet (rd 1))))
noncomputable def m_law_figures : List D → Res D := run 2 g_law_figures

noncomputable def g_law_goals : Gx :=
  (gRet (comp [3] (.nm 3) (itR1 (rd 2)) (asB (bin (callD 3 m_law_mixed (aCons (rd 0) (aCons (bin (rd 1) (rd 3) dAdd) (aCons (kc (.int 3)) aNil)))) (kc (.int 0)) dEq)) (rd 3)))
noncomputable def m_law_goals : List D → Res D := run 4 g_law_goals

noncomputable def g_law_is_fraction : Gx :=
  (gSeq (gIf (orT (notT (asB (un (rd 0) (dIsi "tuple")))) (asB (bin (un (rd 0) dLen) (kc (.int 2)) dNe))) (gRet (kc (.bool false))) gSkip) (gSeq (gIf (orT (notT (asB (callD 1 m_law_whole (aCons (bin (rd 0) (kc (.int 0)) dIx) aNil)))) (orT (notT (asB (callD 1 m_law_whole (aCons (bin (rd 0) (kc (.int 1)) dIx) aNil)))) (asB (bin (bin (rd 0) (kc (.int 1)) dIx) (kc (.int 1)) dLt)))) (gRet (kc (.bool false))) gSkip) (gRet (bin (callD 2 m_law_divisor (aCons (bin (rd 0) (kc (.int 0)) dIx) (aCons (bin (rd 0) (kc (.int 1)) dIx) aNil))) (kc (.int 1)) dEq))))
noncomputable def m_law_is_fraction : List D → Res D := run 1 g_law_is_fraction

noncomputable def g_law_is_spread : Gx :=
  (gSeq (gIf (orT (notT (asB (un (rd 0) (dIsi "tuple")))) (asB (bin (rd 0) (mkTup aNil) dEq))) (gRet (kc (.bool false))) gSkip) (gSeq (gSet 2 (mkTup (aCons (kc (.int 0)) (aCons (kc (.int 1)) aNil)))) (gSeq (gSet 3 (un (kc (.int 1)) dNeg)) (gSeq (gFor (.nm 4) (itS (rd 0)) (gSeq (gIf (orT (notT (asB (un (rd 4) (dIsi "tuple")))) (orT (asB (bin (un (rd 4) dLen) (kc (.int 2)) dNe)) (orT (notT (asB (callD 1 m_law_whole (aCons (bin (rd 4) (kc (.int 0)) dIx) aNil)))) (notT (asB (callD 1 m_law_is_fraction (aCons (bin (rd 4) (kc (.int 1)) dIx) aNil))))))) (gRet (kc (.bool false))) gSkip) (gSeq (gIf (orT (asB (bin (bin (rd 4) (kc (.int 0)) dIx) (rd 3) dLe)) (orT (asB (bin (bin (rd 4) (kc (.int 0)) dIx) (rd 1) dGe)) (asB (bin (bin (bin (rd 4) (kc (.int 1)) dIx) (kc (.int 0)) dIx) (kc (.int 0)) dLe)))) (gRet (kc (.bool false))) gSkip) (gSeq (gSet 3 (bin (rd 4) (kc (.int 0)) dIx)) (gSet 2 (callD 3 m_law_add (aCons (rd 2) (aCons (bin (rd 4) (kc (.int 1)) dIx) (aCons (mkTup (aCons (kc (.int 1)) (aCons (kc (.int 1)) aNil))) aNil))))))))) (gRet (bin (rd 2) (mkTup (aCons (kc (.int 1)) (aCons (kc (.int 1)) aNil))) dEq))))))
noncomputable def m_law_is_spread : List D → Res D := run 5 g_law_is_spread

noncomputable def g_law_is_walk : Gx :=
  (gSeq (gIf (orT (notT (asB (un (rd 0) (dIsi "tuple")))) (orT (asB (bin (un (rd 0) dLen) (kc (.int 1)) dLt)) (asB (bin (un (rd 0) dLen) (kc (.int 8)) dGt)))) (gRet (kc (.bool false))) gSkip) (gRet (bin (comp [1] (.nm 1) (itS (rd 0)) (notT (asB (callD 2 m_law_is_spread (aCons (rd 1) (aCons (un (rd 0) dLen) aNil))))) (rd 1)) (mkLst aNil) dEq)))
noncomputable def m_law_is_walk : List D → Res D := run 2 g_law_is_walk

noncomputable def g_law_kind : Gx :=
  (gSeq (gSet 2 (kc (.str ("" : PySem.Str)))) (gSeq (gTryM [("ChanceError" : PySem.Str), ("NoChoice" : PySem.Str), ("NoPicks" : PySem.Str)] (bIf (asB (bin (rd 1) (kc .none) dIs)) (bCall 1 m_checked_choice (aCons (rd 0) aNil)) (bCall 2 m_picked (aCons (rd 0) (aCons (bin (rd 1) (kc (.int 0)) dIx) aNil)))) ((("NoChoice" : PySem.Str), (gSet 2 (kc (.str ("choice" : PySem.Str))))) :: (("NoPicks" : PySem.Str), (gSet 2 (kc (.str ("picks" : PySem.Str))))) :: [])) (gRet (rd 2))))
noncomputable def m_law_kind : List D → Res D := run 3 g_law_kind

noncomputable def g_law_made : Gx :=
  (gSeq (gSet 2 (mkTup (aCons (kc (.int 0)) (aCons (kc (.int 1)) aNil)))) (gSeq (gFor (.nm 3) (itS (rd 0)) (gSet 2 (callD 3 m_law_add (aCons (rd 2) (aCons (bin (rd 3) (kc (.int 1)) dIx) (aCons (bin (rd 1) (bin (rd 3) (kc (.int 0)) dIx) dIx) aNil)))))) (gRet (rd 2))))
noncomputable def m_law_made : List D → Res D := run 4 g_law_made

noncomputable def g_law_number_of : Gx :=
  (gSeq (gIf (orT (asB (bin (rd 0) (kc (.str ("" : PySem.Str))) dEq)) (orT (asB (bin (un (rd 0) dLen) (kc (.int 30)) dGt)) (andT (asB (bin (bin (rd 0) (kc (.int 0)) dIx) (kc (.str ("0" : PySem.Str))) dEq)) (asB (bin (rd 0) (kc (.str ("0" : PySem.Str))) dNe))))) (gRet (kc .none)) gSkip) (gSeq (gSet 1 (kc (.int 0))) (gSeq (gFor (.nm 2) (itS (rd 0)) (gSeq (gSet 3 (binS (kc (.str ("0123456789" : PySem.Str))) (rd 2) dFind)) (gSeq (gIf (asB (bin (rd 3) (kc (.int 0)) dLt)) (gRet (kc .none)) gSkip) (gSet 1 (bin (bin (kc (.int 10)) (rd 1) dMul) (rd 3) dAdd))))) (gRet (rd 1)))))
noncomputable def m_law_number_of : List D → Res D := run 4 g_law_number_of

noncomputable def g_law_pair_of : Gx :=
  (gSeq (gSet 1 (binS (rd 0) (kc (.str (">" : PySem.Str))) dFind)) (gSeq (gIf (asB (bin (rd 1) (kc (.int 0)) dLt)) (gRet (kc .none)) gSkip) (gSeq (gSet 2 (slc (rd 0) pNo (pIs (rd 1)))) (gSeq (gSet 3 (kc (.int 1))) (gSeq (gSet 4 (binS (rd 2) (kc (.str ("/" : PySem.Str))) dFind)) (gSeq (gIf (asB (bin (rd 4) (kc (.int 0)) dGe)) (gSeq (gSet 3 (callD 1 m_law_number_of (aCons (slc (rd 2) (pIs (bin (rd 4) (kc (.int 1)) dAdd)) pNo) aNil))) (gSeq (gSet 2 (slc (rd 2) pNo (pIs (rd 4)))) (gIf (orT (asB (bin (rd 3) (kc .none) dIs)) (asB (bin (rd 3) (kc (.int 2)) dLt))) (gRet (kc .none)) gSkip))) gSkip) (gSeq (gSet 5 (mkTup (aCons (callD 1 m_law_number_of (aCons (slc (rd 0) (pIs (bin (rd 1) (kc (.int 1)) dAdd)) pNo) aNil)) (aCons (callD 1 m_law_number_of (aCons (rd 2) aNil)) aNil)))) (gSeq (gIf (orT (asB (bin (bin (rd 5) (kc (.int 0)) dIx) (kc .none) dIs)) (orT (asB (bin (bin (rd 5) (kc (.int 1)) dIx) (kc .none) dIs)) (orT (asB (bin (bin (rd 5) (kc (.int 1)) dIx) (kc (.int 0)) dEq)) (asB (bin (callD 2 m_law_divisor (aCons (bin (rd 5) (kc (.int 1)) dIx) (aCons (rd 3) aNil))) (kc (.int 1)) dNe))))) (gRet (kc .none)) gSkip) (gRet (mkTup (aCons (bin (rd 5) (kc (.int 0)) dIx) (aCons (mkTup (aCons (bin (rd 5) (kc (.int 1)) dIx) (aCons (rd 3) aNil))) aNil))))))))))))
noncomputable def m_law_pair_of : List D → Res D := run 6 g_law_pair_of

noncomputable def g_law_shares : Gx :=
  (gSeq (gSet 2 (kc (.dict []))) (gSeq (gFor (.tp [3, 4]) (itS (rd 0)) (gPutD 2 (bin (rd 1) (rd 3) dIx) (callD 3 m_law_add (aCons (getV (rd 2) (bin (rd 1) (rd 3) dIx) (mkTup (aCons (kc (.int 0)) (aCons (kc (.int 1)) aNil)))) (aCons (rd 4) (aCons (mkTup (aCons (kc (.int 1)) (aCons (kc (.int 1)) aNil))) aNil)))))) (gRet (un (rd 2) dSortedItems))))
noncomputable def m_law_shares : List D → Res D := run 5 g_law_shares

noncomputable def g_law_small : Gx :=
  (gRet (mkTup (aCons (mkTup (aCons (mkTup (aCons (kc (.int 0)) (aCons (mkTup (aCons (kc (.int 1)) (aCons (kc (.int 2)) aNil))) aNil))) (aCons (mkTup (aCons (kc (.int 1)) (aCons (mkTup (aCons (kc (.int 1)) (aCons (kc (.int 2)) aNil))) aNil))) aNil))) (aCons (mkTup (aCons (mkTup (aCons (kc (.int 0)) (aCons (mkTup (aCons (kc (.int 1)) (aCons (kc (.int 3)) aNil))) aNil))) (aCons (mkTup (aCons (kc (.int 1)) (aCons (mkTup (aCons (kc (.int 2)) (aCons (kc (.int 3)) aNil))) aNil))) aNil))) aNil))))
noncomputable def m_law_small : List D → Res D := run 0 g_law_small

noncomputable def g_law_spoilt_spread : Gx :=
  (gSeq (gSet 2 (bin (bin (rd 1) (kc (.int 16)) dDiv) (un (rd 0) dLen) dMod)) (gSeq (gSet 3 (bin (bin (rd 0) (rd 2) dIx) (kc (.int 0)) dIx)) (gSeq (gSet 4 (bin (bin (rd 0) (rd 2) dIx) (kc (.int 1)) dIx)) (gSeq (gSet 5 (mkLst (aCons (mkTup (aCons (un (kc (.int 1)) dNeg) (aCons (rd 4) aNil))) (aCons (mkTup (aCons (kc (.int 9)) (aCons (rd 4) aNil))) (aCons (mkTup (aCons (kc (.bool true)) (aCons (rd 4) aNil))) (aCons (mkTup (aCons (kc (.str ("0" : PySem.Str))) (aCons (rd 4) aNil))) (aCons (mkTup (aCons (rd 3) (aCons (mkTup (aCons (kc (.int 0)) (aCons (kc (.int 1)) aNil))) aNil))) (aCons (mkTup (aCons (rd 3) (aCons (mkTup (aCons (un (kc (.int 1)) dNeg) (aCons (kc (.int 2)) aNil))) aNil))) (aCons (mkTup (aCons (rd 3) (aCons (mkTup (aCons (kc (.int 2)) (aCons (kc (.int 4)) aNil))) aNil))) aNil))))))))) (gSeq (gExt 5 (mkLst (aCons (mkTup (aCons (rd 3) (aCons (kc (.int 1)) aNil))) (aCons (mkTup (aCons (rd 3) (aCons (mkTup (aCons (kc (.int 1)) (aCons (kc (.int 1)) aNil))) aNil))) (aCons (mkLst (aCons (rd 3) (aCons (rd 4) aNil))) (aCons (mkTup (aCons (rd 3) aNil)) (aCons (mkTup (aCons (rd 3) (aCons (mkTup (aCons (bin (rd 4) (kc (.int 0)) dIx) (aCons (bin (bin (rd 4) (kc (.int 1)) dIx) (kc (.int 1)) dAdd) aNil))) aNil))) aNil))))))) (gSeq (gIf (asB (bin (bin (rd 1) (kc (.int 16)) dMod) (kc (.int 12)) dLt)) (gRet (bin (bin (slc (rd 0) pNo (pIs (rd 2))) (mkTup (aCons (bin (rd 5) (bin (rd 1) (kc (.int 16)) dMod) dIx) aNil)) dAdd) (slc (rd 0) (pIs (bin (rd 2) (kc (.int 1)) dAdd)) pNo) dAdd)) gSkip) (gRet (bin (mkLst (aCons (un (rd 0) dList) (aCons (mkTup aNil) (aCons (un (rd 0) dRev) (aCons (bin (rd 0) (slc (rd 0) (pIs (un (kc (.int 1)) dNeg)) pNo) dAdd) aNil))))) (bin (bin (rd 1) (kc (.int 16)) dMod) (kc (.int 12)) dSub) dIx))))))))
noncomputable def m_law_spoilt_spread : List D → Res D := run 6 g_law_spoilt_spread

noncomputable def g_law_step : Gx :=
  (gSeq (gSet 2 (comp [5] (.nm 5) (itS (rd 0)) yes (mkTup (aCons (kc (.int 0)) (aCons (kc (.int 1)) aNil))))) (gSeq (gFor (.nm 3) (itR1 (un (rd 0) dLen)) (gFor (.nm 4) (itS (bin (rd 0) (rd 3) dIx)) (gPutL 2 (bin (rd 4) (kc (.int 0)) dIx) (callD 3 m_law_add (aCons (bin (rd 2) (bin (rd 4) (kc (.int 0)) dIx) dIx) (aCons (bin (rd 1) (rd 3) dIx) (aCons (bin (rd 4) (kc (.int 1)) dIx) aNil))))))) (gRet (rd 2))))
noncomputable def m_law_step : List D → Res D := run 6 g_law_step

noncomputable def g_law_walk : Gx :=
  (gSeq (gSet 2 (bin (kc (.int 1)) (callD 3 m_law_mixed (aCons (rd 0) (aCons (rd 1) (aCons (kc (.int 5)) aNil)))) dAdd)) (gSeq (gIf (asB (bin (callD 3 m_law_mixed (aCons (rd 0) (aCons (bin (rd 1) (kc (.int 1)) dAdd) (aCons (kc (.int 6)) aNil)))) (kc (.int 5)) dEq)) (gSet 2 (kc (.int 8))) gSkip) (gRet (un (comp [3] (.nm 3) (itR1 (rd 2)) yes (callD 3 m_law_spread (aCons (rd 0) (aCons (bin (bin (rd 1) (kc (.int 2)) dAdd) (bin (kc (.int 7)) (rd 3) dMul) dAdd) (aCons (rd 2) aNil))))) dTuple))))
noncomputable def m_law_walk : List D → Res D := run 4 g_law_walk

noncomputable def g_law_walk_of : Gx :=
  (gSeq (gSet 1 (binS (rd 0) (kc (.str (" ; " : PySem.Str))) dSplit)) (gSeq (gSet 2 (mkLst aNil)) (gSeq (gFor (.nm 3) (itS (rd 1)) (gSeq (gSet 4 (comp [8] (.nm 8) (itS (binS (rd 3) (kc (.str (" " : PySem.Str))) dSplit)) yes (callD 1 m_law_pair_of (aCons (rd 8) aNil)))) (gSeq (gIf (asB (bin (kc .none) (rd 4) dIn)) (gRet (kc .none)) gSkip) (gSeq (gSet 5 (comp [7] (.nm 7) (itS (rd 4)) yes (bin (rd 7) (kc (.int 0)) dIx))) (gSeq (gIf (orT (asB (bin (rd 5) (un (rd 5) dSortedSet) dNe)) (asB (bin (bin (rd 5) (un (kc (.int 1)) dNeg) dIx) (un (rd 1) dLen) dGe))) (gRet (kc .none)) gSkip) (gSeq (gSet 6 (mkTup (aCons (kc (.int 0)) (aCons (kc (.int 1)) aNil)))) (gSeq (gFor (.nm 7) (itS (rd 4)) (gSet 6 (callD 3 m_law_add (aCons (rd 6) (aCons (bin (rd 7) (kc (.int 1)) dIx) (aCons (mkTup (aCons (kc (.int 1)) (aCons (kc (.int 1)) aNil))) aNil)))))) (gSeq (gIf (asB (bin (rd 6) (mkTup (aCons (kc (.int 1)) (aCons (kc (.int 1)) aNil))) dNe)) (gRet (kc .none)) gSkip) (gApp 2 (un (rd 4) dTuple)))))))))) (gSeq (gIf (asB (bin (un (rd 2) dLen) (kc (.int 8)) dGt)) (gRet (kc .none)) gSkip) (gRet (un (rd 2) dTuple))))))
noncomputable def m_law_walk_of : List D → Res D := run 9 g_law_walk_of

noncomputable def g_law_way_cost : Gx :=
  (gSeq (gSet 3 (mkTup (aCons (rd 1) (aCons (kc (.int 1)) aNil)))) (gSeq (gFor (.nm 4) (itS (rd 0)) (gSeq (gIf (asB (bin (bin (rd 2) (bin (rd 4) (kc (.int 0)) dIx) dIx) (kc .none) dIs)) (gRet (kc .none)) gSkip) (gSet 3 (callD 3 m_law_add (aCons (rd 3) (aCons (bin (rd 4) (kc (.int 1)) dIx) (aCons (bin (rd 2) (bin (rd 4) (kc (.int 0)) dIx) dIx) aNil))))))) (gRet (rd 3))))
noncomputable def m_law_way_cost : List D → Res D := run 5 g_law_way_cost

noncomputable def g_law_walked : Gx :=
  (gSeq (gFor (.nm 5) (itR1 (un (rd 0) dLen)) (gIf (orT (asB (bin (rd 5) (rd 2) dIn)) (asB (bin (bin (rd 3) (rd 5) dIx) (kc .none) dIs))) (gIf (orT (asB (bin (bin (rd 4) (rd 5) dIx) (kc (.int 0)) dNe)) (andT (asB (bin (bin (rd 3) (rd 5) dIx) (kc .none) dIsNot)) (asB (bin (bin (rd 3) (rd 5) dIx) (mkTup (aCons (kc (.int 0)) (aCons (kc (.int 1)) aNil))) dNe)))) (gRet (kc (.bool false))) gSkip) (gSeq (gSet 6 (comp [7, 8] (.tp [7, 8]) (itY (bin (rd 0) (rd 5) dIx) (bin (rd 1) (rd 5) dIx)) yes (callD 3 m_law_way_cost (aCons (rd 7) (aCons (rd 8) (aCons (rd 3) aNil)))))) (gSeq (gIf (asB (bin (bin (rd 6) (bin (rd 4) (rd 5) dIx) dIx) (bin (rd 3) (rd 5) dIx) dNe)) (gRet (kc (.bool false))) gSkip) (gIf (asB (bin (comp [8] (.nm 8) (itS (rd 6)) (andT (asB (bin (rd 8) (kc .none) dIsNot)) (asB (callD 2 m_law_below (aCons (rd 8) (aCons (bin (rd 3) (rd 5) dIx) aNil))))) (rd 8)) (mkLst aNil) dNe)) (gRet (kc (.bool false))) gSkip))))) (gRet (kc (.bool true))))
noncomputable def m_law_walked : List D → Res D := run 9 g_law_walked

noncomputable def g_law_ways : Gx :=
  (gSeq (gSet 4 (mkLst aNil)) (gSeq (gFor (.nm 5) (itR1 (un (rd 0) dLen)) (gIf (andT (asB (bin (bin (rd 1) (rd 5) dIx) (mkTup (aCons (kc (.int 0)) (aCons (kc (.int 1)) aNil))) dNe)) (asB (bin (bin (rd 2) (rd 5) dIx) (bin (rd 3) (kc (.int 0)) dIx) dEq))) (gApp 4 (mkTup (aCons (bin (rd 1) (rd 5) dIx) (aCons (mkLst (aCons (rd 5) aNil)) aNil)))) gSkip)) (gSeq (gFor (.nm 6) (itS (slc (rd 3) (pIs (kc (.int 1))) pNo)) (gSeq (gSet 7 (mkLst aNil)) (gSeq (gFor (.tp [8, 9]) (itS (rd 4)) (gFor (.nm 10) (itS (bin (rd 0) (bin (rd 9) (un (kc (.int 1)) dNeg) dIx) dIx)) (gIf (asB (bin (bin (rd 2) (bin (rd 10) (kc (.int 0)) dIx) dIx) (rd 6) dEq)) (gApp 7 (mkTup (aCons (callD 3 m_law_add (aCons (mkTup (aCons (kc (.int 0)) (aCons (kc (.int 1)) aNil))) (aCons (rd 8) (aCons (bin (rd 10) (kc (.int 1)) dIx) aNil)))) (aCons (bin (rd 9) (mkLst (aCons (bin (rd 10) (kc (.int 0)) dIx) aNil)) dAdd) aNil)))) gSkip))) (gSet 4 (rd 7))))) (gRet (rd 4)))))
noncomputable def m_law_ways : List D → Res D := run 11 g_law_ways

noncomputable def g_law_written : Gx :=
  (gSeq (gSet 1 (mkLst aNil)) (gSeq (gFor (.nm 2) (itS (rd 0)) (gSeq (gSet 3 (mkLst aNil)) (gSeq (gFor (.tp [4, 5]) (itS (rd 2)) (gApp 3 (bin (bin (bin (mkLst (aCons (bin (bin (un (bin (rd 5) (kc (.int 0)) dIx) dStr) (kc (.str ("/" : PySem.Str))) dAdd) (un (bin (rd 5) (kc (.int 1)) dIx) dStr) dAdd) (aCons (un (bin (rd 5) (kc (.int 0)) dIx) dStr) aNil))) (un (bin (bin (rd 5) (kc (.int 1)) dIx) (kc (.int 1)) dEq) dInt) dIx) (kc (.str (">" : PySem.Str))) dAdd) (un (rd 4) dStr) dAdd))) (gApp 1 (binS (kc (.str (" " : PySem.Str))) (rd 3) dJoin))))) (gRet (binS (kc (.str (" ; " : PySem.Str))) (rd 1) dJoin))))
noncomputable def m_law_written : List D → Res D := run 6 g_law_written

noncomputable def g_never : Gx :=
  (gSeq (gSet 2 (kc (.dict []))) (gSeq (gFor (.nm 3) (itR1 (un (rd 0) dLen)) (gIf (asB (bin (rd 3) (rd 1) dNotIn)) (gPutD 2 (rd 3) (kc (.int 0))) gSkip)) (gSeq (gSet 4 (un (kc (.int 1)) dNeg)) (gSeq (gWh (asB (bin (rd 4) (un (rd 2) dLen) dNe)) (gSeq (gSet 4 (un (rd 2) dLen)) (gSeq (gSet 5 (kc (.dict []))) (gSeq (gForK (.nm 3) 2 (gSeq (gSet 6 (comp [7] (.nm 7) (itR1 (un (bin (rd 0) (rd 3) dIx) dLen)) (asB (un (comp [8, 9] (.tp [8, 9]) (itS (bin (bin (rd 0) (rd 3) dIx) (rd 7) dIx)) yes (bin (rd 8) (rd 2) dIn)) dAll)) (rd 7))) (gIf (asB (bin (rd 6) (mkLst aNil) dNe)) (gPutD 5 (rd 3) (bin (rd 6) (kc (.int 0)) dIx)) gSkip))) (gSet 2 (rd 5)))))) (gRet (rd 2))))))
noncomputable def m_never : List D → Res D := run 10 g_never

noncomputable def g_worse : Gx :=
  (gSeq (gSet 4 (un (rd 2) dList)) (gSeq (gFor (.nm 5) (itS (rd 3)) (gSeq (gSet 6 (bin (rd 1) (rd 5) dIx)) (gFor (.nm 7) (itR1 (un (bin (rd 0) (rd 5) dIx) dLen)) (gSeq (gSet 8 (callD 2 m_made_of (aCons (bin (bin (rd 0) (rd 5) dIx) (rd 7) dIx) (aCons (rd 1) aNil)))) (gIf (asB (callD 2 m_below (aCons (rd 8) (aCons (rd 6) aNil)))) (gSeq (gSet 6 (rd 8)) (gPutL 4 (rd 5) (rd 7))) gSkip))))) (gRet (rd 4))))
noncomputable def m_worse : List D → Res D := run 9 g_worse

noncomputable def g_least : Gx :=
  (gSeq (gDrop (callD 2 m_need_rooms (aCons (rd 0) (aCons (rd 1) aNil)))) (gSeq (gSet 2 (callD 2 m_never (aCons (rd 0) (aCons (rd 1) aNil)))) (gSeq (gSet 3 (comp [7] (.nm 7) (itR1 (un (rd 0) dLen)) (andT (asB (bin (rd 7) (rd 2) dNotIn)) (asB (bin (rd 7) (rd 1) dNotIn))) (rd 7))) (gSeq (gSet 4 (comp [7] (.nm 7) (itR1 (un (rd 0) dLen)) yes (getV (rd 2) (rd 7) (kc (.int 0))))) (gSeq (gSet 5 (callD 4 m_by_picks (aCons (rd 0) (aCons (rd 4) (aCons (rd 1) (aCons (rd 3) aNil)))))) (gSeq (gSet 6 (callD 4 m_worse (aCons (rd 0) (aCons (rd 5) (aCons (rd 4) (aCons (rd 3) aNil)))))) (gSeq (gWh (asB (bin (rd 6) (rd 4) dNe)) (gSeq (gSet 4 (rd 6)) (gSeq (gSet 5 (callD 4 m_by_picks (aCons (rd 0) (aCons (rd 4) (aCons (rd 1) (aCons (rd 3) aNil)))))) (gSet 6 (callD 4 m_worse (aCons (rd 0) (aCons (rd 5) (aCons (rd 4) (aCons (rd 3) aNil))))))))) (gRet (mkTup (aCons (rd 5) (aCons (rd 4) aNil)))))))))))
noncomputable def m_least : List D → Res D := run 8 g_least

noncomputable def g_likeliest : Gx :=
  (gSeq (gDrop (callD 2 m_need_begin (aCons (rd 0) (aCons (rd 1) aNil)))) (gSeq (gDrop (callD 2 m_need_marks (aCons (rd 0) (aCons (rd 2) aNil)))) (gSeq (gDrop (callD 1 m_need_seen (aCons (rd 3) aNil))) (gSeq (gSet 4 (comp [9] (.nm 9) (itS (rd 0)) yes (kc .none))) (gSeq (gFor (.nm 5) (itR1 (un (rd 0) dLen)) (gIf (andT (asB (bin (bin (rd 1) (rd 5) dIx) (kc (.tuple [.int 0, .int 1])) dNe)) (asB (bin (bin (rd 2) (rd 5) dIx) (bin (rd 3) (kc (.int 0)) dIx) dEq))) (gPutL 4 (rd 5) (mkTup (aCons (bin (rd 1) (rd 5) dIx) (aCons (mkLst (aCons (rd 5) aNil)) aNil)))) gSkip)) (gSeq (gFor (.nm 6) (itS (slc (rd 3) (pIs (kc (.int 1))) pNo)) (gSet 4 (callD 4 m_further (aCons (rd 0) (aCons (rd 4) (aCons (rd 2) (aCons (rd 6) aNil))))))) (gSeq (gSet 7 (kc .none)) (gSeq (gFor (.nm 8) (itS (rd 4)) (gIf (asB (bin (rd 8) (kc .none) dIsNot)) (gSet 7 (callD 2 m_nearer (aCons (rd 7) (aCons (rd 8) aNil)))) gSkip)) (gSeq (gIf (asB (bin (rd 7) (kc .none) dIs)) (gRet (kc .none)) gSkip) (gRet (bin (rd 7) (kc (.int 1)) dIx)))))))))))
noncomputable def m_likeliest : List D → Res D := run 10 g_likeliest

noncomputable def g_numbered : Gx :=
  (gRet (comp [1] (.nm 1) (itS (rd 0)) yes (idx (rd 0) (rd 1))))
noncomputable def m_numbered : List D → Res D := run 2 g_numbered

noncomputable def g_shares_to : Gx :=
  (gSeq (gSet 2 (mkLst aNil)) (gSeq (gFor (.nm 3) (itS (un (rd 1) dSortedSet)) (gApp 2 (callD 1 m_summed (aCons (comp [4, 5] (.tp [4, 5]) (itS (rd 0)) (asB (bin (bin (rd 1) (rd 4) dIx) (rd 3) dEq)) (rd 5)) aNil)))) (gRet (rd 2))))
noncomputable def m_shares_to : List D → Res D := run 6 g_shares_to

noncomputable def g_likeness : Gx :=
  (gSeq (gDrop (callD 2 m_need_marks (aCons (rd 0) (aCons (rd 1) aNil)))) (gSeq (gSet 2 (callD 1 m_numbered (aCons (rd 1) aNil))) (gSeq (gSet 3 (mkLst aNil)) (gSeq (gWh (asB (bin (rd 2) (rd 3) dNe)) (gSeq (gSet 3 (rd 2)) (gSet 2 (callD 1 m_numbered (aCons (comp [4] (.nm 4) (itR1 (un (rd 0) dLen)) yes (mkTup (aCons (bin (rd 3) (rd 4) dIx) (aCons (callD 2 m_shares_to (aCons (bin (rd 0) (rd 4) dIx) (aCons (rd 3) aNil))) aNil)))) aNil))))) (gRet (rd 2))))))
noncomputable def m_likeness : List D → Res D := run 5 g_likeness

noncomputable def g_steady : Gx :=
  (gSeq (gSet 2 (mkLst aNil)) (gSeq (gFor (.nm 3) (itS (slc (rd 1) (pIs (kc (.int 1))) pNo)) (gSeq (gSet 4 (bin (comp [5] (.nm 5) (itS (rd 1)) yes (kc (.tuple [.int 0, .int 1]))) (mkLst (aCons (kc (.tuple [.int 0, .int 1])) aNil)) dCat)) (gSeq (gFor (.nm 5) (itS (rd 1)) (gFor (.tp [6, 7]) (itS (bin (rd 0) (rd 5) dIx)) (gIf (asB (bin (rd 6) (rd 3) dEq)) (gPutL 4 (idx (rd 1) (rd 5)) (callD 2 m_plus (aCons (bin (rd 4) (idx (rd 1) (rd 5)) dIx) (aCons (rd 7) aNil)))) gSkip))) (gSeq (gPutL 4 (idx (rd 1) (rd 3)) (callD 2 m_less (aCons (bin (rd 4) (idx (rd 1) (rd 3)) dIx) (aCons (kc (.tuple [.int 1, .int 1])) aNil)))) (gApp 2 (rd 4)))))) (gSeq (gApp 2 (bin (comp [5] (.nm 5) (itS (rd 1)) yes (kc (.tuple [.int 1, .int 1]))) (mkLst (aCons (kc (.tuple [.int 1, .int 1])) aNil)) dAdd)) (gRet (callD 1 m_solved (aCons (rd 2) aNil))))))
noncomputable def m_steady : List D → Res D := run 8 g_steady

noncomputable def g_long_run : Gx :=
  (gSeq (gDrop (callD 2 m_need_room (aCons (rd 0) (aCons (rd 1) aNil)))) (gSeq (gSet 2 (comp [7] (.nm 7) (itS (rd 0)) yes (kc (.tuple [.int 0, .int 1])))) (gSeq (gFor (.nm 3) (itS (callD 1 m_ends (aCons (rd 0) aNil))) (gSeq (gSet 4 (bin (callD 2 m_chances_of (aCons (rd 0) (aCons (rd 3) aNil))) (rd 1) dIx)) (gFor (.tp [5, 6]) (itY (rd 3) (callD 2 m_steady (aCons (rd 0) (aCons (rd 3) aNil)))) (gPutL 2 (rd 5) (callD 2 m_times (aCons (rd 4) (aCons (rd 6) aNil))))))) (gRet (rd 2)))))
noncomputable def m_long_run : List D → Res D := run 8 g_long_run

noncomputable def g_most : Gx :=
  (gSeq (gDrop (callD 2 m_need_rooms (aCons (rd 0) (aCons (rd 1) aNil)))) (gSeq (gSet 2 (comp [5] (.nm 5) (itS (rd 0)) yes (kc (.int 0)))) (gSeq (gSet 3 (callD 2 m_chances_of (aCons (callD 2 m_walk_by (aCons (rd 0) (aCons (rd 2) aNil))) (aCons (rd 1) aNil)))) (gSeq (gSet 4 (callD 4 m_better (aCons (rd 0) (aCons (rd 3) (aCons (rd 2) (aCons (rd 1) aNil)))))) (gSeq (gWh (asB (bin (rd 4) (rd 2) dNe)) (gSeq (gSet 2 (rd 4)) (gSeq (gSet 3 (callD 2 m_chances_of (aCons (callD 2 m_walk_by (aCons (rd 0) (aCons (rd 2) aNil))) (aCons (rd 1) aNil)))) (gSet 4 (callD 4 m_better (aCons (rd 0) (aCons (rd 3) (aCons (rd 2) (aCons (rd 1) aNil))))))))) (gRet (mkTup (aCons (rd 3) (aCons (rd 2) aNil)))))))))
noncomputable def m_most : List D → Res D := run 6 g_most

noncomputable def g_need_costs : Gx :=
  (gSeq (gIf (orT (notT (asB (un (rd 1) (dIsi "list")))) (asB (bin (un (rd 1) dLen) (un (rd 0) dLen) dNe))) (gRaise ("NoCosts" : PySem.Str)) gSkip) (gFor (.tp [2, 3]) (itY (rd 0) (rd 1)) (gSeq (gIf (orT (notT (asB (un (rd 3) (dIsi "list")))) (asB (bin (un (rd 3) dLen) (un (rd 2) dLen) dNe))) (gRaise ("NoCosts" : PySem.Str)) gSkip) (gFor (.nm 4) (itS (rd 3)) (gIf (orT (notT (asB (callD 1 m_is_whole (aCons (rd 4) aNil)))) (asB (bin (rd 4) (kc (.int 1)) dLt))) (gRaise ("NoCosts" : PySem.Str)) gSkip)))))
noncomputable def m_need_costs : List D → Res D := run 5 g_need_costs

noncomputable def g_number_of : Gx :=
  (gSeq (gIf (orT (asB (bin (rd 0) (kc (.str ("" : PySem.Str))) dEq)) (orT (asB (bin (un (rd 0) dLen) (kc (.int 30)) dGt)) (andT (asB (bin (bin (rd 0) (kc (.int 0)) dIx) (kc (.str ("0" : PySem.Str))) dEq)) (asB (bin (rd 0) (kc (.str ("0" : PySem.Str))) dNe))))) (gRaise ("NoText" : PySem.Str)) gSkip) (gSeq (gFor (.nm 1) (itS (rd 0)) (gIf (asB (bin (rd 1) (kc (.str ("0123456789" : PySem.Str))) dNotIn)) (gRaise ("NoText" : PySem.Str)) gSkip)) (gRet (un (rd 0) dIntT))))
noncomputable def m_number_of : List D → Res D := run 2 g_number_of

noncomputable def g_share_of : Gx :=
  (gSeq (gSet 1 (binS (rd 0) (kc (.str ("/" : PySem.Str))) dPart)) (gSeq (gIf (asB (bin (bin (rd 1) (kc (.int 1)) dIx) (kc (.str ("" : PySem.Str))) dEq)) (gRet (mkTup (aCons (callD 1 m_number_of (aCons (rd 0) aNil)) (aCons (kc (.int 1)) aNil)))) gSkip) (gSeq (gSet 2 (callD 1 m_number_of (aCons (bin (rd 1) (kc (.int 2)) dIx) aNil))) (gSeq (gIf (asB (bin (rd 2) (kc (.int 2)) dLt)) (gRaise ("NoText" : PySem.Str)) gSkip) (gRet (mkTup (aCons (callD 1 m_number_of (aCons (bin (rd 1) (kc (.int 0)) dIx) aNil)) (aCons (rd 2) aNil))))))))
noncomputable def m_share_of : List D → Res D := run 3 g_share_of

noncomputable def g_pair_of : Gx :=
  (gSeq (gSet 1 (binS (rd 0) (kc (.str (">" : PySem.Str))) dPart)) (gSeq (gIf (asB (bin (bin (rd 1) (kc (.int 1)) dIx) (kc (.str ("" : PySem.Str))) dEq)) (gRaise ("NoText" : PySem.Str)) gSkip) (gRet (mkTup (aCons (callD 1 m_number_of (aCons (bin (rd 1) (kc (.int 2)) dIx) aNil)) (aCons (callD 1 m_share_of (aCons (bin (rd 1) (kc (.int 0)) dIx) aNil)) aNil))))))
noncomputable def m_pair_of : List D → Res D := run 2 g_pair_of

noncomputable def g_put_together : Gx :=
  (gSeq (gSet 2 (callD 2 m_likeness (aCons (rd 0) (aCons (rd 1) aNil)))) (gSeq (gSet 3 (un (rd 2) dSortedSet)) (gSeq (gSet 4 (mkLst aNil)) (gSeq (gFor (.nm 5) (itS (rd 3)) (gSeq (gSet 6 (callD 2 m_shares_to (aCons (bin (rd 0) (rd 5) dIx) (aCons (rd 2) aNil)))) (gApp 4 (un (comp [7] (.nm 7) (itR1 (un (rd 3) dLen)) (asB (bin (bin (rd 6) (rd 7) dIx) (kc (.tuple [.int 0, .int 1])) dNe)) (mkTup (aCons (rd 7) (aCons (bin (rd 6) (rd 7) dIx) aNil)))) dTuple)))) (gRet (un (rd 4) dTuple))))))
noncomputable def m_put_together : List D → Res D := run 8 g_put_together

noncomputable def g_read : Gx :=
  (gSeq (gIf (notT (asB (un (rd 0) (dIsi "str")))) (gRaise ("NoText" : PySem.Str)) gSkip) (gSeq (gSet 1 (un (comp [2] (.nm 2) (itS (binS (rd 0) (kc (.str (" ; " : PySem.Str))) dSplit)) yes (un (comp [3] (.nm 3) (itS (binS (rd 2) (kc (.str (" " : PySem.Str))) dSplit)) yes (callD 1 m_pair_of (aCons (rd 3) aNil))) dTuple)) dTuple)) (gSeq (gIf (notT (asB (callD 1 m_is_walk (aCons (rd 1) aNil)))) (gRaise ("NoText" : PySem.Str)) gSkip) (gRet (rd 1)))))
noncomputable def m_read : List D → Res D := run 4 g_read

noncomputable def g_shown_pair : Gx :=
  (gSeq (gIf (asB (bin (bin (rd 1) (kc (.int 1)) dIx) (kc (.int 1)) dEq)) (gRet (bin (bin (un (bin (rd 1) (kc (.int 0)) dIx) dStr) (kc (.str (">" : PySem.Str))) dAdd) (un (rd 0) dStr) dAdd)) gSkip) (gRet (bin (bin (bin (bin (un (bin (rd 1) (kc (.int 0)) dIx) dStr) (kc (.str ("/" : PySem.Str))) dAdd) (un (bin (rd 1) (kc (.int 1)) dIx) dStr) dAdd) (kc (.str (">" : PySem.Str))) dAdd) (un (rd 0) dStr) dAdd)))
noncomputable def m_shown_pair : List D → Res D := run 2 g_shown_pair

noncomputable def g_shown : Gx :=
  (gSeq (gSet 1 (comp [2] (.nm 2) (itS (rd 0)) yes (binS (kc (.str (" " : PySem.Str))) (comp [3, 4] (.tp [3, 4]) (itS (rd 2)) yes (callD 2 m_shown_pair (aCons (rd 3) (aCons (rd 4) aNil)))) dJoin))) (gRet (binS (kc (.str (" ; " : PySem.Str))) (rd 1) dJoin)))
noncomputable def m_shown : List D → Res D := run 5 g_shown

noncomputable def g_values_by : Gx :=
  (gSeq (gSet 4 (comp [5, 6] (.tp [5, 6]) (itY (rd 1) (rd 2)) yes (bin (rd 5) (rd 6) dIx))) (gRet (callD 3 m_costs_by (aCons (callD 2 m_walk_by (aCons (rd 0) (aCons (rd 2) aNil))) (aCons (rd 4) (aCons (rd 3) aNil))))))
noncomputable def m_values_by : List D → Res D := run 7 g_values_by

noncomputable def g_waits : Gx :=
  (gSeq (gDrop (callD 2 m_need_rooms (aCons (rd 0) (aCons (rd 1) aNil)))) (gSeq (gSet 2 (callD 2 m_chances_of (aCons (rd 0) (aCons (rd 1) aNil)))) (gSeq (gSet 3 (comp [5] (.nm 5) (itR1 (un (rd 0) dLen)) (andT (asB (bin (bin (rd 2) (rd 5) dIx) (kc (.tuple [.int 1, .int 1])) dEq)) (asB (bin (rd 5) (rd 1) dNotIn))) (rd 5))) (gSeq (gSet 4 (callD 4 m_solved_for (aCons (rd 0) (aCons (rd 3) (aCons (comp [6] (.nm 6) (itS (rd 0)) yes (kc (.tuple [.int 0, .int 1]))) (aCons (kc (.tuple [.int 1, .int 1])) aNil)))))) (gSeq (gFor (.nm 5) (itR1 (un (rd 0) dLen)) (gIf (asB (bin (bin (rd 2) (rd 5) dIx) (kc (.tuple [.int 1, .int 1])) dNe)) (gPutL 4 (rd 5) (kc .none)) gSkip)) (gRet (rd 4)))))))
noncomputable def m_waits : List D → Res D := run 7 g_waits

noncomputable def g_where : Gx :=
  (gSeq (gSet 4 (callD 4 m_reckoned (aCons (rd 0) (aCons (rd 1) (aCons (rd 2) (aCons (rd 3) aNil)))))) (gSeq (gSet 5 (callD 1 m_summed (aCons (rd 4) aNil))) (gSeq (gIf (asB (bin (rd 5) (kc (.tuple [.int 0, .int 1])) dEq)) (gRet (kc .none)) gSkip) (gRet (comp [6] (.nm 6) (itS (rd 4)) yes (callD 2 m_over (aCons (rd 6) (aCons (rd 5) aNil))))))))
noncomputable def m_where : List D → Res D := run 7 g_where

end LW
end

section
set_option Elab.async false
set_option linter.all false
set_option maxRecDepth 100000
set_option maxHeartbeats 1000000
set_option autoImplicit false
/-! PF: fractions: what divisor, frac, plus .. are worth. -/
namespace LW
open PySem hiding run
open L2 hiding bin
open DL

/-! ### data -/
/-- a fraction as the program has it -/
def fr (q : Rat) : D := .tuple [.int q.num, .int q.den]
theorem fr_zero : fr 0 = .tuple [.int 0, .int 1] := rfl
theorem fr_one : fr 1 = .tuple [.int 1, .int 1] := rfl
theorem fr_int (i : Int) : fr (i : Rat) = .tuple [.int i, .int 1] := rfl
theorem shaped_int (i : Int) : SeqAt.shaped (.int i) = true := rfl
theorem shaped_bool (b : Bool) : SeqAt.shaped (.bool b) = true := rfl
theorem shaped_none : SeqAt.shaped .none = true := rfl
theorem shaped_fr (q : Rat) : SeqAt.shaped (fr q) = true := rfl
theorem eqv_fr (a b : Rat) : PyData.eqv (fr a) (fr b) = decide (a = b) := by
  have e : PyData.eqv (fr a) (fr b) = ((a.num == b.num) && (((a.den : Int) == (b.den : Int)) && true)) := rfl
  rw [e, Bool.and_true]
  by_cases h : a = b
  · subst h; simp
  · rw [decide_eq_false h]
    by_cases h1 : a.num = b.num
    · have h2 : ¬ a.den = b.den := fun z => h (Rat.ext h1 z)
      have h3 : ¬ (a.den : Int) = (b.den : Int) := by omega
      have h4 : ((a.den : Int) == (b.den : Int)) = false := by simpa using h3
      rw [h4, Bool.and_false]
    · simp [h1]
theorem fr_inj {a b : Rat} (h : fr a = fr b) : a = b := by
  have e := eqv_fr a b
  have e2 : PyData.eqv (fr a) (fr a) = decide (a = a) := eqv_fr a a
  rw [← h, e2] at e
  simpa using e.symm

/-! ### evaluation -/
theorem atI0 {α : Type} (a : α) (l : List α) : atI (a :: l) 0 = some a := by simp [atI, ixN]
theorem ixN1 (n : Nat) : ixN (n + 1 + 1) 1 = some 1 := by
  show (if (0 : Int) ≤ 1 then _ else _) = _
  rw [if_pos (by omega)]
  exact if_pos (by omega)
theorem atI1 {α : Type} (a b : α) (l : List α) : atI (a :: b :: l) 1 = some b := by
  unfold atI
  rw [List.length_cons, List.length_cons, ixN1]; rfl
theorem atIn {α : Type} {l : List α} {i : Nat} {a : α} (h : l[i]? = some a) : atI l (i : Int) = some a := atI_nat h
theorem ix_fr0 (q : Rat) : dIx (fr q) (.int 0) = some (.int q.num) := by show atI _ _ = _; exact atI0 _ _
theorem ix_fr1 (q : Rat) : dIx (fr q) (.int 1) = some (.int q.den) := by show atI _ _ = _; exact atI1 _ _ _
theorem mul_ok {i j : Int} (h : mulOk i j = true) : dMul (.int i) (.int j) = some (.int (i * j)) := by
  show (if mulOk i j = true then _ else _) = _
  rw [if_pos h]
theorem mulOk_log {i j : Int} (h : i.natAbs.log2 + j.natAbs.log2 < 1000000) : mulOk i j = true := mulOk_iff.mpr (CMulW.ok h)
theorem log2_lt {x : Nat} {n : Nat} (h : x < 2 ^ n) (h0 : 0 < n) : x.log2 < n := by
  by_cases e : x = 0
  · subst e; simpa using h0
  · exact (Nat.log2_lt e).mpr h
theorem mulOk_pow {i j : Int} {n m : Nat} (hi : i.natAbs < 2 ^ n) (hj : j.natAbs < 2 ^ m) (h : n + m ≤ 1000000) (hn : 0 < n := by omega) (hm : 0 < m := by omega) : mulOk i j = true := mulOk_log (by
  have := log2_lt hi hn
  have := log2_lt hj hm
  omega)
theorem div_ok {i j : Int} (h0 : j ≠ 0) (h : j.natAbs < 2 ^ 9000) : dDiv (.int i) (.int j) = some (.int (i.fdiv j)) := by
  show (if _ then _ else _) = _
  rw [if_pos ⟨h0, PyProof.noPylong_of_log2 (log2_lt h (by omega))⟩]

/-! ### divisor -/
abbrev cDiv : Tx := asB (bin (rd 1) (kc (.int 0)) dNe)
abbrev bDiv : Gx := gSeq (gSet 2 (bin (rd 0) (rd 1) dMod)) (gSeq (gSet 0 (rd 1)) (gSet 1 (rd 2)))
theorem ne_int (i j : Int) : dNe (.int i) (.int j) = some (.bool (!(i == j))) := rfl
theorem wh_gcd : ∀ (b a : Nat) (x : Option D), ∃ n y, whN cDiv bDiv n [some (.int a), some (.int b), x] = .nx [some (.int (Nat.gcd a b)), some (.int 0), y] := by
  intro b
  induction b using Nat.strongRecOn with
  | _ b ih =>
    intro a x
    by_cases h : b = 0
    · subst h
      refine ⟨1, x, ?_⟩
      rw [Nat.gcd_zero_right]
      rfl
    · have hb : 0 < b := Nat.pos_of_ne_zero h
      obtain ⟨n, y, hn⟩ := ih (a % b) (Nat.mod_lt a hb) b (some (.int ((a % b : Nat) : Int)))
      refine ⟨n + 1, y, ?_⟩
      have e1 : cDiv [some (.int a), some (.int b), x] = .ok true := by
        have : ((b : Int) == 0) = false := by simpa using h
        show (Res.ok (PyData.bool (!((b : Int) == 0)))).bind _ = _
        rw [this]
        rfl
      have e2 : bDiv [some (.int a), some (.int b), x] = .nx [some (.int b), some (.int ((a % b : Nat) : Int)), some (.int ((a % b : Nat) : Int))] := by
        have hm : dMod (.int a) (.int b) = some (.int ((a % b : Nat) : Int)) := by
          show (if (b : Int) ≠ 0 then _ else _) = _
          rw [if_pos (by omega), Int.fmod_eq_emod_of_nonneg _ (by omega)]
          rfl
        show gSeq (gSet 2 (bin (rd 0) (rd 1) dMod)) _ _ = _
        unfold gSeq gSet bin
        show (match ((ofO (dMod (.int a) (.int b))).out fun d => Out.nx ([some (.int a), some (.int b), x].set 2 (some d))) with | .nx ρ' => _ | o => o) = _
        rw [hm]
        rfl
      unfold whN
      rw [e1]
      show (match bDiv [some (.int a), some (.int b), x] with | .nx ρ' => whN cDiv bDiv n ρ' | o => o) = _
      rw [e2]
      show whN cDiv bDiv n _ = _
      rw [hn, Nat.gcd_comm a b, Nat.gcd_rec b a, Nat.gcd_comm b (a % b)]
theorem divisor_ok (a b : Int) : m_divisor [.int a, .int b] = .ok (.int (Int.gcd a b)) := by
  obtain ⟨n, y, hn⟩ := wh_gcd b.natAbs a.natAbs none
  have ha : (if a < 0 then -a else a) = (a.natAbs : Int) := by split <;> omega
  have hb : (if b < 0 then -b else b) = (b.natAbs : Int) := by split <;> omega
  have hw : gWh cDiv bDiv [some (.int a.natAbs), some (.int b.natAbs), none] = .nx [some (.int (Nat.gcd a.natAbs b.natAbs)), some (.int 0), y] := by
    rw [gWh_of (n := n) (by rw [hn]; intro z; cases z), hn]
  show run 3 g_divisor _ = _
  unfold run g_divisor
  show (match gSeq (gSet 0 (un (rd 0) dAbs)) (gSeq (gSet 1 (un (rd 1) dAbs)) (gSeq (gWh cDiv bDiv) (gRet (rd 0)))) [some (.int a), some (.int b), none] with | .nx _ => _ | .rt d => _ | .exc c => _ | .bad => _) = _
  have e : gSeq (gSet 0 (un (rd 0) dAbs)) (gSeq (gSet 1 (un (rd 1) dAbs)) (gSeq (gWh cDiv bDiv) (gRet (rd 0)))) [some (.int a), some (.int b), none]
      = gSeq (gWh cDiv bDiv) (gRet (rd 0)) [some (.int (if a < 0 then -a else a)), some (.int (if b < 0 then -b else b)), none] := rfl
  rw [e, ha, hb]
  unfold gSeq
  rw [hw]
  rfl
theorem call2 {f : List D → Res D} {fa fb : Ex} {ρ : Rho} {a b : D} (ha : fa ρ = .ok a) (hb : fb ρ = .ok b) : callD 2 f (aCons fa (aCons fb aNil)) ρ = f [a, b] := by
  unfold callD aCons aNil
  rw [ha, hb]
  rfl
theorem run_ret {N : Nat} {f : Ex} {ds : List D} : run N (gRet f) ds = f (ds.map some ++ List.replicate (N - ds.length) none) := by
  unfold run gRet
  cases f (ds.map some ++ List.replicate (N - ds.length) none) <;> rfl
theorem bin_ok {f g : Ex} {op : D → D → Option D} {ρ : Rho} {a b c : D} (ha : f ρ = .ok a) (hb : g ρ = .ok b) (h : op a b = some c) : bin f g op ρ = .ok c := by
  unfold bin
  rw [ha, hb]
  show ofO (op a b) = _
  rw [h]
  rfl
theorem un_ok {f : Ex} {op : D → Option D} {ρ : Rho} {a c : D} (ha : f ρ = .ok a) (h : op a = some c) : un f op ρ = .ok c := by
  unfold un
  rw [ha]
  show ofO (op a) = _
  rw [h]
  rfl
theorem call1 {f : List D → Res D} {fa : Ex} {ρ : Rho} {a : D} (ha : fa ρ = .ok a) : callD 1 f (aCons fa aNil) ρ = f [a] := by
  unfold callD aCons aNil
  rw [ha]
  rfl
theorem call3 {f : List D → Res D} {fa fb fc : Ex} {ρ : Rho} {a b c : D} (ha : fa ρ = .ok a) (hb : fb ρ = .ok b) (hc : fc ρ = .ok c) : callD 3 f (aCons fa (aCons fb (aCons fc aNil))) ρ = f [a, b, c] := by
  unfold callD aCons aNil
  rw [ha, hb, hc]
  rfl
theorem call4 {f : List D → Res D} {fa fb fc fd : Ex} {ρ : Rho} {a b c d : D} (ha : fa ρ = .ok a) (hb : fb ρ = .ok b) (hc : fc ρ = .ok c) (hd : fd ρ = .ok d) : callD 4 f (aCons fa (aCons fb (aCons fc (aCons fd aNil)))) ρ = f [a, b, c, d] := by
  unfold callD aCons aNil
  rw [ha, hb, hc, hd]
  rfl
theorem aCons_ok {f : Ex} {g : Ax} {ρ : Rho} {a : D} {l : List D} (ha : f ρ = .ok a) (hl : g ρ = .ok l) : aCons f g ρ = .ok (a :: l) := by
  unfold aCons
  rw [ha, hl]
  rfl
theorem mkTup_ok {g : Ax} {ρ : Rho} {l : List D} (hl : g ρ = .ok l) (h : decide (l.length ≤ sizeLine) = true) : mkTup g ρ = .ok (.tuple l) := by
  unfold mkTup
  rw [hl]
  exact if_pos (of_decide_eq_true h)
theorem mkLst_ok {g : Ax} {ρ : Rho} {l : List D} (hl : g ρ = .ok l) (h : decide (l.length ≤ sizeLine) = true) : mkLst g ρ = .ok (.list l) := by
  unfold mkLst
  rw [hl]
  exact if_pos (of_decide_eq_true h)
theorem asB_ok {f : Ex} {ρ : Rho} {b : Bool} (h : f ρ = .ok (.bool b)) : asB f ρ = .ok b := by
  unfold asB
  rw [h]
  rfl
theorem notT_ok {f : Tx} {ρ : Rho} {b : Bool} (h : f ρ = .ok b) : notT f ρ = .ok (!b) := by
  unfold notT
  rw [h]
  rfl
theorem orT_ok {f g : Tx} {ρ : Rho} {a b : Bool} (h : f ρ = .ok a) (k : a = false → g ρ = .ok b) (hb : a = true → b = true := by intro z; cases z) : orT f g ρ = .ok b := by
  unfold orT
  rw [h]
  cases a with
  | true => rw [hb rfl]; rfl
  | false => exact k rfl
theorem orT_f {f g : Tx} {ρ : Rho} {b : Bool} (h : f ρ = .ok false) (k : g ρ = .ok b) : orT f g ρ = .ok b := by
  unfold orT
  rw [h]
  exact k
theorem orT_t {f g : Tx} {ρ : Rho} (h : f ρ = .ok true) : orT f g ρ = .ok true := by
  unfold orT
  rw [h]
  rfl
theorem andT_t {f g : Tx} {ρ : Rho} {b : Bool} (h : f ρ = .ok true) (k : g ρ = .ok b) : andT f g ρ = .ok b := by
  unfold andT
  rw [h]
  exact k
theorem andT_f {f g : Tx} {ρ : Rho} (h : f ρ = .ok false) : andT f g ρ = .ok false := by
  unfold andT
  rw [h]
  rfl
theorem gSeq_nx {g h : Gx} {ρ ρ' : Rho} (e : g ρ = .nx ρ') : gSeq g h ρ = h ρ' := by
  unfold gSeq
  rw [e]
theorem gSeq_rt {g h : Gx} {ρ : Rho} {d : D} (e : g ρ = .rt d) : gSeq g h ρ = .rt d := by
  unfold gSeq
  rw [e]
theorem gSet_ok {i : Nat} {f : Ex} {ρ : Rho} {d : D} (h : f ρ = .ok d) : gSet i f ρ = .nx (ρ.set i (some d)) := by
  unfold gSet
  rw [h]
  rfl
theorem gDrop_ok {f : Ex} {ρ : Rho} {d : D} (h : f ρ = .ok d) : gDrop f ρ = .nx ρ := by
  unfold gDrop
  rw [h]
  rfl
theorem gRet_ok {f : Ex} {ρ : Rho} {d : D} (h : f ρ = .ok d) : gRet f ρ = .rt d := by
  unfold gRet
  rw [h]
  rfl
theorem gIf_t {c : Tx} {g h : Gx} {ρ : Rho} (e : c ρ = .ok true) : gIf c g h ρ = g ρ := by
  unfold gIf
  rw [e]
  rfl
theorem gIf_f {c : Tx} {g h : Gx} {ρ : Rho} (e : c ρ = .ok false) : gIf c g h ρ = h ρ := by
  unfold gIf
  rw [e]
  rfl
theorem gIf_s {c : Tx} {g : Gx} {ρ : Rho} (e : c ρ = .ok false) : gIf c g gSkip ρ = .nx ρ := gIf_f e
theorem gFor_ok {tg : Tgt} {fi : Ax} {g : Gx} {ρ : Rho} {l : List D} (h : fi ρ = .ok l) : gFor tg fi g ρ = forL tg g l ρ := by
  unfold gFor
  rw [h]
  rfl
theorem run_rt {N : Nat} {g : Gx} {ds : List D} {d : D} (h : g (ds.map some ++ List.replicate (N - ds.length) none) = .rt d) : run N g ds = .ok d := by
  unfold run
  rw [h]
theorem run_nx {N : Nat} {g : Gx} {ds : List D} {ρ : Rho} (h : g (ds.map some ++ List.replicate (N - ds.length) none) = .nx ρ) : run N g ds = .ok .none := by
  unfold run
  rw [h]
theorem gPutL_ok {i : Nat} {fk f : Ex} {ρ : Rho} {l l' : List D} {k : Int} {d : D} (hf : f ρ = .ok d) (hk : fk ρ = .ok (.int k)) (hi : ρ[i]? = some (some (.list l))) (h : lSet l k d = some l') : gPutL i fk f ρ = .nx (ρ.set i (some (.list l'))) := by
  unfold gPutL
  rw [hi]
  simp only [hf, hk, h, Res.out, Res.bind]
theorem gApp_ok {i : Nat} {f : Ex} {ρ : Rho} {l : List D} {d : D} (hf : f ρ = .ok d) (hi : ρ[i]? = some (some (.list l))) (hl : l.length < 1000000) : gApp i f ρ = .nx (ρ.set i (some (.list (l ++ [d])))) := by
  unfold gApp
  rw [hi]
  simp only [hf, Res.out]
  exact if_pos hl
theorem lSet_nat {l : List D} {k : Nat} {d : D} (h : k < l.length) : lSet l (k : Int) d = some (l.set k d) := by
  unfold lSet
  have e : ixN l.length (k : Int) = some k := by
    show (if (0 : Int) ≤ k then _ else _) = _
    rw [if_pos (by omega)]
    exact if_pos (by omega)
  rw [e]
  rfl
theorem forL_rel {α S : Type} {tg : Tgt} {g : Gx} (enc : α → D) (f : S → α → S) (I : S → Rho → Prop) : ∀ (l : List α),
    (∀ s x ρ, x ∈ l → I s ρ → ∃ ρ' ρ'', tg.put (enc x) ρ = some ρ' ∧ g ρ' = .nx ρ'' ∧ I (f s x) ρ'') →
    ∀ s ρ, I s ρ → ∃ ρ'', forL tg g (l.map enc) ρ = .nx ρ'' ∧ I (l.foldl f s) ρ''
  | [], _, s, ρ, hi => ⟨ρ, rfl, hi⟩
  | x :: r, h, s, ρ, hi => by
    obtain ⟨ρ', ρ1, e1, e2, i2⟩ := h s x ρ List.mem_cons_self hi
    obtain ⟨ρ2, e3, i3⟩ := forL_rel enc f I r (fun s x ρ m => h s x ρ (List.mem_cons_of_mem _ m)) (f s x) ρ1 i2
    refine ⟨ρ2, ?_, i3⟩
    show (match tg.put (enc x) ρ with | none => Out.bad | some ρ' => _) = _
    rw [e1]
    show (match g ρ' with | .nx ρ'' => forL tg g (r.map enc) ρ'' | o => o) = _
    rw [e2]
    exact e3
theorem compL_map {α : Type} {tg : Tgt} {ft : Tx} {fe : Ex} {ρ : Rho} (enc : α → D) (keep : α → Bool) (val : α → D) : ∀ (l : List α),
    (∀ x, x ∈ l → ∃ ρ', tg.put (enc x) ρ = some ρ' ∧ ft ρ' = .ok (keep x) ∧ (keep x = true → fe ρ' = .ok (val x))) →
    compL tg ft fe ρ (l.map enc) = .ok ((l.filter keep).map val)
  | [], _ => rfl
  | x :: r, h => by
    obtain ⟨ρ', e1, e2, e3⟩ := h x List.mem_cons_self
    have ih := compL_map enc keep val r fun x m => h x (List.mem_cons_of_mem _ m)
    show (match tg.put (enc x) ρ with | none => Res.bad | some ρ' => (ft ρ').calm.bind fun b => if b = true then (fe ρ').calm.bind fun x => (compL tg ft fe ρ (r.map enc)).bind fun xs => .ok (x :: xs) else compL tg ft fe ρ (r.map enc)) = _
    rw [e1]
    show (ft ρ').calm.bind _ = _
    rw [e2, ih]
    cases c : keep x with
    | false =>
      rw [List.filter_cons_of_neg (by rw [c]; decide)]
      rfl
    | true =>
      rw [List.filter_cons_of_pos c, List.map_cons]
      show (fe ρ').calm.bind _ = _
      rw [e3 c]
      rfl
theorem comp_ok {α : Type} {vs : List Nat} {tg : Tgt} {fi : Ax} {ft : Tx} {fe : Ex} {ρ : Rho} (enc : α → D) (keep : α → Bool) (val : α → D) (l : List α) (hl : l.length ≤ sizeLine) (hi : fi ρ = .ok (l.map enc))
    (h : ∀ x, x ∈ l → ∃ ρ', tg.put (enc x) (wipeR ρ vs) = some ρ' ∧ ft ρ' = .ok (keep x) ∧ (keep x = true → fe ρ' = .ok (val x))) :
    comp vs tg fi ft fe ρ = .ok (.list ((l.filter keep).map val)) := by
  unfold comp
  rw [hi]
  show (if (l.map enc).length ≤ sizeLine then _ else _) = _
  rw [List.length_map, if_pos hl, compL_map enc keep val l h]
  rfl
theorem itS_list {f : Ex} {ρ : Rho} {l : List D} (h : f ρ = .ok (.list l)) : itS f ρ = .ok l := by
  unfold itS
  rw [h]
  rfl
theorem itS_tuple {f : Ex} {ρ : Rho} {l : List D} (h : f ρ = .ok (.tuple l)) : itS f ρ = .ok l := by
  unfold itS
  rw [h]
  rfl
theorem itR1_nat {f : Ex} {ρ : Rho} {n : Nat} (h : f ρ = .ok (.int n)) (hn : n < 1000000) : itR1 f ρ = .ok ((List.range n).map fun i => .int (i : Nat)) := by
  simp only [itR1, h, Res.bind]
  rw [if_pos ⟨by omega, by omega⟩, Int.toNat_natCast]
  unfold rangeD
  simp only [Int.zero_add]
theorem fdiv_exact {a : Int} {g : Nat} (h : (g : Int) ∣ a) : a.fdiv g = a / g := Int.fdiv_eq_ediv_of_dvd h
theorem gcd_lt {a b : Int} {n : Nat} (h0 : b ≠ 0) (h : b.natAbs < n) : Int.gcd a b < n := Nat.lt_of_le_of_lt (Nat.le_of_dvd (by omega) (by have := Int.gcd_dvd_natAbs_right a b; exact this)) h
theorem gcd_ne {a b : Int} (h0 : b ≠ 0) : ((Int.gcd a b : Nat) : Int) ≠ 0 := by
  have := Int.gcd_pos_of_ne_zero_right a h0
  omega
theorem frac_pos (u l : Int) (h0 : 0 < l) (h : l.natAbs < 2 ^ 9000) : (fr (Rat.divInt u l)) = .tuple [.int (u.fdiv (Int.gcd u l)), .int (l.fdiv (Int.gcd u l))] := by
  have e1 : (Rat.divInt u l).num = u.fdiv (Int.gcd u l) := by
    rw [fdiv_exact (Int.gcd_dvd_left ..), Rat.num_divInt, Int.sign_eq_one_of_pos h0, Int.one_mul, Int.gcd_comm]
  have e2 : (((Rat.divInt u l).den : Nat) : Int) = l.fdiv (Int.gcd u l) := by
    rw [fdiv_exact (Int.gcd_dvd_right ..), Rat.den_divInt, if_neg (by omega), Int.gcd_comm, Int.natCast_ediv, Int.natAbs_of_nonneg (by omega)]
  unfold fr
  rw [e1, e2]
theorem neg_divInt' (u l : Int) : Rat.divInt (-u) (-l) = Rat.divInt u l := by
  rw [Rat.divInt_neg', Int.neg_neg]
theorem gl_ok (u l : Int) {g : Nat} (h0 : g ≠ 0) (h : g < 2 ^ 9000) : dDiv (.int u) (.int (g : Int)) = some (.int (u.fdiv g)) := div_ok (by omega) (by rw [Int.natAbs_natCast]; exact h)
theorem frac_ok (u l : Int) (h0 : l ≠ 0) (h : l.natAbs < 2 ^ 9000) : m_frac [.int u, .int l] = .ok (fr (Rat.divInt u l)) := by
  have key : ∀ u l : Int, 0 < l → l.natAbs < 2 ^ 9000 → gSeq (gSet 2 (callD 2 m_divisor (aCons (rd 0) (aCons (rd 1) aNil)))) (gRet (mkTup (aCons (bin (rd 0) (rd 2) dDiv) (aCons (bin (rd 1) (rd 2) dDiv) aNil)))) [some (.int u), some (.int l), none] = .rt (fr (Rat.divInt u l)) := fun u l p h => by
    rw [frac_pos u l p h]
    have e1 : m_divisor [.int u, .int l] = .ok (.int (Int.gcd u l)) := divisor_ok u l
    have g0 : Int.gcd u l ≠ 0 := fun z => gcd_ne (a := u) (b := l) (by omega) (by rw [z]; rfl)
    have gl : Int.gcd u l < 2 ^ 9000 := gcd_lt (by omega) h
    have e2 := gl_ok u l g0 gl
    have e3 := gl_ok l l g0 gl
    rw [gSeq_nx (gSet_ok (call2 rfl rfl |>.trans e1))]
    exact gRet_ok (mkTup_ok (aCons_ok (bin_ok rfl rfl e2) (aCons_ok (bin_ok rfl rfl e3) rfl)) rfl)
  show run 3 g_frac _ = _
  unfold g_frac
  by_cases c : l < 0
  · have k := key (-u) (-l) (by omega) (by omega)
    rw [neg_divInt'] at k
    have e : gIf (asB (bin (rd 1) (kc (.int 0)) dLt)) (gSeq (gSet 0 (un (rd 0) dNeg)) (gSet 1 (un (rd 1) dNeg))) gSkip [some (.int u), some (.int l), none] = .nx [some (.int (-u)), some (.int (-l)), none] := by
      show (if decide (l < 0) = true then _ else _) = _
      rw [if_pos (by simpa using c)]
      rfl
    exact run_rt ((gSeq_nx e).trans k)
  · have k := key u l (by omega) h
    have e : gIf (asB (bin (rd 1) (kc (.int 0)) dLt)) (gSeq (gSet 0 (un (rd 0) dNeg)) (gSet 1 (un (rd 1) dNeg))) gSkip [some (.int u), some (.int l), none] = .nx [some (.int u), some (.int l), none] := by
      show (if decide (l < 0) = true then _ else _) = _
      rw [if_neg (by simpa using c)]
      rfl
    exact run_rt ((gSeq_nx e).trans k)
/-- numbers that the sums and products below may have -/
def Sz (n : Nat) (q : Rat) : Prop := q.num.natAbs < 2 ^ n ∧ q.den < 2 ^ n
theorem mul_lt {a b n m : Nat} (ha : a < 2 ^ n) (hb : b < 2 ^ m) : a * b < 2 ^ (n + m) := by
  rw [Nat.pow_add]
  exact Nat.mul_lt_mul'' ha hb
theorem den_ne (q : Rat) : (q.den : Int) ≠ 0 := by
  have := q.den_nz
  omega
theorem r0 {q : Rat} {ρ : Rho} {i : Nat} (h : rd i ρ = .ok (fr q)) : bin (rd i) (kc (.int 0)) dIx ρ = .ok (.int q.num) := bin_ok h rfl (ix_fr0 q)
theorem r1 {q : Rat} {ρ : Rho} {i : Nat} (h : rd i ρ = .ok (fr q)) : bin (rd i) (kc (.int 1)) dIx ρ = .ok (.int q.den) := bin_ok h rfl (ix_fr1 q)
theorem rm {f g : Ex} {ρ : Rho} {i j : Int} {n m : Nat} (ha : f ρ = .ok (.int i)) (hb : g ρ = .ok (.int j)) (hi : i.natAbs < 2 ^ n) (hj : j.natAbs < 2 ^ m) (h : n + m ≤ 1000000 := by omega) (hn : 0 < n := by omega) (hm : 0 < m := by omega) : bin f g dMul ρ = .ok (.int (i * j)) := bin_ok ha hb (mul_ok (mulOk_pow hi hj h hn hm))
theorem dens {a b : Rat} (ha : Sz 4000 a) (hb : Sz 4000 b) : ((a.den : Int) * b.den).natAbs < 2 ^ 9000 := by
  rw [← Int.natCast_mul, Int.natAbs_natCast]
  exact Nat.lt_of_lt_of_le (mul_lt ha.2 hb.2) (Nat.pow_le_pow_right (by omega) (by omega))
theorem plus_ok {a b : Rat} (ha : Sz 4000 a) (hb : Sz 4000 b) : m_plus [fr a, fr b] = .ok (fr (a + b)) := by
  have q0 : rd 0 [some (fr a), some (fr b)] = .ok (fr a) := rfl
  have q1 : rd 1 [some (fr a), some (fr b)] = .ok (fr b) := rfl
  show run 2 g_plus _ = _
  unfold g_plus
  rw [run_ret]
  show callD 2 m_frac _ [some (fr a), some (fr b)] = _
  rw [call2 (bin_ok (rm (r0 q0) (r1 q1) ha.1 hb.2) (rm (r0 q1) (r1 q0) hb.1 ha.2) rfl) (rm (r1 q0) (r1 q1) ha.2 hb.2)]
  rw [frac_ok _ _ (by have := den_ne a; have := den_ne b; exact Int.mul_ne_zero ‹_› ‹_›) (dens ha hb), Rat.add_def', ← Rat.divInt_ofNat, Int.natCast_mul]
theorem times_ok {a b : Rat} (ha : Sz 4000 a) (hb : Sz 4000 b) : m_times [fr a, fr b] = .ok (fr (a * b)) := by
  have q0 : rd 0 [some (fr a), some (fr b)] = .ok (fr a) := rfl
  have q1 : rd 1 [some (fr a), some (fr b)] = .ok (fr b) := rfl
  show run 2 g_times _ = _
  unfold g_times
  rw [run_ret]
  show callD 2 m_frac _ [some (fr a), some (fr b)] = _
  rw [call2 (rm (r0 q0) (r0 q1) ha.1 hb.1) (rm (r1 q0) (r1 q1) ha.2 hb.2)]
  rw [frac_ok _ _ (by have := den_ne a; have := den_ne b; exact Int.mul_ne_zero ‹_› ‹_›) (dens ha hb), Rat.mul_def', ← Rat.divInt_ofNat, Int.natCast_mul]
theorem law_divisor_ok (a b : Int) : m_law_divisor [.int a, .int b] = .ok (.int (Int.gcd a b)) := divisor_ok a b
end LW
end

section
set_option Elab.async false
set_option linter.all false
set_option maxRecDepth 100000
set_option maxHeartbeats 1000000
set_option exponentiation.threshold 100000
set_option autoImplicit false
/-! PS: what the laws draw: numbers, spreads, walks. -/
namespace LW
open PySem hiding run
open L2 hiding bin
open DL

theorem rd_ok {i : Nat} {ρ : Rho} {d : D} (h : ρ[i]? = some (some d)) : rd i ρ = .ok d := by
  unfold rd
  rw [h]
theorem mulOk_r {i j : Int} (h : decide (Builtin.Int.intBits j > shortFactorBits) = false) : mulOk i j = true := by
  unfold mulOk
  rw [h, Bool.and_false, Bool.false_and]
  rfl
theorem mulOk_l {i j : Int} (h : decide (Builtin.Int.intBits i > shortFactorBits) = false) : mulOk i j = true := by
  unfold mulOk
  rw [h, Bool.false_and, Bool.false_and]
  rfl
theorem add_ii (i j : Int) : dAdd (.int i) (.int j) = some (.int (i + j)) := rfl
theorem sub_ii (i j : Int) : dSub (.int i) (.int j) = some (.int (i - j)) := rfl
theorem mod_ii {i j : Int} (h : j ≠ 0) : dMod (.int i) (.int j) = some (.int (i.fmod j)) := if_pos h
theorem lt_ii (i j : Int) : dLt (.int i) (.int j) = some (.bool (decide (i < j))) := rfl
theorem lt_t {i j : Int} (h : i < j) : dLt (.int i) (.int j) = some (.bool true) := by rw [lt_ii, decide_eq_true h]
theorem lt_f {i j : Int} (h : ¬ i < j) : dLt (.int i) (.int j) = some (.bool false) := by rw [lt_ii, decide_eq_false h]
theorem ge_ii (i j : Int) : dGe (.int i) (.int j) = some (.bool (decide (j ≤ i))) := rfl
theorem eq_ii (i j : Int) : dEq (.int i) (.int j) = some (.bool (i == j)) := rfl
theorem len_scr (ns : List Int) : dLen (scrD ns) = some (.int ns.length) := by
  show (allI (ns.map .int)).map _ = _
  rw [allI_map]
  rfl
theorem ix_scr (ns : List Int) (i : Int) : dIx (scrD ns) (.int i) = (atI ns i).map .int := by
  show (allI (ns.map .int)).bind _ = _
  rw [allI_map]
  rfl
/-- plain data, n deep at most -/
def Sh (n : Nat) (d : D) : Prop := PyData.canLay0 d = true ∧ PyData.depth d ≤ n
theorem Sh.mono {n m : Nat} {d : D} (h : Sh n d) (l : n ≤ m) : Sh m d := ⟨h.1, Nat.le_trans h.2 l⟩
theorem Sh.shaped {n : Nat} {d : D} (h : Sh n d) (l : n ≤ 64 := by decide) : SeqAt.shaped d = true := by
  show (PyData.canLay0 d && decide (PyData.depth d ≤ 64)) = true
  rw [h.1, decide_eq_true (Nat.le_trans h.2 l)]
  rfl
theorem sh_all {n : Nat} : ∀ {l : List D}, (∀ d, d ∈ l → Sh n d) → PyData.canLayAll0 l = true ∧ PyData.depthAll l ≤ n
  | [], _ => ⟨by simp [PyData.canLayAll0], by simp [PyData.depthAll]⟩
  | x :: r, h => by
    obtain ⟨a, b⟩ := sh_all (l := r) fun d m => h d (List.mem_cons_of_mem _ m)
    obtain ⟨c, d⟩ := h x List.mem_cons_self
    exact ⟨by simp [PyData.canLayAll0, a, c], by simp only [PyData.depthAll]; omega⟩
theorem sh_list {n : Nat} {l : List D} (h : ∀ d, d ∈ l → Sh n d) : Sh (n + 1) (.list l) := by
  obtain ⟨a, b⟩ := sh_all h
  exact ⟨by simp only [PyData.canLay0]; exact a, by simp only [PyData.depth]; omega⟩
theorem sh_tuple {n : Nat} {l : List D} (h : ∀ d, d ∈ l → Sh n d) : Sh (n + 1) (.tuple l) := by
  obtain ⟨a, b⟩ := sh_all h
  exact ⟨by simp only [PyData.canLay0]; exact a, by simp only [PyData.depth]; omega⟩
theorem sh_int (i : Int) : Sh 0 (.int i) := ⟨by simp only [PyData.canLay0], by simp only [PyData.depth]; omega⟩
theorem sh_bool (i : Bool) : Sh 0 (.bool i) := ⟨by simp only [PyData.canLay0], by simp only [PyData.depth]; omega⟩
theorem sh_none : Sh 0 .none := ⟨by simp only [PyData.canLay0], by simp only [PyData.depth]; omega⟩
theorem sh_fr (q : Rat) : Sh 1 (fr q) := sh_tuple fun d m => by
  rcases List.mem_cons.mp m with rfl | m
  · exact sh_int _
  · rcases List.mem_cons.mp m with rfl | m
    · exact sh_int _
    · cases m
theorem sh_map {α : Type} {n : Nat} {enc : α → D} (h : ∀ a, Sh n (enc a)) (l : List α) : Sh (n + 1) (.list (l.map enc)) := sh_list fun d m => by
  obtain ⟨a, _, rfl⟩ := List.mem_map.mp m
  exact h a
theorem sh_mapT {α : Type} {n : Nat} {enc : α → D} (h : ∀ a, Sh n (enc a)) (l : List α) : Sh (n + 1) (.tuple (l.map enc)) := sh_tuple fun d m => by
  obtain ⟨a, _, rfl⟩ := List.mem_map.mp m
  exact h a
theorem eqv_all {α : Type} [DecidableEq α] {enc : α → D} (h : ∀ a b, PyData.eqv (enc a) (enc b) = decide (a = b)) : ∀ xs ys : List α, PyData.eqvAll (xs.map enc) (ys.map enc) = decide (xs = ys)
  | [], [] => by simp [PyData.eqvAll]
  | [], y :: ys => by simp [PyData.eqvAll]
  | x :: xs, [] => by simp [PyData.eqvAll]
  | x :: xs, y :: ys => by
    simp only [List.map_cons, PyData.eqvAll]
    rw [h, eqv_all h xs ys]
    by_cases e : x = y <;> by_cases e' : xs = ys <;> simp [e, e']
theorem eqv_list {α : Type} [DecidableEq α] {enc : α → D} (h : ∀ a b, PyData.eqv (enc a) (enc b) = decide (a = b)) (xs ys : List α) : PyData.eqv (.list (xs.map enc)) (.list (ys.map enc)) = decide (xs = ys) := by
  simp only [PyData.eqv]
  exact eqv_all h xs ys
theorem eqv_tuple {α : Type} [DecidableEq α] {enc : α → D} (h : ∀ a b, PyData.eqv (enc a) (enc b) = decide (a = b)) (xs ys : List α) : PyData.eqv (.tuple (xs.map enc)) (.tuple (ys.map enc)) = decide (xs = ys) := by
  simp only [PyData.eqv]
  exact eqv_all h xs ys
theorem eqv_int (a b : Int) : PyData.eqv (.int a) (.int b) = decide (a = b) := by
  simp only [PyData.eqv]
  rfl
theorem dEq_list {a : List D} {b : D} (ha : SeqAt.shaped (.list a) = true) (hb : SeqAt.shaped b = true) : dEq (.list a) b = some (.bool (PyData.eqv (.list a) b)) := if_pos ⟨ha, hb⟩
theorem dEq_tuple {a : List D} {b : D} (ha : SeqAt.shaped (.tuple a) = true) (hb : SeqAt.shaped b = true) : dEq (.tuple a) b = some (.bool (PyData.eqv (.tuple a) b)) := if_pos ⟨ha, hb⟩
theorem dNe_ok {a b : D} (ha : SeqAt.shaped a = true) (hb : SeqAt.shaped b = true) : dNe a b = some (.bool (!PyData.eqv a b)) := if_pos ⟨ha, hb⟩
theorem scr_nil (ns : List Int) : dEq (scrD ns) (.list []) = some (.bool (decide (ns = []))) := by
  have h1 : SeqAt.shaped (deScr (scrD ns)) = true := (sh_map (enc := PyData.int) sh_int ns).shaped
  have h2 : SeqAt.shaped (.list []) = true := (sh_map (enc := PyData.int) sh_int []).shaped
  have h3 : PyData.eqv (deScr (scrD ns)) (.list []) = decide (ns = []) := eqv_list (enc := PyData.int) eqv_int ns []
  unfold dEq
  rw [if_pos ⟨h1, h2⟩, h3]
theorem cell_ok (ns : List Int) (k : Nat) : ∃ c : Int, m_law_cell_at [scrD ns, .int k] = .ok (.int c) := by
  have hl : un (rd 0) dLen [some (scrD ns), some (.int k)] = .ok (.int ns.length) := un_ok rfl (len_scr ns)
  by_cases h : k < ns.length
  · obtain ⟨c, hc⟩ : ∃ c, ns[k]? = some c := ⟨_, List.getElem?_eq_getElem h⟩
    refine ⟨c, run_rt ?_⟩
    show gSeq _ _ [some (scrD ns), some (.int k)] = _
    refine gSeq_rt ?_
    refine (gIf_t (asB_ok (bin_ok rfl hl (lt_t (by omega))))).trans ?_
    exact gRet_ok (bin_ok rfl rfl (by rw [ix_scr, atIn hc]; rfl))
  · by_cases h0 : ns = []
    · subst h0
      refine ⟨0, run_rt ?_⟩
      show gSeq _ _ [some (scrD []), some (.int k)] = _
      refine (gSeq_nx (gIf_s (asB_ok (bin_ok rfl hl (lt_f (by omega)))))).trans ?_
      refine gSeq_rt ?_
      refine (gIf_t (asB_ok (bin_ok rfl (mkLst_ok rfl rfl) (scr_nil [])))).trans ?_
      exact gRet_ok rfl
    · have hp : 0 < ns.length := List.length_pos_iff.mpr h0
      have hm : k % ns.length < ns.length := Nat.mod_lt _ hp
      obtain ⟨c, hc⟩ : ∃ c, ns[k % ns.length]? = some c := ⟨_, List.getElem?_eq_getElem hm⟩
      refine ⟨c * 31 + k, run_rt ?_⟩
      show gSeq _ _ [some (scrD ns), some (.int k)] = _
      refine (gSeq_nx (gIf_s (asB_ok (bin_ok rfl hl (lt_f (by omega)))))).trans ?_
      refine (gSeq_nx (gIf_s (asB_ok (bin_ok rfl (mkLst_ok rfl rfl) (by rw [scr_nil, decide_eq_false h0]))))).trans ?_
      have e : dMod (.int k) (.int ns.length) = some (.int ((k % ns.length : Nat) : Int)) := by
        rw [mod_ii (by omega), Int.fmod_eq_emod_of_nonneg _ (by omega)]; rfl
      exact gRet_ok (bin_ok (bin_ok (bin_ok rfl (bin_ok rfl hl e) (by rw [ix_scr, atIn hc]; rfl)) rfl (mul_ok (mulOk_r (by decide)))) rfl rfl)
theorem mixed_ok (ns : List Int) (k m : Nat) (hm : 0 < m) : ∃ r : Nat, r < m ∧ m_law_mixed [scrD ns, .int k, .int m] = .ok (.int r) := by
  obtain ⟨c, hc⟩ := cell_ok ns k
  generalize hx : ((c + 7919 * (k : Int) + 1) * 48271).fmod 2147483647 = x
  have x0 : 0 ≤ x := by rw [← hx]; exact Int.fmod_nonneg_of_pos _ (by omega)
  have x1 : x < 2147483647 := by rw [← hx]; exact Int.fmod_lt_of_pos _ (by omega)
  generalize hy : ((x * x + 7 * x + k).fmod 2147483629).fmod m = y
  have y0 : 0 ≤ y := by rw [← hy]; exact Int.fmod_nonneg_of_pos _ (by omega)
  have y1 : y < m := by rw [← hy]; exact Int.fmod_lt_of_pos _ (by omega)
  refine ⟨y.toNat, by omega, run_rt ?_⟩
  have xb : x.natAbs < 2 ^ 31 := by omega
  have e1 : gSet 3 (bin (bin (bin (bin (callD 2 m_law_cell_at (aCons (rd 0) (aCons (rd 1) aNil))) (bin (kc (.int 7919)) (rd 1) dMul) dAdd) (kc (.int 1)) dAdd) (kc (.int 48271)) dMul) (kc (.int 2147483647)) dMod) [some (scrD ns), some (.int k), some (.int m), none]
      = .nx [some (scrD ns), some (.int k), some (.int m), some (.int x)] := by
    rw [gSet_ok (bin_ok (bin_ok (bin_ok (bin_ok ((call2 rfl rfl).trans hc) (bin_ok rfl rfl (mul_ok (mulOk_l (by decide)))) (add_ii _ _)) rfl (add_ii _ _)) rfl (mul_ok (mulOk_r (by decide)))) rfl (mod_ii (by decide))), hx]
    rfl
  show gSeq _ _ [some (scrD ns), some (.int k), some (.int m), none] = _
  rw [gSeq_nx e1, gRet_ok (bin_ok (bin_ok (bin_ok (bin_ok (bin_ok rfl rfl (mul_ok (mulOk_pow xb xb (by omega)))) (bin_ok rfl rfl (mul_ok (mulOk_l (by decide)))) (add_ii _ _)) rfl (add_ii _ _)) rfl (mod_ii (by decide))) rfl (mod_ii (by omega))), hy]
  rw [Int.toNat_of_nonneg y0]

/-! ### the law's own fractions -/
theorem law_frac_ok (u l : Int) (h0 : 0 < l) (h : l.natAbs < 2 ^ 9000) : m_law_frac [.int u, .int l] = .ok (fr (Rat.divInt u l)) := by
  rw [frac_pos u l h0 h]
  have g0 : Int.gcd u l ≠ 0 := fun z => gcd_ne (a := u) (b := l) (by omega) (by rw [z]; rfl)
  have gl : Int.gcd u l < 2 ^ 9000 := gcd_lt (by omega) h
  have e2 := gl_ok u l g0 gl
  have e3 := gl_ok l l g0 gl
  refine run_rt ?_
  show gSeq _ _ [some (.int u), some (.int l), none] = _
  refine (gSeq_nx (gSet_ok ((call2 rfl rfl).trans (law_divisor_ok u l)))).trans ?_
  refine (gSeq_nx (gIf_s (asB_ok (bin_ok rfl rfl (lt_f (by omega)))))).trans ?_
  exact gRet_ok (mkTup_ok (aCons_ok (bin_ok rfl rfl e2) (aCons_ok (bin_ok rfl rfl e3) rfl)) rfl)
theorem add_mul_eq (a b c : Rat) : Rat.divInt (a.num * b.den * c.den + c.num * b.num * a.den) (a.den * b.den * c.den) = a + c * b := by
  have ha := den_ne a
  have hb := den_ne b
  have hc := den_ne c
  have e : a + c * b = Rat.divInt a.num a.den + Rat.divInt c.num c.den * Rat.divInt b.num b.den := by rw [Rat.num_divInt_den, Rat.num_divInt_den, Rat.num_divInt_den]
  rw [e, Rat.divInt_mul_divInt, Rat.divInt_add_divInt _ _ ha (Int.mul_ne_zero hc hb)]
  congr 1 <;> grind
theorem big_den {a b c : Rat} (ha : a.den < 2 ^ 2500) (hb : b.den < 2 ^ 2500) (hc : c.den < 2 ^ 2500) : ((a.den : Int) * b.den * c.den).natAbs < 2 ^ 9000 := by
  rw [← Int.natCast_mul, ← Int.natCast_mul, Int.natAbs_natCast]
  exact Nat.lt_of_lt_of_le (mul_lt (mul_lt ha hb) hc) (Nat.pow_le_pow_right (by omega) (by omega))
theorem mulN {i j : Int} {n m : Nat} (hi : i.natAbs < 2 ^ n) (hj : j.natAbs < 2 ^ m) : (i * j).natAbs < 2 ^ (n + m) := by
  rw [Int.natAbs_mul]
  exact mul_lt hi hj
theorem law_add_ok {a b c : Rat} (ha : Sz 2500 a) (hb : Sz 2500 b) (hc : Sz 2500 c) : m_law_add [fr a, fr b, fr c] = .ok (fr (a + c * b)) := by
  have q0 : rd 0 [some (fr a), some (fr b), some (fr c)] = .ok (fr a) := rfl
  have q1 : rd 1 [some (fr a), some (fr b), some (fr c)] = .ok (fr b) := rfl
  have q2 : rd 2 [some (fr a), some (fr b), some (fr c)] = .ok (fr c) := rfl
  refine run_rt (gRet_ok ?_)
  have pa := a.den_nz
  have pb := b.den_nz
  have pc := c.den_nz
  show callD 2 m_law_frac _ [some (fr a), some (fr b), some (fr c)] = _
  have da : ((a.den : Nat) : Int).natAbs < 2 ^ 2500 := by rw [Int.natAbs_natCast]; exact ha.2
  have db : ((b.den : Nat) : Int).natAbs < 2 ^ 2500 := by rw [Int.natAbs_natCast]; exact hb.2
  have dc : ((c.den : Nat) : Int).natAbs < 2 ^ 2500 := by rw [Int.natAbs_natCast]; exact hc.2
  rw [call2 (bin_ok (rm (rm (r0 q0) (r1 q1) ha.1 db) (r1 q2) (mulN ha.1 db) dc) (rm (rm (r0 q2) (r0 q1) hc.1 hb.1) (r1 q0) (mulN hc.1 hb.1) da) (add_ii _ _)) (rm (rm (r1 q0) (r1 q1) da db) (r1 q2) (mulN da db) dc)]
  rw [law_frac_ok _ _ (by
    have : 0 < a.den * b.den * c.den := Nat.mul_pos (Nat.mul_pos (by omega) (by omega)) (by omega)
    rw [← Int.natCast_mul, ← Int.natCast_mul]
    omega) (big_den ha.2 hb.2 hc.2), add_mul_eq]
end LW
end

section
set_option Elab.async false
set_option linter.all false
set_option maxRecDepth 100000
set_option maxHeartbeats 1000000
set_option exponentiation.threshold 100000
set_option autoImplicit false
/-! PW: walks, and a step of shares. -/
namespace LW
open PySem hiding run
open L2 hiding bin
open DL

theorem forL_pre {α : Type} {tg : Tgt} {g : Gx} (enc : α → D) (P : List α → Rho → Prop) (l : List α)
    (h : ∀ pre x post ρ, l = pre ++ x :: post → P pre ρ → ∃ ρ' ρ'', tg.put (enc x) ρ = some ρ' ∧ g ρ' = .nx ρ'' ∧ P (pre ++ [x]) ρ'') {ρ : Rho} (h0 : P [] ρ) : ∃ ρ'', forL tg g (l.map enc) ρ = .nx ρ'' ∧ P l ρ'' := by
  have key : ∀ (post pre : List α) (ρ : Rho), l = pre ++ post → P pre ρ → ∃ ρ'', forL tg g (post.map enc) ρ = .nx ρ'' ∧ P l ρ'' := by
    intro post
    induction post with
    | nil => intro pre ρ e p; rw [List.append_nil] at e; subst e; exact ⟨ρ, rfl, p⟩
    | cons x r ih =>
      intro pre ρ e p
      obtain ⟨ρ', ρ1, e1, e2, p1⟩ := h pre x r ρ e p
      obtain ⟨ρ2, e3, p2⟩ := ih (pre ++ [x]) ρ1 (by rw [e, List.append_assoc]; rfl) p1
      refine ⟨ρ2, ?_, p2⟩
      show (match tg.put (enc x) ρ with | none => Out.bad | some ρ' => _) = _
      rw [e1]
      show (match g ρ' with | .nx ρ'' => forL tg g (r.map enc) ρ'' | o => o) = _
      rw [e2]
      exact e3
  exact key l [] ρ rfl h0

/-! ### sums -/
theorem rsum_append : ∀ a b : List Rat, (a ++ b).sum = a.sum + b.sum
  | [], b => by simp only [List.nil_append, List.sum_nil]; grind
  | x :: a, b => by rw [List.cons_append, List.sum_cons, List.sum_cons, rsum_append a b]; grind
theorem rsum_nonneg : ∀ l : List Rat, (∀ x, x ∈ l → 0 ≤ x) → 0 ≤ l.sum
  | [], _ => by rw [List.sum_nil]; exact Rat.le_refl
  | x :: r, h => by
    rw [List.sum_cons]
    have h1 := h x List.mem_cons_self
    have h2 := rsum_nonneg r fun y m => h y (List.mem_cons_of_mem _ m)
    grind
theorem le_rsum : ∀ l : List Rat, (∀ x, x ∈ l → 0 ≤ x) → ∀ x, x ∈ l → x ≤ l.sum
  | [], _, _, m => by cases m
  | y :: r, h, x, m => by
    rw [List.sum_cons]
    have h1 := h y List.mem_cons_self
    have h2 := rsum_nonneg r fun y m => h y (List.mem_cons_of_mem _ m)
    rcases List.mem_cons.mp m with rfl | m
    · grind
    · have h3 := le_rsum r (fun y m => h y (List.mem_cons_of_mem _ m)) x m
      grind
theorem rsum_set : ∀ (l : List Rat) (i : Nat) (d : Rat), i < l.length → (l.set i (l.getD i 0 + d)).sum = l.sum + d
  | [], _, _, h => by cases h
  | x :: r, 0, d, _ => by
    rw [List.set_cons_zero, List.sum_cons, List.sum_cons, List.getD_cons_zero]
    grind
  | x :: r, i + 1, d, h => by
    rw [List.set_cons_succ, List.sum_cons, List.sum_cons, List.getD_cons_succ, rsum_set r i d (by rw [List.length_cons] at h; omega)]
    grind
theorem rsum_zero (n : Nat) : (List.replicate n (0 : Rat)).sum = 0 := by
  induction n with
  | zero => rfl
  | succ n ih => rw [List.replicate_succ, List.sum_cons, ih, Rat.add_zero]

/-! ### denominators -/
def Dn (N : Nat) (q : Rat) : Prop := ∃ k : Int, q * (N : Rat) = (k : Rat)
theorem Dn.zero (N : Nat) : Dn N 0 := ⟨0, by rw [Rat.zero_mul]; rfl⟩
theorem Dn.add {N : Nat} {a b : Rat} (ha : Dn N a) (hb : Dn N b) : Dn N (a + b) := by
  obtain ⟨i, e⟩ := ha
  obtain ⟨j, f⟩ := hb
  exact ⟨i + j, by rw [Rat.add_mul, e, f, Rat.intCast_add]⟩
theorem Dn.mul {N M : Nat} {a b : Rat} (ha : Dn N a) (hb : Dn M b) : Dn (N * M) (a * b) := by
  obtain ⟨i, e⟩ := ha
  obtain ⟨j, f⟩ := hb
  refine ⟨i * j, ?_⟩
  rw [Rat.intCast_mul, ← e, ← f, Rat.natCast_mul]
  grind
theorem Dn.den {N : Nat} {q : Rat} (h0 : N ≠ 0) (h : Dn N q) : q.den ∣ N := by
  obtain ⟨k, e⟩ := h
  have n0 : (N : Rat) ≠ 0 := fun z => h0 (by exact_mod_cast z)
  have : q = Rat.divInt k N := by
    rw [Rat.divInt_eq_div, ← e]
    rw [show ((N : Int) : Rat) = (N : Rat) from rfl, Rat.div_def, Rat.mul_assoc, Rat.mul_inv_cancel _ n0, Rat.mul_one]
  rw [this, Rat.den_divInt, if_neg (by omega)]
  rw [Int.natAbs_natCast]
  exact Nat.div_dvd_of_dvd (by have := Int.gcd_dvd_natAbs_left (N : Int) k; simpa using this)
theorem mul_den_num (q : Rat) : q * (q.den : Rat) = (q.num : Rat) := by
  have n0 : (q.den : Rat) ≠ 0 := fun z => q.den_nz (by exact_mod_cast z)
  have e : q = (q.num : Rat) / (q.den : Rat) := by
    have := Rat.num_divInt_den q
    rw [Rat.divInt_eq_div] at this
    exact this.symm
  have e2 : (q.num : Rat) / (q.den : Rat) * (q.den : Rat) = q.num := Rat.div_mul_cancel n0
  rw [← e] at e2
  exact e2
theorem Dn.of_den {N : Nat} {q : Rat} (h : q.den ∣ N) : Dn N q := by
  obtain ⟨k, e⟩ := h
  refine ⟨q.num * k, ?_⟩
  rw [e, Rat.natCast_mul, Rat.intCast_mul, ← Rat.mul_assoc]
  congr 1
  exact mul_den_num q
/-- between nought and one, over N -/
theorem sz_unit {N n : Nat} {q : Rat} (h0 : N ≠ 0) (hN : N < 2 ^ n) (h : Dn N q) (p0 : 0 ≤ q) (p1 : q ≤ 1) : Sz n q := by
  have hd : q.den ≤ N := Nat.le_of_dvd (by omega) (h.den h0)
  have h1 : q.num * 1 ≤ 1 * q.den := by have := (Rat.le_iff q 1).mp p1; simpa using this
  have h2 : 0 ≤ q.num := Rat.num_nonneg.mpr p0
  exact ⟨by omega, by omega⟩

/-! ### walks -/
abbrev Spread := List (Nat × Rat)
abbrev Walk := List Spread
def prD (p : Nat × Rat) : D := .tuple [.int p.1, fr p.2]
def spreadD (s : Spread) : D := .tuple (s.map prD)
def walkD (w : Walk) : D := .tuple (w.map spreadD)
def vecD (v : List Rat) : D := .list (v.map fr)
structure GoodSp (n : Nat) (s : Spread) : Prop where
  inc : (s.map (·.1)).Pairwise (· < ·)
  mem : ∀ p, p ∈ s → p.1 < n ∧ 0 < p.2 ∧ Dn 27720 p.2
  sum : (s.map (·.2)).sum = 1
  few : s.length ≤ 3
  com : ∃ d : Nat, 0 < d ∧ d ≤ 12 ∧ ∀ p, p ∈ s → Dn d p.2
structure GoodWk (w : Walk) : Prop where
  lo : 1 ≤ w.length
  hi : w.length ≤ 8
  sp : ∀ s, s ∈ w → GoodSp w.length s
def pour (x : Rat) (m : List Rat) (s : Spread) : List Rat := s.foldl (fun m p => m.set p.1 (m.getD p.1 0 + x * p.2)) m
theorem pour_snoc (x : Rat) (m : List Rat) (s : Spread) (p : Nat × Rat) : pour x m (s ++ [p]) = (pour x m s).set p.1 ((pour x m s).getD p.1 0 + x * p.2) := by
  unfold pour
  rw [List.foldl_append]
  rfl
/-- a step, of the first k rooms alone -/
def stepK (w : Walk) (v : List Rat) (rs : List Nat) : List Rat := rs.foldl (fun m r => pour (v.getD r 0) m (w.getD r [])) (List.replicate w.length 0)
def step (w : Walk) (v : List Rat) : List Rat := stepK w v (List.range w.length)
theorem stepK_snoc (w : Walk) (v : List Rat) (rs : List Nat) (r : Nat) : stepK w v (rs ++ [r]) = pour (v.getD r 0) (stepK w v rs) (w.getD r []) := by
  unfold stepK
  rw [List.foldl_append]
  rfl
/-- a list of shares over N: n of them, none below nought, s in all -/
structure Vec (n N : Nat) (s : Rat) (m : List Rat) : Prop where
  len : m.length = n
  pos : ∀ x, x ∈ m → 0 ≤ x
  dn : ∀ x, x ∈ m → Dn N x
  sum : m.sum = s
theorem Vec.le {n N : Nat} {s : Rat} {m : List Rat} (h : Vec n N s m) {x : Rat} (hx : x ∈ m) : x ≤ s := by
  rw [← h.sum]
  exact le_rsum m h.pos x hx
theorem Vec.sz {n N k : Nat} {s : Rat} {m : List Rat} (h : Vec n N s m) (h0 : N ≠ 0) (hk : N < 2 ^ k) (hs : s ≤ 1) {x : Rat} (hx : x ∈ m) : Sz k x :=
  sz_unit h0 hk (h.dn x hx) (h.pos x hx) (by have := h.le hx; grind)
theorem Vec.getD {n N : Nat} {s : Rat} {m : List Rat} (h : Vec n N s m) {i : Nat} (hi : i < n) : m.getD i 0 ∈ m ∧ m[i]? = some (m.getD i 0) := by
  have hl : i < m.length := by rw [h.len]; exact hi
  have e : m[i]? = some (m[i]'hl) := List.getElem?_eq_getElem hl
  have e2 : m.getD i 0 = m[i]'hl := by rw [List.getD_eq_getElem?_getD, e]; rfl
  rw [e2]
  exact ⟨List.getElem_mem _, e⟩
theorem Vec.set {n N : Nat} {s d : Rat} {m : List Rat} (h : Vec n N s m) {i : Nat} (hi : i < n) (hd : 0 ≤ d) (hn : Dn N d) : Vec n N (s + d) (m.set i (m.getD i 0 + d)) := by
  refine ⟨by rw [List.length_set]; exact h.len, fun x hx => ?_, fun x hx => ?_, by rw [rsum_set m i d (by rw [h.len]; exact hi), h.sum]⟩
  · rcases List.mem_or_eq_of_mem_set hx with hx | rfl
    · exact h.pos x hx
    · have := h.pos _ (h.getD hi).1
      grind
  · rcases List.mem_or_eq_of_mem_set hx with hx | rfl
    · exact h.dn x hx
    · exact (h.dn _ (h.getD hi).1).add hn
theorem Vec.zero (n N : Nat) : Vec n N 0 (List.replicate n 0) := ⟨List.length_replicate, fun x hx => by rw [List.eq_of_mem_replicate hx]; exact Rat.le_refl, fun x hx => by rw [List.eq_of_mem_replicate hx]; exact Dn.zero N, rsum_zero n⟩
theorem Vec.cast {n N : Nat} {s t : Rat} {m : List Rat} (h : Vec n N s m) (e : s = t) : Vec n N t m := e ▸ h
theorem pour_vec {n N : Nat} {x : Rat} (hx : 0 ≤ x) (hn : Dn N x) : ∀ (sp : Spread) (s : Rat) (m : List Rat), Vec n (N * 27720) s m → (∀ p, p ∈ sp → p.1 < n ∧ 0 < p.2 ∧ Dn 27720 p.2) → Vec n (N * 27720) (s + x * (sp.map (·.2)).sum) (pour x m sp)
  | [], s, m, h, _ => h.cast (by rw [List.map_nil, List.sum_nil, Rat.mul_zero, Rat.add_zero])
  | p :: r, s, m, h, hp => by
    obtain ⟨a, b, c⟩ := hp p List.mem_cons_self
    have h1 := h.set a (d := x * p.2) (Rat.mul_nonneg hx (by grind)) (hn.mul c)
    exact (pour_vec hx hn r _ _ h1 fun q m => hp q (List.mem_cons_of_mem _ m)).cast (by rw [List.map_cons, List.sum_cons]; grind)
theorem stepK_vec {n N : Nat} {w : Walk} {v : List Rat} (gw : GoodWk w) (hn : w.length = n) {t : Rat} (hv : Vec n N t v) : ∀ rs : List Nat, (∀ r, r ∈ rs → r < n) → Vec n (N * 27720) (rs.map fun r => v.getD r 0).sum (stepK w v rs) := by
  have key : ∀ (rs : List Nat) (s : Rat) (m : List Rat), Vec n (N * 27720) s m → (∀ r, r ∈ rs → r < n) → Vec n (N * 27720) (s + (rs.map fun r => v.getD r 0).sum) (rs.foldl (fun m r => pour (v.getD r 0) m (w.getD r [])) m) := by
    intro rs
    induction rs with
    | nil => intro s m h _; exact h.cast (by rw [List.map_nil, List.sum_nil, Rat.add_zero])
    | cons r rs ih =>
      intro s m h hr
      have hrn := hr r List.mem_cons_self
      have hm := (hv.getD hrn).1
      have gs : GoodSp n (w.getD r []) := by
        have hl : r < w.length := by omega
        have e : w.getD r [] = w[r]'hl := by rw [List.getD_eq_getElem?_getD, List.getElem?_eq_getElem hl]; rfl
        rw [e, ← hn]
        exact gw.sp _ (List.getElem_mem _)
      have h1 := pour_vec (hv.pos _ hm) (hv.dn _ hm) (w.getD r []) s m h gs.mem
      rw [gs.sum, Rat.mul_one] at h1
      exact (ih _ _ h1 fun q m => hr q (List.mem_cons_of_mem _ m)).cast (by rw [List.map_cons, List.sum_cons]; grind)
  intro rs hr
  have := key rs 0 _ (Vec.zero n (N * 27720)) hr
  unfold stepK
  rw [hn]
  exact this.cast (by rw [Rat.zero_add])
theorem range_getD (v : List Rat) : (List.range v.length).map (fun r => v.getD r 0) = v := by
  apply List.ext_getElem
  · rw [List.length_map, List.length_range]
  · intro i h1 h2
    rw [List.getElem_map, List.getElem_range, List.getD_eq_getElem?_getD, List.getElem?_eq_getElem h2]
    rfl
theorem step_vec {n N : Nat} {w : Walk} {v : List Rat} (gw : GoodWk w) (hn : w.length = n) {t : Rat} (hv : Vec n N t v) : Vec n (N * 27720) t (step w v) := by
  have h := stepK_vec gw hn hv (List.range w.length) fun r m => by rw [← hn]; exact List.mem_range.mp m
  refine h.cast ?_
  rw [hn, ← hv.len, range_getD, hv.sum]
theorem good_at {w : Walk} (gw : GoodWk w) {r : Nat} (h : r < w.length) : w[r]? = some (w.getD r []) ∧ GoodSp w.length (w.getD r []) := by
  have e : w.getD r [] = w[r]'h := by rw [List.getD_eq_getElem?_getD, List.getElem?_eq_getElem h]; rfl
  rw [e]
  exact ⟨List.getElem?_eq_getElem h, gw.sp _ (List.getElem_mem _)⟩
/-- what holds midway through a step -/
theorem midway {n N : Nat} {w : Walk} {v : List Rat} (gw : GoodWk w) (hn : w.length = n) (hv : Vec n N 1 v) {pre post : List Nat} {r : Nat} (e : List.range n = pre ++ r :: post) {p1 p2 : Spread} {q : Nat × Rat} (e2 : w.getD r [] = p1 ++ q :: p2) :
    r < n ∧ q.1 < n ∧ 0 < q.2 ∧ Dn 27720 q.2 ∧ ∃ s : Rat, s ≤ 1 ∧ Vec n (N * 27720) s (pour (v.getD r 0) (stepK w v pre) p1) := by
  have hr : ∀ x, x ∈ pre ++ r :: post → x < n := fun x m => by rw [← e] at m; exact List.mem_range.mp m
  have hrn : r < n := hr r (List.mem_append_right _ List.mem_cons_self)
  obtain ⟨_, gs⟩ := good_at gw (r := r) (by omega)
  rw [e2] at gs
  obtain ⟨q1, q2, q3⟩ := gs.mem q (List.mem_append_right _ List.mem_cons_self)
  have hm := (hv.getD hrn).1
  have x0 := hv.pos _ hm
  have h1 := stepK_vec gw hn hv pre fun x m => hr x (List.mem_append_left _ m)
  have h2 := pour_vec x0 (hv.dn _ hm) p1 _ _ h1 fun p m => (by rw [← hn]; exact gs.mem p (List.mem_append_left _ m))
  refine ⟨hrn, by rw [← hn]; exact q1, q2, q3, _, ?_, h2⟩
  have t1 : (p1.map (·.2)).sum ≤ 1 := by
    have := gs.sum
    rw [List.map_append, rsum_append] at this
    have t2 : 0 ≤ (((q :: p2).map (·.2)).sum : Rat) := rsum_nonneg _ fun x hx => by
      obtain ⟨p, hp, rfl⟩ := List.mem_map.mp hx
      have := (gs.mem p (List.mem_append_right _ hp)).2.1
      grind
    grind
  have t3 : (pre.map fun r => v.getD r 0).sum + v.getD r 0 ≤ 1 := by
    have h3 : ((List.range n).map fun r => v.getD r 0).sum = 1 := by rw [← hv.len, range_getD, hv.sum]
    rw [e, List.map_append, rsum_append, List.map_cons, List.sum_cons] at h3
    have t4 : 0 ≤ ((post.map fun r => v.getD r 0).sum : Rat) := rsum_nonneg _ fun x hx => by
      obtain ⟨p, hp, rfl⟩ := List.mem_map.mp hx
      exact hv.pos _ (hv.getD (hr p (List.mem_append_right _ (List.mem_cons_of_mem _ hp)))).1
    grind
  have t5 : v.getD r 0 * (p1.map (·.2)).sum ≤ v.getD r 0 * 1 := Rat.mul_le_mul_of_nonneg_left t1 x0
  grind
end LW
end

section
set_option Elab.async false
set_option linter.all false
set_option maxRecDepth 100000
set_option maxHeartbeats 1000000
set_option exponentiation.threshold 100000
set_option autoImplicit false
/-! PT: the step of the program and the step of the law. -/
namespace LW
open PySem hiding run
open L2 hiding bin
open DL

theorem filter_yes {α : Type} (l : List α) : l.filter (fun _ => true) = l := List.filter_eq_self.mpr fun _ _ => rfl
theorem gFor_nx {tg : Tgt} {fi : Ax} {g : Gx} {ρ : Rho} {l : List D} {o : Out} (h : fi ρ = .ok l) (e : forL tg g l ρ = o) : gFor tg fi g ρ = o := (gFor_ok h).trans e
theorem map_const {α β : Type} (l : List α) (b : β) : l.map (fun _ => b) = List.replicate l.length b := by
  induction l with
  | nil => rfl
  | cons x r ih => rw [List.map_cons, ih]; rfl
/-- a list of one thing, as long as another -/
theorem comp_const {α : Type} {enc : α → D} {l : List α} {i : Nat} {vs : List Nat} {f : Ex} {fe : Ex} {d : D} {ρ : Rho} (hf : f ρ = .ok (.tuple (l.map enc)) ∨ f ρ = .ok (.list (l.map enc))) (hl : l.length ≤ sizeLine) (he : ∀ ρ, fe ρ = .ok d) :
    comp vs (.nm i) (itS f) yes fe ρ = .ok (.list (List.replicate l.length d)) := by
  have hi : itS f ρ = .ok (l.map enc) := by exact hf.elim itS_tuple itS_list
  rw [comp_ok enc (fun _ => true) (fun _ => d) l hl hi fun x _ => ⟨_, rfl, rfl, fun _ => he _⟩]
  rw [filter_yes, map_const]
theorem line_small {n : Nat} (h : n ≤ 1000) : n ≤ sizeLine := Nat.le_trans h (by decide)
theorem len_tuple (l : List D) : dLen (.tuple l) = some (.int l.length) := rfl
theorem len_list (l : List D) : dLen (.list l) = some (.int l.length) := rfl
theorem ix_tuple {l : List D} {i : Nat} {d : D} (h : l[i]? = some d) : dIx (.tuple l) (.int i) = some d := atIn h
theorem ix_list {l : List D} {i : Nat} {d : D} (h : l[i]? = some d) : dIx (.list l) (.int i) = some d := atIn h
theorem ix_vec {v : List Rat} {i : Nat} {q : Rat} (h : v[i]? = some q) : dIx (vecD v) (.int i) = some (fr q) := ix_list (by rw [List.getElem?_map, h]; rfl)
theorem ix_walk {w : Walk} {i : Nat} {q : Spread} (h : w[i]? = some q) : dIx (walkD w) (.int i) = some (spreadD q) := ix_tuple (by rw [List.getElem?_map, h]; rfl)
theorem len_walk (w : Walk) : dLen (walkD w) = some (.int w.length) := by
  show some (PyData.int _) = _
  rw [List.length_map]
theorem set_vec (m : List Rat) (i : Nat) (q : Rat) : (m.map fr).set i (fr q) = (m.set i q).map fr := by rw [List.map_set]

theorem Sz.mono {n m : Nat} {q : Rat} (h : Sz n q) (l : n ≤ m) : Sz m q := ⟨Nat.lt_of_lt_of_le h.1 (Nat.pow_le_pow_right (by decide) l), Nat.lt_of_lt_of_le h.2 (Nat.pow_le_pow_right (by decide) l)⟩
theorem GoodSp.le1 {n : Nat} {s : Spread} (g : GoodSp n s) {p : Nat × Rat} (h : p ∈ s) : p.2 ≤ 1 := by
  rw [← g.sum]
  exact le_rsum _ (fun x hx => by
    obtain ⟨p, hp, rfl⟩ := List.mem_map.mp hx
    have := (g.mem p hp).2.1
    grind) _ (List.mem_map.mpr ⟨p, h, rfl⟩)
theorem GoodSp.sz {n : Nat} {s : Spread} (g : GoodSp n s) {p : Nat × Rat} (h : p ∈ s) : Sz 15 p.2 := sz_unit (by decide) (by decide) (g.mem p h).2.2 (by have := (g.mem p h).2.1; grind) (g.le1 h)
/-- the numbers of one turn of a step -/
theorem turn_sz {n N : Nat} {w : Walk} {v : List Rat} (gw : GoodWk w) (hn : w.length = n) (hv : Vec n N 1 v) (hN0 : N ≠ 0) (hN : N < 2 ^ 2000) {pre post : List Nat} {r : Nat} (e : List.range n = pre ++ r :: post) {p1 p2 : Spread} {q : Nat × Rat} (e2 : w.getD r [] = p1 ++ q :: p2) :
    r < n ∧ q.1 < n ∧ v[r]? = some (v.getD r 0) ∧ (pour (v.getD r 0) (stepK w v pre) p1)[q.1]? = some ((pour (v.getD r 0) (stepK w v pre) p1).getD q.1 0) ∧ (pour (v.getD r 0) (stepK w v pre) p1).length = n ∧
    Sz 2500 (v.getD r 0) ∧ Sz 2500 q.2 ∧ Sz 2500 (v.getD r 0 * q.2) ∧ Sz 2500 ((pour (v.getD r 0) (stepK w v pre) p1).getD q.1 0) := by
  obtain ⟨hr, hq, q2, q3, s, hs, hm⟩ := midway gw hn hv e e2
  have hN' : N * 27720 < 2 ^ 2015 := by
    have := mul_lt (m := 15) hN (show 27720 < 2 ^ 15 by decide)
    exact this
  have hv1 := hv.getD hr
  have hm1 := hm.getD hq
  have gs := (good_at gw (r := r) (by omega)).2
  have hmem : q ∈ w.getD r [] := by rw [e2]; exact List.mem_append_right _ List.mem_cons_self
  have q1 := gs.le1 hmem
  have x0 := hv.pos _ hv1.1
  have x1 := hv.le hv1.1
  have hp : v.getD r 0 * q.2 ≤ 1 * 1 := Rat.le_trans (Rat.mul_le_mul_of_nonneg_left q1 x0) (by rw [Rat.mul_one, Rat.mul_one]; exact x1)
  refine ⟨hr, hq, hv1.2, hm1.2, hm.len, (hv.sz hN0 hN Rat.le_refl hv1.1).mono (by decide), (gs.sz hmem).mono (by decide), ?_, (hm.sz (Nat.mul_ne_zero hN0 (by decide)) hN' hs hm1.1).mono (by decide)⟩
  exact (sz_unit (Nat.mul_ne_zero hN0 (by decide)) hN' ((hv.dn _ hv1.1).mul q3) (Rat.mul_nonneg x0 (by grind)) (by rw [Rat.mul_one] at hp; exact hp)).mono (by decide)
theorem vec_zero (n : Nat) : vecD (List.replicate n 0) = .list (List.replicate n (.tuple [.int 0, .int 1])) := by
  unfold vecD
  rw [List.map_replicate]
  rfl
theorem put_vec {m : List Rat} {i : Nat} {q : Rat} (h : i < m.length) : lSet (m.map fr) (i : Int) (fr q) = some ((m.set i q).map fr) := by
  rw [lSet_nat (by rw [List.length_map]; exact h), set_vec]
theorem stepped_ok {n N : Nat} {w : Walk} {v : List Rat} (gw : GoodWk w) (hn : w.length = n) (hv : Vec n N 1 v) (hN0 : N ≠ 0) (hN : N < 2 ^ 2000) : m_stepped [walkD w, vecD v] = .ok (vecD (step w v)) := by
  have hn8 : n ≤ 8 := by rw [← hn]; exact gw.hi
  have hN' : N * 27720 < 2 ^ 2500 := Nat.lt_of_lt_of_le (mul_lt (m := 15) hN (by decide)) (Nat.pow_le_pow_right (by omega) (by omega))
  refine run_rt ?_
  show gSeq _ _ [some (walkD w), some (vecD v), none, none, none, none, none] = _
  refine (gSeq_nx (gSet_ok (comp_const (enc := spreadD) (l := w) (.inl rfl) (line_small (by have := gw.hi; omega)) (fun _ => rfl)))).trans ?_
  obtain ⟨ρ1, e1, c, d, e, x, h1⟩ := forL_pre (tg := .nm 3) (g := gFor (.tp [4, 5]) (itS (bin (rd 0) (rd 3) dIx)) (gPutL 2 (rd 4) (callD 2 m_plus (aCons (bin (rd 2) (rd 4) dIx) (aCons (callD 2 m_times (aCons (bin (rd 1) (rd 3) dIx) (aCons (rd 5) aNil))) aNil)))))
    (fun i : Nat => .int i) (fun pre ρ => ∃ c d e x, ρ = [some (walkD w), some (vecD v), some (vecD (stepK w v pre)), c, d, e, x]) (List.range n) (fun pre r post ρ e hp => by
      obtain ⟨c, d, e', x, rfl⟩ := hp
      have hr : r < n := by have : r ∈ List.range n := (by rw [e]; exact List.mem_append_right _ List.mem_cons_self); exact List.mem_range.mp this
      obtain ⟨hw, gs⟩ := good_at gw (r := r) (by omega)
      obtain ⟨ρ2, e2, d2, e3, x2, h2⟩ := forL_pre (tg := .tp [4, 5]) (g := gPutL 2 (rd 4) (callD 2 m_plus (aCons (bin (rd 2) (rd 4) dIx) (aCons (callD 2 m_times (aCons (bin (rd 1) (rd 3) dIx) (aCons (rd 5) aNil))) aNil))))
        prD (fun p1 ρ => ∃ d e x, ρ = [some (walkD w), some (vecD v), some (vecD (pour (v.getD r 0) (stepK w v pre) p1)), some (.int r), d, e, x]) (w.getD r []) (fun p1 q p2 ρ e5 hp => by
          obtain ⟨d, e', x, rfl⟩ := hp
          obtain ⟨_, hq, k1, k2, k3, s1, s2, s3, s4⟩ := turn_sz gw hn hv hN0 hN e e5
          refine ⟨[some (walkD w), some (vecD v), some (vecD (pour (v.getD r 0) (stepK w v pre) p1)), some (.int r), some (.int q.1), some (fr q.2), x], _, rfl,
            gPutL_ok ((call2 (bin_ok rfl rfl (ix_vec k2)) ((call2 (bin_ok rfl rfl (ix_vec k1)) rfl).trans (times_ok (s1.mono (by decide)) (s2.mono (by decide))))).trans (plus_ok (s4.mono (by decide)) (s3.mono (by decide)))) rfl rfl (put_vec (by rw [k3]; exact hq)), some (.int q.1), some (fr q.2), x, ?_⟩
          rw [pour_snoc]
          rfl)
        (ρ := [some (walkD w), some (vecD v), some (vecD (stepK w v pre)), some (.int r), d, e', x]) ⟨d, e', x, rfl⟩
      refine ⟨_, ρ2, rfl, gFor_nx (itS_tuple (bin_ok rfl rfl (ix_walk hw))) e2, ?_⟩
      subst h2
      exact ⟨_, _, _, _, by rw [stepK_snoc]⟩)
    (ρ := [some (walkD w), some (vecD v), some (vecD (List.replicate n 0)), none, none, none, none]) ⟨_, _, _, _, by unfold stepK; rw [hn]; rfl⟩
  refine (gSeq_nx (gFor_nx (itR1_nat (n := n) (un_ok rfl (by rw [len_walk, hn])) (by omega)) (by rw [vec_zero] at e1; rw [hn]; exact e1))).trans ?_
  subst h1
  have hs : step w v = stepK w v (List.range n) := by unfold step; rw [hn]
  rw [hs]
  exact gRet_ok rfl

theorem law_step_ok {n N : Nat} {w : Walk} {v : List Rat} (gw : GoodWk w) (hn : w.length = n) (hv : Vec n N 1 v) (hN0 : N ≠ 0) (hN : N < 2 ^ 2000) : m_law_step [walkD w, vecD v] = .ok (vecD (step w v)) := by
  have hn8 : n ≤ 8 := by rw [← hn]; exact gw.hi
  refine run_rt ?_
  show gSeq _ _ [some (walkD w), some (vecD v), none, none, none, none] = _
  refine (gSeq_nx (gSet_ok (comp_const (enc := spreadD) (l := w) (.inl rfl) (line_small (by have := gw.hi; omega)) (fun _ => rfl)))).trans ?_
  obtain ⟨ρ1, e1, c, d, e, h1⟩ := forL_pre (tg := .nm 3) (g := gFor (.nm 4) (itS (bin (rd 0) (rd 3) dIx)) (gPutL 2 (bin (rd 4) (kc (.int 0)) dIx) (callD 3 m_law_add (aCons (bin (rd 2) (bin (rd 4) (kc (.int 0)) dIx) dIx) (aCons (bin (rd 1) (rd 3) dIx) (aCons (bin (rd 4) (kc (.int 1)) dIx) aNil))))))
    (fun i : Nat => .int i) (fun pre ρ => ∃ c d e, ρ = [some (walkD w), some (vecD v), some (vecD (stepK w v pre)), c, d, e]) (List.range n) (fun pre r post ρ e hp => by
      obtain ⟨c, d, e', rfl⟩ := hp
      have hr : r < n := by have : r ∈ List.range n := (by rw [e]; exact List.mem_append_right _ List.mem_cons_self); exact List.mem_range.mp this
      obtain ⟨hw, gs⟩ := good_at gw (r := r) (by omega)
      obtain ⟨ρ2, e2, d2, e3, h2⟩ := forL_pre (tg := .nm 4) (g := gPutL 2 (bin (rd 4) (kc (.int 0)) dIx) (callD 3 m_law_add (aCons (bin (rd 2) (bin (rd 4) (kc (.int 0)) dIx) dIx) (aCons (bin (rd 1) (rd 3) dIx) (aCons (bin (rd 4) (kc (.int 1)) dIx) aNil)))))
        prD (fun p1 ρ => ∃ d e, ρ = [some (walkD w), some (vecD v), some (vecD (pour (v.getD r 0) (stepK w v pre) p1)), some (.int r), d, e]) (w.getD r []) (fun p1 q p2 ρ e5 hp => by
          obtain ⟨d, e', rfl⟩ := hp
          obtain ⟨_, hq, k1, k2, k3, s1, s2, s3, s4⟩ := turn_sz gw hn hv hN0 hN e e5
          refine ⟨[some (walkD w), some (vecD v), some (vecD (pour (v.getD r 0) (stepK w v pre) p1)), some (.int r), some (prD q), e'], _, rfl,
            gPutL_ok ((call3 (bin_ok rfl (bin_ok rfl rfl (atI0 _ _)) (ix_vec k2)) (bin_ok rfl rfl (ix_vec k1)) (bin_ok rfl rfl (atI1 _ _ _))).trans (law_add_ok s4 s1 s2)) (bin_ok rfl rfl (atI0 _ _)) rfl (put_vec (by rw [k3]; exact hq)), some (prD q), e', ?_⟩
          rw [pour_snoc, Rat.mul_comm q.2]
          rfl)
        (ρ := [some (walkD w), some (vecD v), some (vecD (stepK w v pre)), some (.int r), d, e']) ⟨d, e', rfl⟩
      refine ⟨_, ρ2, rfl, gFor_nx (itS_tuple (bin_ok rfl rfl (ix_walk hw))) e2, ?_⟩
      subst h2
      exact ⟨_, _, _, by rw [stepK_snoc]⟩)
    (ρ := [some (walkD w), some (vecD v), some (vecD (List.replicate n 0)), none, none, none]) ⟨_, _, _, by unfold stepK; rw [hn]; rfl⟩
  refine (gSeq_nx (gFor_nx (itR1_nat (n := n) (un_ok rfl (by rw [len_walk, hn])) (by omega)) (by rw [vec_zero] at e1; rw [hn]; exact e1))).trans ?_
  subst h1
  have hs : step w v = stepK w v (List.range n) := by unfold step; rw [hn]
  rw [hs]
  exact gRet_ok rfl
end LW
end

section
set_option Elab.async false
set_option linter.all false
set_option maxRecDepth 100000
set_option maxHeartbeats 1000000
set_option exponentiation.threshold 100000
set_option autoImplicit false
/-! PV: the spreads and walks that a law draws. -/
namespace LW
open PySem hiding run
open L2 hiding bin
open DL

/-- weights, room by room -/
abbrev Wts := List (Nat × Nat)
def wtD (l : Wts) : List (D × D) := l.map fun p => (.int p.1, .int p.2)
def putW : Wts → Nat → Nat → Wts
  | [], k, x => [(k, x)]
  | (a, b) :: r, k, x => if a = k then (a, b + x) :: r else (a, b) :: putW r k x
theorem keyOf_int (i : Int) : keyOf (.int i) = some (.inl i) := rfl
theorem look_wt (l : Wts) (k : Nat) : lookD (wtD l) (.inl (k : Int)) = ((l.find? fun p => p.1 == k).map fun p => PyData.int p.2) := by
  unfold lookD wtD
  induction l with
  | nil => rfl
  | cons p r ih =>
    rw [List.map_cons, List.find?_cons, List.find?_cons]
    have e : decide (keyOf (PyData.int (p.1 : Int)) = some (Sum.inl (k : Int))) = (p.1 == k) := by
      rw [keyOf_int]
      by_cases h : p.1 = k
      · subst h; simp
      · have : ¬ (p.1 : Int) = k := by omega
        simp [h, this]
    show (match decide (keyOf (PyData.int (p.1 : Int)) = some (Sum.inl (k : Int))) with | true => _ | false => _ : Option (D × D)).map _ = _
    rw [e]
    cases h : (p.1 == k) with
    | true => rfl
    | false => exact ih
def getW (l : Wts) (k : Nat) : Nat := match l.find? fun p => p.1 == k with
  | some p => p.2
  | none => 0
theorem getW_cons (p : Nat × Nat) (r : Wts) (k : Nat) : getW (p :: r) k = if p.1 = k then p.2 else getW r k := by
  unfold getW
  rw [List.find?_cons]
  by_cases h : p.1 = k
  · have : (p.1 == k) = true := by simpa using h
    rw [this, if_pos h]
  · have : (p.1 == k) = false := by simpa using h
    rw [this, if_neg h]
theorem putW_new : ∀ (l : Wts) (k x : Nat), k ∉ l.map (·.1) → putW l k x = l ++ [(k, x)] ∧ getW l k = 0
  | [], k, x, _ => ⟨rfl, rfl⟩
  | p :: r, k, x, h => by
    rw [List.map_cons, List.mem_cons] at h
    have h1 : ¬ p.1 = k := fun z => h (.inl z.symm)
    obtain ⟨e1, e2⟩ := putW_new r k x fun z => h (.inr z)
    refine ⟨?_, by rw [getW_cons, if_neg h1, e2]⟩
    show (if p.1 = k then _ else _) = _
    rw [if_neg h1, e1]
    rfl
theorem putW_old : ∀ (l : Wts) (k x : Nat), (l.map (·.1)).Nodup → k ∈ l.map (·.1) → putW l k x = l.map fun p => if p.1 = k then (p.1, getW l k + x) else p
  | [], _, _, _, h => by cases h
  | p :: r, k, x, hn, h => by
    rw [List.map_cons, List.nodup_cons] at hn
    rw [List.map_cons, List.mem_cons] at h
    rw [getW_cons]
    by_cases c : p.1 = k
    · show (if p.1 = k then (p.1, p.2 + x) :: r else _) = _
      rw [if_pos c, if_pos c, List.map_cons, if_pos c]
      congr 1
      have : ∀ q, q ∈ r → (if q.1 = k then (q.1, p.2 + x) else q) = q := fun q hq => if_neg fun z => hn.1 (by rw [c, ← z]; exact List.mem_map.mpr ⟨q, hq, rfl⟩)
      rw [List.map_congr_left this, List.map_id']
    · show (if p.1 = k then _ else (p.1, p.2) :: putW r k x) = _
      rw [if_neg c, if_neg c, List.map_cons, if_neg c, putW_old r k x hn.2 (h.resolve_left fun z => c z.symm)]
theorem any_wt (l : Wts) (k : Nat) : (wtD l).any (fun p => decide (keyOf p.1 = some (Sum.inl (k : Int)))) = decide (k ∈ l.map (·.1)) := by
  unfold wtD
  rw [List.any_map]
  rw [Bool.eq_iff_iff, List.any_eq_true, decide_eq_true_iff, List.mem_map]
  constructor
  · rintro ⟨p, hp, e⟩
    refine ⟨p, hp, ?_⟩
    have : (Sum.inl (p.1 : Int) : Int ⊕ Str) = Sum.inl (k : Int) := by simpa [keyOf_int] using e
    have := Sum.inl.inj this
    omega
  · rintro ⟨p, hp, rfl⟩
    exact ⟨p, hp, by simp [keyOf_int]⟩
theorem put_wt (l : Wts) (hn : (l.map (·.1)).Nodup) (k x : Nat) : putD (wtD l) (.inl (k : Int)) (.int ((getW l k + x : Nat) : Int)) = wtD (putW l k x) := by
  unfold putD
  rw [any_wt]
  by_cases h : k ∈ l.map (·.1)
  · rw [if_pos (by simpa using h), putW_old l k x hn h]
    unfold wtD
    rw [List.map_map, List.map_map]
    apply List.map_congr_left
    intro p _
    show (if keyOf (PyData.int (p.1 : Int)) = some (Sum.inl (k : Int)) then _ else _) = _
    by_cases c : p.1 = k
    · subst c
      rw [if_pos (keyOf_int _)]
      show _ = (PyData.int ((if p.1 = p.1 then (p.1, getW l p.1 + x) else p).1 : Nat), _)
      simp
    · rw [if_neg (by
        rw [keyOf_int]
        intro z
        have := Sum.inl.inj (Option.some.inj z)
        omega)]
      simp [c]
  · obtain ⟨e1, e2⟩ := putW_new l k x h
    rw [if_neg (by simpa using h), e1, e2, Nat.zero_add]
    unfold wtD
    rw [List.map_append]
    rfl
structure WtOk (n t : Nat) (l : Wts) : Prop where
  nd : (l.map (·.1)).Nodup
  mem : ∀ p, p ∈ l → p.1 < n ∧ 0 < p.2
  sum : (l.map (·.2)).sum ≤ 4 * t
  len : l.length ≤ t
theorem putW_sum : ∀ (l : Wts) (k x : Nat), ((putW l k x).map (·.2)).sum = (l.map (·.2)).sum + x
  | [], k, x => by simp [putW]
  | p :: r, k, x => by
    show ((if p.1 = k then (p.1, p.2 + x) :: r else (p.1, p.2) :: putW r k x).map (·.2)).sum = _
    split
    · simp only [List.map_cons, List.sum_cons]; omega
    · simp only [List.map_cons, List.sum_cons, putW_sum r k x]; omega
theorem putW_keys (l : Wts) (k x : Nat) (hn : (l.map (·.1)).Nodup) : ((putW l k x).map (·.1)) = if k ∈ l.map (·.1) then l.map (·.1) else l.map (·.1) ++ [k] := by
  split
  · rename_i h
    rw [putW_old l k x hn h, List.map_map]
    apply List.map_congr_left
    intro p _
    show (if p.1 = k then (p.1, getW l k + x) else p).1 = p.1
    split <;> rfl
  · rename_i h
    rw [(putW_new l k x h).1, List.map_append]
    rfl
theorem putW_mem : ∀ (l : Wts) (k x : Nat) (p : Nat × Nat), p ∈ putW l k x → p ∈ l ∨ p.1 = k ∧ x ≤ p.2
  | [], k, x, p, h => .inr (by rcases List.mem_cons.mp h with rfl | h; exact ⟨rfl, Nat.le_refl _⟩; cases h)
  | q :: r, k, x, p, h => by
    have h : p ∈ (if q.1 = k then (q.1, q.2 + x) :: r else (q.1, q.2) :: putW r k x) := h
    split at h
    · rename_i c
      rcases List.mem_cons.mp h with rfl | h
      · exact .inr ⟨c, Nat.le_add_left _ _⟩
      · exact .inl (List.mem_cons_of_mem _ h)
    · rcases List.mem_cons.mp h with rfl | h
      · exact .inl List.mem_cons_self
      · rcases putW_mem r k x p h with h | h
        · exact .inl (List.mem_cons_of_mem _ h)
        · exact .inr h
theorem putW_len : ∀ (l : Wts) (k x : Nat), (putW l k x).length ≤ l.length + 1
  | [], _, _ => Nat.le_refl _
  | p :: r, k, x => by
    show (if p.1 = k then (p.1, p.2 + x) :: r else (p.1, p.2) :: putW r k x).length ≤ _
    have := putW_len r k x
    split <;> simp only [List.length_cons] <;> omega
theorem putW_ok {n t : Nat} {l : Wts} {k x : Nat} (h : WtOk n t l) (hk : k < n) (hx : 0 < x) (hx4 : x ≤ 4) : WtOk n (t + 1) (putW l k x) := by
  refine ⟨?_, fun p hp => ?_, by rw [putW_sum]; have := h.sum; omega, by have := putW_len l k x; have := h.len; omega⟩
  · rw [putW_keys l k x h.nd]
    split
    · exact h.nd
    · rename_i c
      rw [List.nodup_append]
      exact ⟨h.nd, by simp, fun a ha b hb => by
        rcases List.mem_cons.mp hb with rfl | hb
        · intro z; subst z; exact c ha
        · cases hb⟩
  · rcases putW_mem l k x p hp with h1 | ⟨h1, h2⟩
    · exact h.mem p h1
    · exact ⟨by omega, by omega⟩
theorem putW_ne (l : Wts) (k x : Nat) : putW l k x ≠ [] := by
  cases l with
  | nil => intro z; cases z
  | cons p r =>
    show (if p.1 = k then (p.1, p.2 + x) :: r else (p.1, p.2) :: putW r k x) ≠ []
    split <;> intro z <;> cases z

theorem isDic_wt (l : Wts) : isDic (wtD l) = true := by cases l <;> rfl
theorem getV_wt {i j : Nat} {ρ : Rho} {l : Wts} {k : Nat} (hi : rd i ρ = .ok (.dict (wtD l))) (hj : rd j ρ = .ok (.int k)) : getV (rd i) (rd j) (kc (.int 0)) ρ = .ok (.int (getW l k)) := by
  unfold getV
  rw [hi]
  show (if isDic (wtD l) = true then ((rd j ρ).bind _) else _) = _
  rw [if_pos (isDic_wt l), hj]
  show ofO (some ((lookD (wtD l) (.inl (k : Int))).getD (.int 0))) = _
  rw [look_wt]
  unfold getW
  cases l.find? fun p => p.1 == k <;> rfl
theorem gPutD_ok {i : Nat} {fk f : Ex} {ρ : Rho} {l : List (D × D)} {k d : D} {j : Key} (hf : f ρ = .ok d) (hk : fk ρ = .ok k) (hj : keyOf k = some j) (hi : ρ[i]? = some (some (.dict l))) (hl : l.length < 1000000) : gPutD i fk f ρ = .nx (ρ.set i (some (.dict (putD l j d)))) := by
  unfold gPutD
  rw [hi]
  simp only [hf, hk, hj, Res.out]
  exact if_pos hl
theorem wt_len {n t : Nat} {l : Wts} (h : WtOk n t l) : l.length ≤ 4 * t := by
  have : ∀ l : Wts, (∀ p, p ∈ l → 0 < p.2) → l.length ≤ (l.map (·.2)).sum := by
    intro l
    induction l with
    | nil => intro _; exact Nat.le_refl _
    | cons p r ih =>
      intro hp
      have h1 := ih fun q m => hp q (List.mem_cons_of_mem _ m)
      have h2 := hp p List.mem_cons_self
      rw [List.length_cons, List.map_cons, List.sum_cons]
      omega
  exact Nat.le_trans (this l fun p m => (h.mem p m).2) h.sum
/-- the rooms, rising -/
def roomsW (l : Wts) : List Nat := (l.map (·.1)).mergeSort fun a b => decide (a ≤ b)
theorem rooms_perm (l : Wts) : (roomsW l).Perm (l.map (·.1)) := List.mergeSort_perm _ _
theorem rooms_le (l : Wts) : (roomsW l).Pairwise (· ≤ ·) := by
  have h := List.pairwise_mergeSort (le := fun a b : Nat => decide (a ≤ b)) (by intro a b c h1 h2; simp at *; omega) (by intro a b; simp; omega) (l.map (·.1))
  exact h.imp fun h => by simpa using h
theorem rooms_lt {l : Wts} (h : (l.map (·.1)).Nodup) : (roomsW l).Pairwise (· < ·) := by
  have h1 := (rooms_perm l).nodup_iff.mpr h
  exact (rooms_le l).imp₂ (fun a b h2 h3 => by omega) h1
theorem sort_rooms (l : Wts) : sortI (l.map fun p => (p.1 : Int)) = (roomsW l).map fun k : Nat => (k : Int) := by
  symm
  apply sortI_eq
  · have := (rooms_perm l).map (fun k : Nat => (k : Int))
    rw [List.map_map] at this
    exact this
  · rw [List.pairwise_map]
    exact (rooms_le l).imp fun h => by omega
theorem getW_mem {l : Wts} {k : Nat} (h : k ∈ l.map (·.1)) : (k, getW l k) ∈ l := by
  obtain ⟨p, hp, rfl⟩ := List.mem_map.mp h
  unfold getW
  cases e : l.find? fun q => q.1 == p.1 with
  | none =>
    have := List.find?_eq_none.mp e p hp
    simp at this
  | some q =>
    have h1 := List.find?_some e
    have h2 := List.mem_of_find?_eq_some e
    have : q.1 = p.1 := by simpa using h1
    rw [← this]
    exact h2
theorem sum_getW : ∀ (l : Wts), (l.map (·.1)).Nodup → ((l.map (·.1)).map (getW l)).sum = (l.map (·.2)).sum
  | [], _ => rfl
  | p :: r, h => by
    rw [List.map_cons, List.nodup_cons] at h
    have e : (r.map (·.1)).map (getW (p :: r)) = (r.map (·.1)).map (getW r) := by
      apply List.map_congr_left
      intro k hk
      rw [getW_cons, if_neg]
      intro z
      exact h.1 (by rw [z]; exact hk)
    rw [List.map_cons, List.map_cons, List.sum_cons, e, sum_getW r h.2, getW_cons, if_pos rfl, List.map_cons, List.sum_cons]
def spreadW (l : Wts) : Spread := (roomsW l).map fun k => (k, Rat.divInt (getW l k) ((l.map (·.2)).sum : Nat))
theorem dn_small {g m : Nat} (h0 : 0 < m) (h : m ≤ 12) : Dn 27720 (Rat.divInt g m) := by
  have hd : m ∣ 27720 := by
    have : m = 1 ∨ m = 2 ∨ m = 3 ∨ m = 4 ∨ m = 5 ∨ m = 6 ∨ m = 7 ∨ m = 8 ∨ m = 9 ∨ m = 10 ∨ m = 11 ∨ m = 12 := by omega
    rcases this with rfl | rfl | rfl | rfl | rfl | rfl | rfl | rfl | rfl | rfl | rfl | rfl <;> decide
  refine Dn.of_den (Nat.dvd_trans ?_ hd)
  rw [Rat.den_divInt, if_neg (by omega), Int.natAbs_natCast]
  exact Nat.div_dvd_of_dvd (by have := Int.gcd_dvd_natAbs_left (m : Int) (g : Int); simpa using this)
theorem sum_div (m : Nat) (h : 0 < m) : ∀ l : List Nat, (l.map fun g => Rat.divInt (g : Nat) m).sum = Rat.divInt (l.sum : Nat) m
  | [] => by rw [List.map_nil, List.sum_nil, List.sum_nil]; simp
  | a :: r => by
    rw [List.map_cons, List.sum_cons, List.sum_cons, sum_div m h r]
    have m0 : (m : Rat) ≠ 0 := fun z => by have : m = 0 := by exact_mod_cast z
                                           omega
    rw [Rat.divInt_eq_div, Rat.divInt_eq_div, Rat.divInt_eq_div, Int.natCast_add, Rat.intCast_add]
    grind
theorem spreadW_good {n t : Nat} {l : Wts} (h : WtOk n t l) (ht : t ≤ 3) (hne : l ≠ []) : GoodSp n (spreadW l) ∧ 0 < (l.map (·.2)).sum ∧ (l.map (·.2)).sum ≤ 12 := by
  have s1 : (l.map (·.2)).sum ≤ 12 := by have := h.sum; omega
  have s0 : 0 < (l.map (·.2)).sum := by
    cases l with
    | nil => exact absurd rfl hne
    | cons p r =>
      have := (h.mem p List.mem_cons_self).2
      rw [List.map_cons, List.sum_cons]
      omega
  have hlen : (spreadW l).length ≤ 3 := by
    unfold spreadW
    rw [List.length_map, (rooms_perm l).length_eq, List.length_map]
    have := h.len
    omega
  refine ⟨⟨?_, fun p hp => ?_, ?_, hlen, (l.map (·.2)).sum, s0, s1, fun p hp => ?_⟩, s0, s1⟩
  · have e : (spreadW l).map (·.1) = roomsW l := by
      unfold spreadW
      rw [List.map_map]
      exact List.map_id' _
    rw [e]
    exact rooms_lt h.nd
  · obtain ⟨k, hk, rfl⟩ := List.mem_map.mp hp
    have hm := getW_mem ((rooms_perm l).mem_iff.mp hk)
    obtain ⟨a, b⟩ := h.mem _ hm
    refine ⟨a, ?_, dn_small s0 s1⟩
    show 0 < Rat.divInt (getW l k) ((l.map (·.2)).sum : Nat)
    have b : 0 < getW l k := b
    rw [Rat.divInt_eq_div, Rat.div_def]
    exact Rat.mul_pos (Rat.intCast_pos.mpr (by omega)) (Rat.inv_pos.mpr (Rat.intCast_pos.mpr (by omega)))
  · have e : (spreadW l).map (·.2) = ((roomsW l).map (getW l)).map fun g => Rat.divInt (g : Nat) ((l.map (·.2)).sum : Nat) := by
      unfold spreadW
      rw [List.map_map, List.map_map]
      rfl
    rw [e, sum_div _ s0, ((rooms_perm l).map (getW l)).sum_nat, sum_getW l h.nd]
    exact Rat.divInt_self' (by omega)
  · obtain ⟨k, hk, rfl⟩ := List.mem_map.mp hp
    have m0 : (((l.map (·.2)).sum : Nat) : Rat) ≠ 0 := fun z => by
      have : (l.map (·.2)).sum = 0 := by exact_mod_cast z
      omega
    refine ⟨(getW l k : Nat), ?_⟩
    show Rat.divInt (getW l k) ((l.map (·.2)).sum : Nat) * (((l.map (·.2)).sum : Nat) : Rat) = _
    rw [Rat.divInt_eq_div]
    exact Rat.div_mul_cancel m0

theorem spread_ok (ns : List Int) (at_ many : Nat) (hm : 0 < many) : ∃ s, GoodSp many s ∧ m_law_spread [scrD ns, .int at_, .int many] = .ok (spreadD s) := by
  obtain ⟨r, hr, er⟩ := mixed_ok ns at_ 3 (by decide)
  obtain ⟨ρ1, e1, l, c, d, ok, ne, h1⟩ := forL_pre (tg := .nm 4) (g := gSeq (gSet 5 (callD 3 m_law_mixed (aCons (rd 0) (aCons (bin (bin (rd 1) (kc (.int 1)) dAdd) (bin (kc (.int 2)) (rd 4) dMul) dAdd) (aCons (rd 2) aNil))))) (gPutD 3 (rd 5) (bin (bin (getV (rd 3) (rd 5) (kc (.int 0))) (kc (.int 1)) dAdd) (callD 3 m_law_mixed (aCons (rd 0) (aCons (bin (bin (rd 1) (kc (.int 2)) dAdd) (bin (kc (.int 2)) (rd 4) dMul) dAdd) (aCons (kc (.int 4)) aNil)))) dAdd)))
    (fun i : Nat => PyData.int i) (fun pre ρ => ∃ l c d, WtOk many pre.length l ∧ (pre ≠ [] → l ≠ []) ∧ ρ = [some (scrD ns), some (.int at_), some (.int many), some (.dict (wtD l)), c, d, none]) (List.range (1 + r)) (fun pre k post ρ e hp => by
      obtain ⟨l, c, d, ok, _, rfl⟩ := hp
      obtain ⟨room, hroom, e2⟩ := mixed_ok ns (at_ + 1 + 2 * k) many hm
      obtain ⟨x, hx, e3⟩ := mixed_ok ns (at_ + 2 + 2 * k) 4 (by decide)
      have hpre : pre.length ≤ 3 := by
        have := congrArg List.length e
        rw [List.length_range, List.length_append] at this
        omega
      have hl := wt_len ok
      refine ⟨[some (scrD ns), some (.int at_), some (.int many), some (.dict (wtD l)), some (.int k), d, none], [some (scrD ns), some (.int at_), some (.int many), some (.dict (wtD (putW l room (1 + x)))), some (.int k), some (.int room), none], rfl, ?_, putW l room (1 + x), _, _, ?_, fun _ => putW_ne _ _ _, rfl⟩
      · refine (gSeq_nx (gSet_ok ((call3 rfl (bin_ok (bin_ok rfl rfl rfl) (bin_ok rfl rfl (mul_ok (mulOk_l (by decide)))) rfl) rfl).trans e2))).trans ?_
        refine (gPutD_ok (l := wtD l) (d := .int ((getW l room + (1 + x) : Nat) : Int)) (bin_ok (bin_ok (getV_wt (k := room) rfl rfl) rfl rfl) ((call3 rfl (bin_ok (bin_ok rfl rfl rfl) (bin_ok rfl rfl (mul_ok (mulOk_l (by decide)))) rfl) rfl).trans e3) ?_) rfl rfl rfl (by unfold wtD; rw [List.length_map]; omega)).trans ?_
        · show some (PyData.int ((getW l room : Int) + 1 + x)) = _
          congr 2
          omega
        · rw [put_wt l ok.nd]
          rfl
      · rw [List.length_append]
        exact putW_ok ok hroom (by omega) (by omega))
    (ρ := [some (scrD ns), some (.int at_), some (.int many), some (.dict []), none, none, none]) ⟨[], none, none, ⟨List.nodup_nil, (fun p h => by cases h), by simp, Nat.le_refl _⟩, fun z => absurd rfl z, rfl⟩
  have ne1 : l ≠ [] := ne (by
    intro z
    have := congrArg List.length z
    rw [List.length_range] at this
    simp at this)
  rw [List.length_range] at ok
  obtain ⟨good, s0, s1⟩ := spreadW_good ok (by omega) ne1
  refine ⟨spreadW l, good, run_rt ?_⟩
  show gSeq _ _ [some (scrD ns), some (.int at_), some (.int many), none, none, none, none] = _
  refine (gSeq_nx (gSet_ok rfl)).trans ?_
  have e0 : itR1 (bin (kc (.int 1)) (callD 3 m_law_mixed (aCons (rd 0) (aCons (rd 1) (aCons (kc (.int 3)) aNil)))) dAdd) [some (scrD ns), some (.int at_), some (.int many), some (.dict []), none, none, none] = .ok ((List.range (1 + r)).map fun i : Nat => PyData.int i) :=
    itR1_nat (n := 1 + r) (bin_ok rfl ((call3 rfl rfl rfl).trans er) rfl) (by omega)
  refine (gSeq_nx (gFor_nx e0 e1)).trans ?_
  subst h1
  have e2 : dSumV (.dict (wtD l)) = some (.int ((l.map (·.2)).sum : Nat)) := by
    show (if isDic (wtD l) = true then _ else _) = _
    rw [if_pos (isDic_wt l)]
    have : (wtD l).map (·.2) = (l.map fun p => (p.2 : Int)).map PyData.int := by
      unfold wtD
      rw [List.map_map, List.map_map]
      rfl
    rw [this, allI_map]
    have e3 : ∀ l : Wts, (l.map fun p => (p.2 : Int)).sum = ((l.map (·.2)).sum : Nat) := by
      intro l
      induction l with
      | nil => rfl
      | cons p r ih => rw [List.map_cons, List.map_cons, List.sum_cons, List.sum_cons, ih, Int.natCast_add]
    show some (PyData.int _) = _
    rw [e3]
  refine (gSeq_nx (gSet_ok (un_ok rfl e2))).trans ?_
  have e4 : dList (.dict (wtD l)) = some (.list ((l.map fun p => (p.1 : Int)).map PyData.int)) := by
    show (if isDic (wtD l) = true then _ else _) = _
    rw [if_pos (isDic_wt l)]
    unfold wtD
    rw [List.map_map, List.map_map]
    rfl
  have e5 : dSorted (.list ((l.map fun p => (p.1 : Int)).map PyData.int)) = some (.list ((roomsW l).map fun k : Nat => PyData.int k)) := by
    show (allI _).map _ = _
    rw [allI_map]
    show some (PyData.list ((sortI _).map _)) = _
    rw [sort_rooms, List.map_map]
    rfl
  have hlen : (roomsW l).length ≤ sizeLine := by
    rw [(rooms_perm l).length_eq, List.length_map]
    exact line_small (by have := wt_len ok; omega)
  refine gRet_ok (un_ok (comp_ok (fun k : Nat => PyData.int k) (fun _ => true) (fun k => prD (k, Rat.divInt (getW l k) ((l.map (·.2)).sum : Nat))) (roomsW l) hlen (itS_list (un_ok (un_ok rfl e4) e5)) fun k hk => ⟨[some (scrD ns), some (.int at_), some (.int many), some (.dict (wtD l)), c, some (.int k), some (.int ((l.map (·.2)).sum : Nat))], rfl, rfl, fun _ => ?_⟩) ?_)
  · have hm := getW_mem ((rooms_perm l).mem_iff.mp hk)
    have e6 : dDix (.dict (wtD l)) (.int k) = some (.int (getW l k)) := by
      show (if isDic (wtD l) = true then (some (Sum.inl (k : Int))).bind (lookD (wtD l)) else _) = _
      rw [if_pos (isDic_wt l)]
      show lookD (wtD l) (.inl (k : Int)) = _
      rw [look_wt]
      unfold getW
      cases e : l.find? fun p => p.1 == k with
      | none =>
        have := List.find?_eq_none.mp e _ hm
        simp at this
      | some q => rfl
    exact mkTup_ok (aCons_ok rfl (aCons_ok ((call2 (bin_ok rfl rfl e6) rfl).trans (law_frac_ok _ _ (by omega) (by
      rw [Int.natAbs_natCast]
      exact Nat.lt_of_le_of_lt s1 (Nat.lt_of_lt_of_le (show 12 < 2 ^ 4 by decide) (Nat.pow_le_pow_right (by decide) (by decide)))))) rfl)) rfl
  · rw [filter_yes]
    show some (PyData.tuple _) = some (spreadD _)
    unfold spreadD spreadW
    rw [List.map_map]
    rfl
theorem walk_ok (ns : List Int) (at_ : Nat) : ∃ w, GoodWk w ∧ m_law_walk [scrD ns, .int at_] = .ok (walkD w) := by
  obtain ⟨r, hr, er⟩ := mixed_ok ns at_ 5 (by decide)
  obtain ⟨r2, hr2, er2⟩ := mixed_ok ns (at_ + 1) 6 (by decide)
  have key : ∀ many : Nat, 0 < many → many ≤ 8 → ∃ w, GoodWk w ∧ ∃ c, gRet (un (comp [3] (.nm 3) (itR1 (rd 2)) yes (callD 3 m_law_spread (aCons (rd 0) (aCons (bin (bin (rd 1) (kc (.int 2)) dAdd) (bin (kc (.int 7)) (rd 3) dMul) dAdd) (aCons (rd 2) aNil))))) dTuple) [some (scrD ns), some (.int at_), some (.int many), none] = .rt c ∧ c = walkD w := by
    intro many h0 h8
    have hs := fun k : Nat => spread_ok ns (at_ + 2 + 7 * k) many h0
    refine ⟨(List.range many).map fun k => (hs k).choose, ⟨by rw [List.length_map, List.length_range]; exact h0, by rw [List.length_map, List.length_range]; exact h8, fun s m => ?_⟩, _, gRet_ok (un_ok (comp_ok (fun k : Nat => PyData.int k) (fun _ => true) (fun k => spreadD (hs k).choose) (List.range many) (by rw [List.length_range]; exact line_small (by omega)) (itR1_nat rfl (by omega)) fun k hk => ⟨[some (scrD ns), some (.int at_), some (.int many), some (.int k)], rfl, rfl, fun _ => ?_⟩) rfl), ?_⟩
    · obtain ⟨k, _, rfl⟩ := List.mem_map.mp m
      rw [List.length_map, List.length_range]
      exact (hs k).choose_spec.1
    · exact (call3 rfl (bin_ok (bin_ok rfl rfl rfl) (bin_ok rfl rfl (mul_ok (mulOk_l (by decide)))) rfl) rfl).trans (hs k).choose_spec.2
    · rw [filter_yes]
      unfold walkD
      rw [List.map_map]
      rfl
  have e2 : bin (callD 3 m_law_mixed (aCons (rd 0) (aCons (bin (rd 1) (kc (.int 1)) dAdd) (aCons (kc (.int 6)) aNil)))) (kc (.int 5)) dEq [some (scrD ns), some (.int at_), some (.int ((1 + r : Nat) : Int)), none] = .ok (.bool ((r2 : Int) == 5)) := bin_ok ((call3 rfl (bin_ok rfl rfl rfl) rfl).trans er2) rfl rfl
  have e1 : gSet 2 (bin (kc (.int 1)) (callD 3 m_law_mixed (aCons (rd 0) (aCons (rd 1) (aCons (kc (.int 5)) aNil)))) dAdd) [some (scrD ns), some (.int at_), none, none] = .nx [some (scrD ns), some (.int at_), some (.int ((1 + r : Nat) : Int)), none] := gSet_ok (bin_ok rfl ((call3 rfl rfl rfl).trans er) rfl)
  by_cases h : r2 = 5
  · obtain ⟨w, gw, c, e, rfl⟩ := key 8 (by decide) (by decide)
    refine ⟨w, gw, run_rt ?_⟩
    show gSeq _ _ [some (scrD ns), some (.int at_), none, none] = _
    refine (gSeq_nx e1).trans ((gSeq_nx ((gIf_t (asB_ok (e2.trans (by rw [h]; rfl)))).trans (gSet_ok rfl))).trans e)
  · obtain ⟨w, gw, c, e, rfl⟩ := key (1 + r) (by omega) (by omega)
    refine ⟨w, gw, run_rt ?_⟩
    show gSeq _ _ [some (scrD ns), some (.int at_), none, none] = _
    have hb : ((r2 : Int) == 5) = false := by
      rw [beq_eq_false_iff_ne]
      omega
    refine (gSeq_nx e1).trans ((gSeq_nx (gIf_s (asB_ok (e2.trans (by rw [hb]))))).trans e)
end LW
end

section
set_option Elab.async false
set_option linter.all false
set_option maxRecDepth 100000
set_option maxHeartbeats 1000000
set_option exponentiation.threshold 100000
set_option autoImplicit false
/-! PN: after, need_room, is_fraction. -/
namespace LW
open PySem hiding run
open L2 hiding bin
open DL

theorem kit_int_int : kitB "int" "int" = some true := by decide +kernel
theorem kit_int_bool : kitB "int" "bool" = some false := by decide +kernel
theorem kit_list : kitB "list" "list" = some true := by decide +kernel
theorem kit_tuple : kitB "tuple" "tuple" = some true := by decide +kernel
theorem isi_int (i : Int) : dIsi "int" (.int i) = some (.bool true) := by
  show (kitB "int" "int").map _ = _
  rw [kit_int_int]; rfl
theorem isi_bool (i : Int) : dIsi "bool" (.int i) = some (.bool false) := by
  show (kitB "int" "bool").map _ = _
  rw [kit_int_bool]; rfl
theorem isi_list (l : List D) : dIsi "list" (.list l) = some (.bool true) := by
  show (kitB "list" "list").map _ = _
  rw [kit_list]; rfl
theorem isi_tuple (l : List D) : dIsi "tuple" (.tuple l) = some (.bool true) := by
  show (kitB "tuple" "tuple").map _ = _
  rw [kit_tuple]; rfl
theorem andV_t {fa fb : Ex} {ρ : Rho} {d : D} (h : fa ρ = .ok (.bool true)) (k : fb ρ = .ok d) : andV fa fb ρ = .ok d := by
  unfold andV
  rw [h]
  exact k
theorem notV_ok {fa : Ex} {ρ : Rho} {b : Bool} (h : fa ρ = .ok (.bool b)) : notV fa ρ = .ok (.bool (!b)) := by
  unfold notV
  rw [h]
  rfl
theorem is_whole_ok (i : Int) : m_is_whole [.int i] = .ok (.bool true) := run_rt (gRet_ok (andV_t (un_ok rfl (isi_int i)) (notV_ok (un_ok rfl (isi_bool i)))))
theorem law_whole_ok (i : Int) : m_law_whole [.int i] = .ok (.bool true) := run_rt (gRet_ok (andV_t (un_ok rfl (isi_int i)) (notV_ok (un_ok rfl (isi_bool i)))))
theorem need_room_ok {w : Walk} {r : Nat} (h : r < w.length) : m_need_room [walkD w, .int r] = .ok .none := by
  refine run_nx (ρ := [some (walkD w), some (.int r)]) ?_
  show gIf _ _ gSkip [some (walkD w), some (.int r)] = _
  exact gIf_s (orT_f (notT_ok (b := true) (asB_ok ((call1 rfl).trans (is_whole_ok r)))) (orT_f (asB_ok (bin_ok rfl rfl (lt_f (by omega)))) (asB_ok (bin_ok rfl (un_ok rfl (len_walk w)) (by rw [ge_ii, decide_eq_false (by omega)])))))
def stepN (w : Walk) (v : List Rat) : Nat → List Rat
  | 0 => v
  | k + 1 => step w (stepN w v k)
def unit (n s : Nat) : List Rat := (List.range n).map fun k => if k = s then 1 else 0
theorem unit_eq {n s : Nat} (h : s < n) : (List.replicate n (0 : Rat)).set s ((List.replicate n (0 : Rat)).getD s 0 + 1) = unit n s := by
  apply List.ext_getElem
  · unfold unit; simp
  · intro i h1 h2
    unfold unit at *
    rw [List.getElem_map, List.getElem_range, List.getElem_set]
    by_cases c : s = i
    · subst c
      rw [if_pos rfl, if_pos rfl]
      simp at h2
      rw [List.getD_eq_getElem?_getD, List.getElem?_replicate, if_pos h]
      exact Rat.zero_add 1
    · rw [if_neg c, if_neg fun z => c z.symm, List.getElem_replicate]
theorem unit_vec {n s : Nat} (h : s < n) : Vec n 1 1 (unit n s) := by
  rw [← unit_eq h]
  have := (Vec.zero n 1).set (i := s) (d := 1) h (by decide) ⟨1, Rat.one_mul _⟩
  rw [Rat.zero_add] at this
  exact this
theorem stepN_vec {n : Nat} {w : Walk} {v : List Rat} (gw : GoodWk w) (hn : w.length = n) {t : Rat} (hv : Vec n 1 t v) : ∀ k, Vec n (27720 ^ k) t (stepN w v k)
  | 0 => hv
  | k + 1 => by
    have := step_vec gw hn (stepN_vec gw hn hv k)
    rw [← Nat.pow_succ] at this
    exact this
theorem pow_small {k : Nat} (h : k ≤ 100) : 27720 ^ k < 2 ^ 2000 :=
  Nat.lt_of_le_of_lt (Nat.pow_le_pow_left (show 27720 ≤ 2 ^ 15 by decide) k) (by rw [← Nat.pow_mul]; exact Nat.pow_lt_pow_right (by decide) (by omega))
theorem after_ok {n : Nat} {w : Walk} (gw : GoodWk w) (hn : w.length = n) {s : Nat} (h : s < n) {k : Nat} (hk : k ≤ 100) : m_after [walkD w, .int s, .int k] = .ok (vecD (stepN w (unit n s) k)) := by
  have hv := unit_vec h
  have hn8 : n ≤ 8 := by rw [← hn]; exact gw.hi
  refine run_rt ?_
  show gSeq _ _ [some (walkD w), some (.int s), some (.int k), none, none, none] = _
  refine (gSeq_nx (gDrop_ok ((call2 rfl rfl).trans (need_room_ok (by omega))))).trans ?_
  refine (gSeq_nx (gSet_ok (comp_const (enc := spreadD) (l := w) (.inl rfl) (line_small (by have := gw.hi; omega)) (fun _ => rfl)))).trans ?_
  have e1 : gPutL 3 (rd 1) (kc (.tuple [.int 1, .int 1])) [some (walkD w), some (.int s), some (.int k), some (.list (List.replicate w.length (.tuple [.int 0, .int 1]))), none, none] = .nx [some (walkD w), some (.int s), some (.int k), some (vecD (unit n s)), none, none] := by
    refine (gPutL_ok rfl rfl rfl (lSet_nat (by rw [List.length_replicate]; omega))).trans ?_
    have e2 : (List.replicate w.length (PyData.tuple [.int 0, .int 1])).set s (.tuple [.int 1, .int 1]) = (unit n s).map fr := by
      rw [← unit_eq h, ← set_vec, List.map_replicate, hn]
      congr 1
      rw [List.getD_eq_getElem?_getD, List.getElem?_replicate, if_pos h]
      have z : ((some (0 : Rat)).getD 0 + 1 : Rat) = 1 := Rat.zero_add 1
      rw [z]
      rfl
    rw [e2]
    rfl
  refine (gSeq_nx e1).trans ?_
  obtain ⟨ρ1, e2, c, h1⟩ := forL_pre (tg := .nm 4) (g := gSet 3 (callD 2 m_stepped (aCons (rd 0) (aCons (rd 3) aNil)))) (fun i : Nat => PyData.int i) (fun pre ρ => ∃ c, ρ = [some (walkD w), some (.int s), some (.int k), some (vecD (stepN w (unit n s) pre.length)), c, none]) (List.range k) (fun pre r post ρ e hp => by
      obtain ⟨c, rfl⟩ := hp
      have hpre : pre.length ≤ 100 := by
        have := congrArg List.length e
        rw [List.length_range, List.length_append] at this
        omega
      refine ⟨_, _, rfl, gSet_ok ((call2 rfl rfl).trans (stepped_ok gw hn (stepN_vec gw hn hv pre.length) (Nat.ne_of_gt (Nat.pow_pos (by decide))) (pow_small hpre))), some (.int r), ?_⟩
      rw [List.length_append]
      rfl) (ρ := [some (walkD w), some (.int s), some (.int k), some (vecD (unit n s)), none, none]) ⟨none, rfl⟩
  refine (gSeq_nx (gFor_nx (itR1_nat (n := k) rfl (by omega)) e2)).trans ?_
  subst h1
  rw [List.length_range]
  exact gRet_ok rfl
theorem law_is_fraction_ok (q : Rat) : m_law_is_fraction [fr q] = .ok (.bool true) := by
  refine run_rt ?_
  show gSeq _ _ [some (fr q)] = _
  have q0 : rd 0 [some (fr q)] = .ok (fr q) := rfl
  refine (gSeq_nx (gIf_s (orT_f (notT_ok (b := true) (asB_ok (un_ok rfl (isi_tuple _)))) (asB_ok (bin_ok (un_ok rfl (len_tuple _)) rfl rfl))))).trans ?_
  have hd := q.den_nz
  refine (gSeq_nx (gIf_s (orT_f (notT_ok (b := true) (asB_ok ((call1 (r0 q0)).trans (law_whole_ok _)))) (orT_f (notT_ok (b := true) (asB_ok ((call1 (r1 q0)).trans (law_whole_ok _)))) (asB_ok (bin_ok (r1 q0) rfl (lt_f (by omega)))))))).trans ?_
  have hg : Int.gcd q.num q.den = 1 := by
    have := q.reduced
    unfold Nat.Coprime at this
    show Nat.gcd q.num.natAbs ((q.den : Int).natAbs) = 1
    rw [Int.natAbs_natCast]
    exact this
  refine gRet_ok (bin_ok ((call2 (r0 q0) (r1 q0)).trans (law_divisor_ok _ _)) rfl ?_)
  rw [hg]
  rfl
theorem vec_eqv (v u : List Rat) : PyData.eqv (vecD v) (vecD u) = decide (v = u) := eqv_list eqv_fr v u
theorem vec_shaped (v : List Rat) : SeqAt.shaped (vecD v) = true := (sh_map sh_fr v).shaped
theorem ne_vec (v u : List Rat) : dNe (vecD v) (vecD u) = some (.bool (!decide (v = u))) := by rw [dNe_ok (vec_shaped v) (vec_shaped u), vec_eqv]
theorem eq_vec (v u : List Rat) : dEq (vecD v) (vecD u) = some (.bool (decide (v = u))) := by
  have e : dEq (vecD v) (vecD u) = some (.bool (PyData.eqv (vecD v) (vecD u))) := dEq_list (vec_shaped v) (vec_shaped u)
  rw [e, vec_eqv]
end LW
end

section
set_option Elab.async false
set_option linter.all false
set_option maxRecDepth 100000
set_option maxHeartbeats 1000000
set_option autoImplicit false
/-! PX: the solver, in plain numbers. -/
namespace LW

/-! ### sums over a range -/
def S : Nat → (Nat → Rat) → Rat
  | 0, _ => 0
  | n + 1, f => S n f + f n
theorem S_congr {n : Nat} {f g : Nat → Rat} (h : ∀ j, j < n → f j = g j) : S n f = S n g := by
  induction n with
  | zero => rfl
  | succ n ih =>
    show S n f + f n = S n g + g n
    rw [ih fun j l => h j (Nat.lt_succ_of_lt l), h n (Nat.lt_succ_self n)]
theorem S_zero {n : Nat} {f : Nat → Rat} (h : ∀ j, j < n → f j = 0) : S n f = 0 := by
  induction n with
  | zero => rfl
  | succ n ih =>
    show S n f + f n = 0
    rw [ih fun j l => h j (Nat.lt_succ_of_lt l), h n (Nat.lt_succ_self n), Rat.add_zero]
theorem S_add (n : Nat) (f g : Nat → Rat) : S n (fun j => f j + g j) = S n f + S n g := by
  induction n with
  | zero => exact (Rat.add_zero 0).symm
  | succ n ih =>
    show S n (fun j => f j + g j) + (f n + g n) = (S n f + f n) + (S n g + g n)
    rw [ih]; grind
theorem S_mul (n : Nat) (k : Rat) (f : Nat → Rat) : S n (fun j => k * f j) = k * S n f := by
  induction n with
  | zero => exact (Rat.mul_zero k).symm
  | succ n ih =>
    show S n (fun j => k * f j) + k * f n = k * (S n f + f n)
    rw [ih]; grind
theorem S_one {n i : Nat} {f : Nat → Rat} (hi : i < n) (h : ∀ j, j < n → j ≠ i → f j = 0) : S n f = f i := by
  induction n with
  | zero => cases hi
  | succ n ih =>
    show S n f + f n = f i
    by_cases c : i = n
    · subst c
      rw [S_zero fun j l => h j (Nat.lt_succ_of_lt l) (by omega), Rat.zero_add]
    · rw [ih (by omega) (fun j l => h j (Nat.lt_succ_of_lt l)), h n (Nat.lt_succ_self n) (fun z => c z.symm), Rat.add_zero]
theorem S_two {n i k : Nat} {f : Nat → Rat} (hi : i < n) (hk : k < n) (hne : i ≠ k) (h : ∀ j, j < n → j ≠ i → j ≠ k → f j = 0) : S n f = f i + f k := by
  have e : S n f = S n (fun j => (if j = i then f i else 0) + (if j = k then f k else 0)) := S_congr fun j l => by
    by_cases a : j = i
    · subst a; rw [if_pos rfl, if_neg hne, Rat.add_zero]
    · by_cases b : j = k
      · subst b; rw [if_neg a, if_pos rfl, Rat.zero_add]
      · rw [if_neg a, if_neg b, h j l a b, Rat.add_zero]
  rw [e, S_add, S_one (i := i) hi (fun j _ a => if_neg a), S_one (i := k) hk (fun j _ a => if_neg a), if_pos rfl, if_pos rfl]

/-! ### easing -/
abbrev Mat := Nat → Nat → Rat
/-- the row that comes to stand at i -/
def src (p r i : Nat) : Nat := if p < i ∧ i ≤ r then i - 1 else i
def easeF (c : Mat) (p r : Nat) : Mat := fun i j => if i = p then c r j / c r p else c (src p r i) j - c (src p r i) p * (c r j / c r p)
def Null (n : Nat) (c : Mat) (X : Nat → Rat) : Prop := ∀ i, i < n → S (n + 1) (fun j => c i j * X j) = 0
theorem ease_dot_p (n : Nat) (c : Mat) {p r : Nat} (X : Nat → Rat) (h : c r p ≠ 0) : S (n + 1) (fun j => easeF c p r p j * X j) = (c r p)⁻¹ * S (n + 1) (fun j => c r j * X j) := by
  rw [← S_mul]
  apply S_congr
  intro j _
  unfold easeF
  rw [if_pos rfl]
  grind
theorem ease_dot (n : Nat) (c : Mat) {p r i : Nat} (X : Nat → Rat) (hi : i ≠ p) (h : c r p ≠ 0) :
    S (n + 1) (fun j => easeF c p r i j * X j) = S (n + 1) (fun j => c (src p r i) j * X j) + (-(c (src p r i) p * (c r p)⁻¹)) * S (n + 1) (fun j => c r j * X j) := by
  rw [← S_mul, ← S_add]
  apply S_congr
  intro j _
  unfold easeF
  rw [if_neg hi]
  grind
theorem ease_null {n : Nat} {c : Mat} {p r : Nat} (hp : p < n) (hr : r < n) (hpr : p ≤ r) (h : c r p ≠ 0) (X : Nat → Rat) : Null n (easeF c p r) X ↔ Null n c X := by
  constructor
  · intro k
    have h0 : S (n + 1) (fun j => c r j * X j) = 0 := by
      have := k p hp
      rw [ease_dot_p n c X h] at this
      have hi : (c r p)⁻¹ ≠ 0 := by grind
      grind
    have key : ∀ i, i < n → i ≠ p → S (n + 1) (fun j => c (src p r i) j * X j) = 0 := by
      intro i hi hne
      have := k i hi
      rw [ease_dot n c X hne h, h0, Rat.mul_zero, Rat.add_zero] at this
      exact this
    intro i hi
    by_cases c1 : i = r
    · subst c1; exact h0
    · by_cases c2 : i < p
      · have := key i hi (by omega)
        have e : src p r i = i := if_neg (by omega)
        rwa [e] at this
      · by_cases c3 : i < r
        · have := key (i + 1) (by omega) (by omega)
          have e : src p r (i + 1) = i := by unfold src; rw [if_pos ⟨by omega, by omega⟩]; omega
          rwa [e] at this
        · have := key i hi (by omega)
          have e : src p r i = i := if_neg (by omega)
          rwa [e] at this
  · intro k i hi
    by_cases c1 : i = p
    · subst c1
      rw [ease_dot_p n c X h, k r hr, Rat.mul_zero]
    · have hs : src p r i < n := by unfold src; split <;> omega
      rw [ease_dot n c X c1 h, k _ hs, k r hr, Rat.mul_zero, Rat.add_zero]
/-- the first p columns are those of the unit -/
def UnitTo (n p : Nat) (c : Mat) : Prop := ∀ i j, i < n → j < p → c i j = if i = j then 1 else 0
theorem ease_unit {n : Nat} {c : Mat} {p r : Nat} (hp : p < n) (hr : r < n) (hpr : p ≤ r) (h : c r p ≠ 0) (u : UnitTo n p c) : UnitTo n (p + 1) (easeF c p r) := by
  intro i j hi hj
  unfold easeF
  by_cases c1 : i = p
  · rw [if_pos c1]
    by_cases c2 : j = p
    · rw [if_pos (by omega), c2]
      grind
    · rw [if_neg (by omega), u r j hr (by omega), if_neg (by omega)]
      grind
  · rw [if_neg c1]
    have hs : src p r i < n := by unfold src; split <;> omega
    by_cases c2 : j = p
    · rw [c2, if_neg (by omega)]
      grind
    · rw [u r j hr (by omega), if_neg (by omega), u _ j hs (by omega)]
      have e : (src p r i = j) ↔ (i = j) := by unfold src; split <;> omega
      by_cases c3 : i = j
      · rw [if_pos (e.mpr c3), if_pos c3]; grind
      · rw [if_neg fun z => c3 (e.mp z), if_neg c3]; grind
/-- only nought is told nought -/
def Firm (n : Nat) (c : Mat) : Prop := ∀ X : Nat → Rat, X n = 0 → Null n c X → ∀ i, i < n → X i = 0
theorem pivot_is {n p : Nat} {c : Mat} (hp : p < n) (u : UnitTo n p c) (f : Firm n c) : ∃ r, p ≤ r ∧ r < n ∧ c r p ≠ 0 := by
  apply Classical.byContradiction
  intro no
  have no : ∀ r, p ≤ r → r < n → c r p = 0 := fun r a b => Classical.byContradiction fun z => no ⟨r, a, b, z⟩
  have h := f (fun j => if j < p then -(c j p) else if j = p then 1 else 0) (by show (if n < p then _ else if n = p then _ else _) = _; rw [if_neg (by omega), if_neg (by omega)]) (fun i hi => by
    by_cases c1 : i < p
    · rw [S_two (i := i) (k := p) (by omega) (by omega) (by omega) (fun j hj a b => by
        by_cases c2 : j < p
        · rw [u i j hi c2, if_neg (by omega), Rat.zero_mul]
        · simp only [if_neg c2, if_neg b, Rat.mul_zero])]
      simp only [if_pos c1, if_neg (Nat.lt_irrefl p), if_true]
      rw [u i i hi c1, if_pos rfl]
      grind
    · rw [S_one (i := p) (by omega) (fun j hj b => by
        by_cases c2 : j < p
        · rw [u i j hi c2, if_neg (by omega), Rat.zero_mul]
        · simp only [if_neg c2, if_neg b, Rat.mul_zero])]
      rw [no i (by omega) hi, Rat.zero_mul]) p hp
  simp only [if_neg (Nat.lt_irrefl p), if_pos rfl] at h
  exact absurd h (by decide)
theorem firm_of {n : Nat} {c c' : Mat} (h : ∀ X, Null n c' X ↔ Null n c X) (f : Firm n c) : Firm n c' := fun X x0 k => f X x0 ((h X).mp k)
/-- what the last column tells, once all columns are those of the unit -/
theorem unit_sol {n : Nat} {c : Mat} (u : UnitTo n n c) : Null n c (fun j => if j < n then c j n else -1) := by
  intro i hi
  rw [S_two (i := i) (k := n) (by omega) (by omega) (by omega) (fun j hj a b => by rw [u i j hi (by omega), if_neg (by omega), Rat.zero_mul])]
  simp only [if_pos hi, if_neg (Nat.lt_irrefl n)]
  rw [u i i hi hi, if_pos rfl]
  grind
theorem null_eqs {n : Nat} {c : Mat} {x : Nat → Rat} (h : Null n c (fun j => if j < n then x j else -1)) : ∀ i, i < n → S n (fun j => c i j * x j) = c i n := by
  intro i hi
  have := h i hi
  have e : S (n + 1) (fun j => c i j * (if j < n then x j else -1)) = S n (fun j => c i j * (if j < n then x j else -1)) + c i n * (if n < n then x n else -1) := rfl
  rw [e, if_neg (Nat.lt_irrefl n), S_congr (g := fun j => c i j * x j) (fun j l => by rw [if_pos l])] at this
  grind
end LW
end

section
set_option Elab.async false
set_option linter.all false
set_option maxRecDepth 100000
set_option maxHeartbeats 1000000
set_option exponentiation.threshold 100000
set_option autoImplicit false
/-! PY: fractions of any size, and the solver's steps. -/
namespace LW
open PySem hiding run
open L2 hiding bin
open DL

/-! ### the four -/
theorem natAbs_den (q : Rat) {n : Nat} (h : q.den < 2 ^ n) : ((q.den : Nat) : Int).natAbs < 2 ^ n := by rw [Int.natAbs_natCast]; exact h
theorem dd {a b : Rat} (h : a.den * b.den < 2 ^ 9000) : ((a.den : Int) * b.den).natAbs < 2 ^ 9000 := by
  rw [← Int.natCast_mul, Int.natAbs_natCast]
  exact h
theorem dd0 (a b : Rat) : (a.den : Int) * b.den ≠ 0 := Int.mul_ne_zero (den_ne a) (den_ne b)
section
variable {a b : Rat} {n m : Nat}
theorem plusG (ha : Sz n a) (hb : Sz m b) (hd : a.den * b.den < 2 ^ 9000) (h : n + m ≤ 900000 := by omega) (hn : 0 < n := by omega) (hm : 0 < m := by omega) : m_plus [fr a, fr b] = .ok (fr (a + b)) := by
  have q0 : rd 0 [some (fr a), some (fr b)] = .ok (fr a) := rfl
  have q1 : rd 1 [some (fr a), some (fr b)] = .ok (fr b) := rfl
  refine run_rt (gRet_ok ?_)
  show callD 2 m_frac _ [some (fr a), some (fr b)] = _
  rw [call2 (bin_ok (rm (r0 q0) (r1 q1) ha.1 (natAbs_den b hb.2)) (rm (r0 q1) (r1 q0) hb.1 (natAbs_den a ha.2)) (add_ii _ _)) (rm (r1 q0) (r1 q1) (natAbs_den a ha.2) (natAbs_den b hb.2))]
  rw [frac_ok _ _ (dd0 a b) (dd hd), Rat.add_def', ← Rat.divInt_ofNat, Int.natCast_mul]
theorem lessG (ha : Sz n a) (hb : Sz m b) (hd : a.den * b.den < 2 ^ 9000) (h : n + m ≤ 900000 := by omega) (hn : 0 < n := by omega) (hm : 0 < m := by omega) : m_less [fr a, fr b] = .ok (fr (a - b)) := by
  have q0 : rd 0 [some (fr a), some (fr b)] = .ok (fr a) := rfl
  have q1 : rd 1 [some (fr a), some (fr b)] = .ok (fr b) := rfl
  refine run_rt (gRet_ok ?_)
  show callD 2 m_frac _ [some (fr a), some (fr b)] = _
  rw [call2 (bin_ok (rm (r0 q0) (r1 q1) ha.1 (natAbs_den b hb.2)) (rm (r0 q1) (r1 q0) hb.1 (natAbs_den a ha.2)) (sub_ii _ _)) (rm (r1 q0) (r1 q1) (natAbs_den a ha.2) (natAbs_den b hb.2))]
  rw [frac_ok _ _ (dd0 a b) (dd hd), Rat.sub_def', ← Rat.divInt_ofNat, Int.natCast_mul]
theorem timesG (ha : Sz n a) (hb : Sz m b) (hd : a.den * b.den < 2 ^ 9000) (h : n + m ≤ 900000 := by omega) (hn : 0 < n := by omega) (hm : 0 < m := by omega) : m_times [fr a, fr b] = .ok (fr (a * b)) := by
  have q0 : rd 0 [some (fr a), some (fr b)] = .ok (fr a) := rfl
  have q1 : rd 1 [some (fr a), some (fr b)] = .ok (fr b) := rfl
  refine run_rt (gRet_ok ?_)
  show callD 2 m_frac _ [some (fr a), some (fr b)] = _
  rw [call2 (rm (r0 q0) (r0 q1) ha.1 hb.1) (rm (r1 q0) (r1 q1) (natAbs_den a ha.2) (natAbs_den b hb.2))]
  rw [frac_ok _ _ (dd0 a b) (dd hd), Rat.mul_def', ← Rat.divInt_ofNat, Int.natCast_mul]
theorem overG (ha : Sz n a) (hb : Sz m b) (h0 : b ≠ 0) (hd : n + m ≤ 9000) (hn : 0 < n := by omega) (hm : 0 < m := by omega) : m_over [fr a, fr b] = .ok (fr (a / b)) := by
  have q0 : rd 0 [some (fr a), some (fr b)] = .ok (fr a) := rfl
  have q1 : rd 1 [some (fr a), some (fr b)] = .ok (fr b) := rfl
  have hb0 : b.num ≠ 0 := fun z => h0 (Rat.num_eq_zero.mp z)
  refine run_rt (gRet_ok ?_)
  show callD 2 m_frac _ [some (fr a), some (fr b)] = _
  rw [call2 (rm (r0 q0) (r1 q1) ha.1 (natAbs_den b hb.2)) (rm (r1 q0) (r0 q1) (natAbs_den a ha.2) hb.1)]
  rw [frac_ok _ _ (Int.mul_ne_zero (den_ne a) hb0) (Nat.lt_of_lt_of_le (mulN (natAbs_den a ha.2) hb.1) (Nat.pow_le_pow_right (by decide) hd))]
  have e : a / b = Rat.divInt a.num a.den * Rat.divInt b.den b.num := by
    rw [Rat.num_divInt_den, Rat.div_def, ← Rat.inv_divInt, Rat.num_divInt_den]
  rw [e, Rat.divInt_mul_divInt]
end
theorem eqv0 (q : Rat) : dNe (fr q) (.tuple [.int 0, .int 1]) = some (.bool (!decide (q = 0))) := by
  have e : dNe (fr q) (fr 0) = some (.bool (!PyData.eqv (fr q) (fr 0))) := dNe_ok (sh_fr q).shaped (sh_fr 0).shaped
  rw [eqv_fr] at e
  exact e
theorem itR2_nat {f g : Ex} {ρ : Rho} {p n : Nat} (hf : f ρ = .ok (.int p)) (hg : g ρ = .ok (.int n)) (hp : p < 1000000) (hn : n < 1000000) : itR2 f g ρ = .ok ((List.range (n - p)).map fun i : Nat => PyData.int ((p + i : Nat) : Int)) := by
  simp only [itR2, hf, hg, Res.bind]
  rw [if_pos ⟨by omega, by omega, by omega, by omega⟩]
  have e : ((n : Int) - p).toNat = n - p := by omega
  rw [e]
  rfl
theorem itZ_list {f g : Ex} {ρ : Rho} {xs ys : List D} (hf : f ρ = .ok (.list xs)) (hg : g ρ = .ok (.list ys)) : itY f g ρ = .ok (zipD xs ys) := by
  unfold itY
  rw [hf]
  show (g ρ).bind _ = _
  rw [hg]
  rfl
theorem zip_fr (xs ys : List Rat) : zipD (xs.map fr) (ys.map fr) = (List.zip xs ys).map fun p => PyData.tuple [fr p.1, fr p.2] := by
  unfold zipD
  rw [List.zipWith_map, List.zip_eq_zipWith, List.map_zipWith]

/-! ### rows of numbers with one number below -/
def RowB (b : Nat) (row : List Rat) : Prop := ∃ d : Nat, 0 < d ∧ d < 2 ^ b ∧ ∀ v, v ∈ row → ∃ k : Int, v * (d : Rat) = (k : Rat) ∧ k.natAbs < 2 ^ b
theorem num_of {v : Rat} {d : Nat} {k : Int} (h : v * (d : Rat) = (k : Rat)) (d0 : 0 < d) : v.den ≤ d ∧ v.num.natAbs ≤ k.natAbs := by
  obtain ⟨e, he⟩ := Dn.den (by omega) ⟨k, h⟩
  have e0 : 0 < e := by
    rcases Nat.eq_zero_or_pos e with z | z
    · subst z; omega
    · exact z
  have h2 : (k : Rat) = ((v.num * e : Int) : Rat) := by
    rw [← h, he, Rat.natCast_mul, ← Rat.mul_assoc, mul_den_num, Rat.intCast_mul]
    rfl
  have h3 : k = v.num * e := Rat.intCast_inj.mp h2
  refine ⟨Nat.le_of_dvd d0 ⟨e, he⟩, ?_⟩
  rw [h3, Int.natAbs_mul, Int.natAbs_natCast]
  exact Nat.le_mul_of_pos_right _ e0
theorem RowB.sz {b : Nat} {row : List Rat} (h : RowB b row) {v : Rat} (m : v ∈ row) : Sz b v := by
  obtain ⟨d, d0, d1, hk⟩ := h
  obtain ⟨k, e, l⟩ := hk v m
  obtain ⟨a, c⟩ := num_of e d0
  exact ⟨by omega, by omega⟩
theorem RowB.mono {b c : Nat} {row : List Rat} (h : RowB b row) (l : b ≤ c) : RowB c row := by
  obtain ⟨d, d0, d1, hk⟩ := h
  have := Nat.pow_le_pow_right (show 0 < 2 by decide) l
  exact ⟨d, d0, by omega, fun v m => by
    obtain ⟨k, e, f⟩ := hk v m
    exact ⟨k, e, by omega⟩⟩
/-- a row over one of its own numbers -/
theorem RowB.over {b : Nat} {row : List Rat} (h : RowB b row) {q : Rat} (m : q ∈ row) (q0 : q ≠ 0) : RowB b (row.map (· / q)) := by
  obtain ⟨d, d0, d1, hk⟩ := h
  obtain ⟨kq, eq, lq⟩ := hk q m
  have d0' : (d : Rat) ≠ 0 := fun z => by have : d = 0 := by exact_mod_cast z
                                          omega
  have kq0 : kq ≠ 0 := fun z => by
    rw [z] at eq
    have : q = 0 := by
      have e2 : ((0 : Int) : Rat) = 0 := rfl
      rw [e2] at eq
      grind
    exact q0 this
  refine ⟨kq.natAbs, by omega, lq, fun v hv => ?_⟩
  obtain ⟨w, hw, rfl⟩ := List.mem_map.mp hv
  obtain ⟨k, e, l⟩ := hk w hw
  have key : w / q * (kq : Rat) = (k : Rat) := by
    rw [← eq, ← e]
    grind
  by_cases s : 0 ≤ kq
  · refine ⟨k, ?_, l⟩
    have : ((kq.natAbs : Nat) : Rat) = (kq : Rat) := by
      rw [← Rat.intCast_natCast, Int.natAbs_of_nonneg s]
    rw [this]
    exact key
  · refine ⟨-k, ?_, by omega⟩
    have : ((kq.natAbs : Nat) : Rat) = (-kq : Rat) := by
      rw [← Rat.intCast_natCast, Int.ofNat_natAbs_of_nonpos (by omega), Rat.intCast_neg]
    rw [this, Rat.intCast_neg, ← key]
    grind
/-- a row less a part of another -/
theorem RowB.upd {b : Nat} {row lead : List Rat} (h : RowB b row) (hl : RowB b lead) {q : Rat} (m : q ∈ row) : RowB (2 * b + 1) ((List.zip row lead).map fun p => p.1 - q * p.2) := by
  obtain ⟨d, d0, d1, hk⟩ := h
  obtain ⟨e, e0, e1, hj⟩ := hl
  obtain ⟨kq, eq, lq⟩ := hk q m
  have hb : 2 ^ (2 * b + 1) = 2 * (2 ^ b * 2 ^ b) := by rw [Nat.pow_succ, Nat.two_mul, Nat.pow_add]; omega
  refine ⟨d * e, Nat.mul_pos d0 e0, ?_, fun v hv => ?_⟩
  · have := Nat.mul_lt_mul'' d1 e1
    omega
  · obtain ⟨p, hp, rfl⟩ := List.mem_map.mp hv
    obtain ⟨k, ek, lk⟩ := hk p.1 (List.of_mem_zip hp).1
    obtain ⟨j, ej, lj⟩ := hj p.2 (List.of_mem_zip hp).2
    refine ⟨k * e - kq * j, ?_, ?_⟩
    · rw [Rat.intCast_sub, Rat.intCast_mul, Rat.intCast_mul, ← ek, ← ej, ← eq, Rat.natCast_mul, Rat.intCast_natCast]
      grind
    · have a1 : (k * e).natAbs < 2 ^ b * 2 ^ b := by rw [Int.natAbs_mul, Int.natAbs_natCast]; exact Nat.mul_lt_mul'' lk e1
      have a2 : (kq * j).natAbs < 2 ^ b * 2 ^ b := by rw [Int.natAbs_mul]; exact Nat.mul_lt_mul'' lq lj
      omega
end LW
end

section
set_option Elab.async false
set_option linter.all false
set_option maxRecDepth 100000
set_option maxHeartbeats 1000000
set_option exponentiation.threshold 100000
set_option autoImplicit false
/-! PZ: eased and solved. -/
namespace LW
open PySem hiding run
open L2 hiding bin
open DL

abbrev Rows := List (List Rat)
def matD (rows : Rows) : D := .list (rows.map vecD)
def cell (rows : Rows) : Mat := fun i j => (rows.getD i []).getD j 0
structure Shape (n b : Nat) (rows : Rows) : Prop where
  len : rows.length = n
  row : ∀ r, r ∈ rows → r.length = n + 1
  sz : ∀ r, r ∈ rows → RowB b r
theorem Shape.get {n b : Nat} {rows : Rows} (h : Shape n b rows) {i : Nat} (hi : i < n) : rows[i]? = some (rows.getD i []) ∧ rows.getD i [] ∈ rows := by
  have hl : i < rows.length := by rw [h.len]; exact hi
  have e : rows.getD i [] = rows[i]'hl := by rw [List.getD_eq_getElem?_getD, List.getElem?_eq_getElem hl]; rfl
  rw [e]
  exact ⟨List.getElem?_eq_getElem hl, List.getElem_mem _⟩
theorem getD_ok {l : List Rat} {j : Nat} (h : j < l.length) : l[j]? = some (l.getD j 0) ∧ l.getD j 0 ∈ l := by
  have e : l.getD j 0 = l[j]'h := by rw [List.getD_eq_getElem?_getD, List.getElem?_eq_getElem h]; rfl
  rw [e]
  exact ⟨List.getElem?_eq_getElem h, List.getElem_mem _⟩
theorem Shape.cell {n b : Nat} {rows : Rows} (h : Shape n b rows) {i j : Nat} (hi : i < n) (hj : j < n + 1) : (rows.getD i [])[j]? = some (cell rows i j) ∧ cell rows i j ∈ rows.getD i [] :=
  getD_ok (by rw [h.row _ (h.get hi).2]; exact hj)
def updR (row lead : List Rat) (q : Rat) : List Rat := (List.zip row lead).map fun p => p.1 - q * p.2
theorem updR_len {row lead : List Rat} {q : Rat} (h : row.length = lead.length) : (updR row lead q).length = row.length := by
  unfold updR
  rw [List.length_map, List.length_zip, ← h]
  exact Nat.min_self _
theorem updR_get {row lead : List Rat} {q : Rat} {j : Nat} (h : j < row.length) (h2 : j < lead.length) : (updR row lead q).getD j 0 = row.getD j 0 - q * lead.getD j 0 := by
  unfold updR
  have e : (List.zip row lead)[j]? = some (row.getD j 0, lead.getD j 0) := List.getElem?_zip_eq_some.mpr ⟨(getD_ok h).1, (getD_ok h2).1⟩
  rw [List.getD_eq_getElem?_getD, List.getElem?_map, e]
  rfl
/-- the numbers but one -/
theorem range_but {n r : Nat} (h : r < n) : (List.range n).filter (fun i => decide (i ≠ r)) = List.range r ++ (List.range (n - r - 1)).map (· + (r + 1)) := by
  induction n with
  | zero => cases h
  | succ n ih =>
    rw [List.range_succ, List.filter_append]
    by_cases c : r = n
    · subst c
      have e1 : (List.range r).filter (fun i => decide (i ≠ r)) = List.range r := List.filter_eq_self.mpr fun a m => by
        have := List.mem_range.mp m
        exact decide_eq_true (by omega)
      have e2 : [r].filter (fun i => decide (i ≠ r)) = [] := by simp
      have e3 : r + 1 - r - 1 = 0 := by omega
      rw [e1, e2, e3]
      rfl
    · rw [ih (by omega)]
      have e2 : [n].filter (fun i => decide (i ≠ r)) = [n] := by simp; omega
      have e3 : n + 1 - r - 1 = (n - r - 1) + 1 := by omega
      have e4 : n - r - 1 + (r + 1) = n := by omega
      rw [e2, e3, List.range_succ, List.map_append, List.append_assoc, List.map_cons, List.map_nil, e4]
theorem but_get {n r i : Nat} (h : r < n) (hi : i < n - 1) : ((List.range n).filter (fun i => decide (i ≠ r)))[i]? = some (if i < r then i else i + 1) := by
  rw [range_but h]
  by_cases c : i < r
  · rw [if_pos c, List.getElem?_append_left (by rw [List.length_range]; exact c), List.getElem?_range c]
  · rw [if_neg c, List.getElem?_append_right (by rw [List.length_range]; omega), List.length_range, List.getElem?_map, List.getElem?_range (by omega)]
    show some (i - r + (r + 1)) = _
    congr 1
    omega
theorem but_len {n r : Nat} (h : r < n) : ((List.range n).filter (fun i => decide (i ≠ r))).length = n - 1 := by
  rw [range_but h, List.length_append, List.length_map, List.length_range, List.length_range]
  omega
def leadOf (rows : Rows) (p r : Nat) : List Rat := (rows.getD r []).map (· / cell rows r p)
def restOf (rows : Rows) (p r : Nat) (is : List Nat) : Rows := is.map fun i => updR (rows.getD i []) (leadOf rows p r) (cell rows i p)
def easeR (rows : Rows) (p r : Nat) : Rows :=
  ((restOf rows p r ((List.range rows.length).filter fun i => decide (i ≠ r))).take p ++ [leadOf rows p r]) ++ (restOf rows p r ((List.range rows.length).filter fun i => decide (i ≠ r))).drop p
section
variable {n b : Nat} {rows : Rows} {p r : Nat}
theorem ease_get (h : Shape n b rows) (hp : p < n) (hr : r < n) (hpr : p ≤ r) {i : Nat} (hi : i < n) :
    (easeR rows p r)[i]? = some (if i = p then leadOf rows p r else updR (rows.getD (src p r i) []) (leadOf rows p r) (cell rows (src p r i) p)) := by
  unfold easeR
  rw [h.len]
  have hlen : (restOf rows p r ((List.range n).filter fun i => decide (i ≠ r))).length = n - 1 := by
    unfold restOf
    rw [List.length_map, but_len hr]
  have htake : ((restOf rows p r ((List.range n).filter fun i => decide (i ≠ r))).take p).length = p := by
    rw [List.length_take, hlen]
    omega
  have hget : ∀ k, k < n - 1 → (restOf rows p r ((List.range n).filter fun i => decide (i ≠ r)))[k]? = some (updR (rows.getD (if k < r then k else k + 1) []) (leadOf rows p r) (cell rows (if k < r then k else k + 1) p)) := by
    intro k hk
    unfold restOf
    rw [List.getElem?_map, but_get hr hk]
    rfl
  by_cases c1 : i < p
  · rw [List.getElem?_append_left (by rw [List.length_append, htake, List.length_singleton]; omega), List.getElem?_append_left (by rw [htake]; exact c1), List.getElem?_take_of_lt c1, hget i (by omega)]
    have e : src p r i = i := if_neg (by omega)
    have e1 : (if i < r then i else i + 1) = i := if_pos (by omega)
    have e2 : ¬ i = p := by omega
    rw [e, e1, if_neg e2]
  · by_cases c2 : i = p
    · subst c2
      rw [if_pos rfl, List.getElem?_append_left (by rw [List.length_append, htake, List.length_singleton]; omega), List.getElem?_append_right (by rw [htake]; exact Nat.le_refl _), htake, Nat.sub_self]
      rfl
    · rw [if_neg c2, List.getElem?_append_right (by rw [List.length_append, htake, List.length_singleton]; omega), List.length_append, htake, List.length_singleton, List.getElem?_drop]
      have e0 : p + (i - (p + 1)) = i - 1 := by omega
      rw [e0, hget (i - 1) (by omega)]
      have e : (if i - 1 < r then i - 1 else i - 1 + 1) = src p r i := by
        unfold src
        split <;> split <;> omega
      rw [e]
theorem ease_len (h : Shape n b rows) (hp : p < n) (hr : r < n) : (easeR rows p r).length = n := by
  unfold easeR restOf
  rw [h.len, List.length_append, List.length_append, List.length_take, List.length_drop, List.length_map, but_len hr, List.length_singleton]
  omega
theorem lead_len (h : Shape n b rows) (hr : r < n) : (leadOf rows p r).length = n + 1 := by
  unfold leadOf
  rw [List.length_map, h.row _ (h.get hr).2]
theorem lead_sz (h : Shape n b rows) (hp : p < n) (hr : r < n) (h0 : cell rows r p ≠ 0) : RowB b (leadOf rows p r) := (h.sz _ (h.get hr).2).over (h.cell hr (by omega)).2 h0
theorem ease_cell (h : Shape n b rows) (hp : p < n) (hr : r < n) (hpr : p ≤ r) {i j : Nat} (hi : i < n) (hj : j < n + 1) : cell (easeR rows p r) i j = easeF (cell rows) p r i j := by
  have hlead : (leadOf rows p r).getD j 0 = cell rows r j / cell rows r p := by
    unfold leadOf
    rw [List.getD_eq_getElem?_getD, List.getElem?_map, (h.cell hr hj).1]
    rfl
  have e9 : (easeR rows p r).getD i [] = if i = p then leadOf rows p r else updR (rows.getD (src p r i) []) (leadOf rows p r) (cell rows (src p r i) p) := by
    rw [List.getD_eq_getElem?_getD, ease_get h hp hr hpr hi]
    rfl
  show ((easeR rows p r).getD i []).getD j 0 = _
  rw [e9]
  unfold easeF
  by_cases c : i = p
  · rw [if_pos c, if_pos c]
    exact hlead
  · rw [if_neg c, if_neg c]
    have hs : src p r i < n := by unfold src; split <;> omega
    show (updR _ _ _).getD j 0 = _
    rw [updR_get (by rw [h.row _ (h.get hs).2]; exact hj) (by rw [lead_len h hr]; exact hj), hlead]
    rfl
theorem ease_shape (h : Shape n b rows) (hp : p < n) (hr : r < n) (hpr : p ≤ r) (h0 : cell rows r p ≠ 0) : Shape n (2 * b + 1) (easeR rows p r) := by
  have key : ∀ row, row ∈ easeR rows p r → row.length = n + 1 ∧ RowB (2 * b + 1) row := by
    intro row m
    obtain ⟨i, hi, e⟩ := List.mem_iff_getElem.mp m
    have hi' : i < n := by rw [ease_len h hp hr] at hi; exact hi
    have e2 := ease_get h hp hr hpr hi'
    rw [List.getElem?_eq_getElem hi, e] at e2
    have e3 := Option.some.inj e2
    by_cases c : i = p
    · rw [if_pos c] at e3
      rw [e3]
      exact ⟨lead_len h hr, (lead_sz h hp hr h0).mono (by omega)⟩
    · rw [if_neg c] at e3
      have hs : src p r i < n := by unfold src; split <;> omega
      have hm := (h.get hs).2
      rw [e3]
      exact ⟨by rw [updR_len (by rw [h.row _ hm, lead_len h hr]), h.row _ hm], (h.sz _ hm).upd (lead_sz h hp hr h0) (h.cell hs (by omega)).2⟩
  exact ⟨ease_len h hp hr, fun row m => (key row m).1, fun row m => (key row m).2⟩
end

/-! ### the program's eased -/
theorem ix_mat {n b : Nat} {rows : Rows} (h : Shape n b rows) {i : Nat} (hi : i < n) : dIx (matD rows) (.int i) = some (vecD (rows.getD i [])) := ix_list (by rw [List.getElem?_map, (h.get hi).1]; rfl)
theorem len_mat (rows : Rows) : dLen (matD rows) = some (.int rows.length) := by
  show some (PyData.int _) = _
  rw [List.length_map]
theorem ix_cell {n b : Nat} {rows : Rows} (h : Shape n b rows) {i j : Nat} (hi : i < n) (hj : j < n + 1) : dIx (vecD (rows.getD i [])) (.int j) = some (fr (cell rows i j)) := ix_vec (h.cell hi hj).1
theorem cut_take (l : List D) (p : Nat) : dSl (.list l) none (some (p : Int)) = some (.list (l.take p)) := by
  show some (PyData.list (cutD l none (some (p : Int)))) = _
  unfold cutD
  rw [HT.sIx_none, HT.sIx_nat, List.drop_zero, Nat.sub_zero]
  by_cases c : p ≤ l.length
  · rw [Nat.min_eq_left c]
  · rw [Nat.min_eq_right (by omega), List.take_of_length_le (Nat.le_refl _), List.take_of_length_le (by omega)]
theorem cut_drop (l : List D) (p : Nat) : dSl (.list l) (some (p : Int)) none = some (.list (l.drop p)) := by
  show some (PyData.list (cutD l (some (p : Int)) none)) = _
  unfold cutD
  rw [HT.sIx_none, HT.sIx_nat]
  by_cases c : p ≤ l.length
  · rw [Nat.min_eq_left c, List.take_of_length_le (by rw [List.length_drop]; exact Nat.le_refl _)]
  · rw [Nat.min_eq_right (by omega), List.drop_of_length_le (Nat.le_refl _), List.drop_of_length_le (by omega), List.take_nil]
theorem slc_ok {f : Ex} {pl ph : Px} {ρ : Rho} {d e : D} {lo hi : Option Int} (hf : f ρ = .ok d) (hl : pl ρ = .ok lo) (hh : ph ρ = .ok hi) (h : dSl d lo hi = some e) : slc f pl ph ρ = .ok e := by
  unfold slc
  rw [hf]
  show (pl ρ).bind _ = _
  rw [hl]
  show (ph ρ).bind _ = _
  rw [hh]
  show ofO (dSl d lo hi) = _
  rw [h]
  rfl
theorem pIs_ok {f : Ex} {ρ : Rho} {i : Int} (h : f ρ = .ok (.int i)) : pIs f ρ = .ok (some i) := by
  unfold pIs
  rw [h]
  rfl
theorem add_ll {xs ys : List D} (h : xs.length + ys.length ≤ 1000) : dAdd (.list xs) (.list ys) = some (.list (xs ++ ys)) := if_pos (line_small h)
theorem ints_shaped {α : Type} (enc : α → Nat) (l : List α) : SeqAt.shaped (.list (l.map fun i => PyData.int (enc i : Nat))) = true := (sh_map (n := 0) (fun i => sh_int (enc i : Nat)) l).shaped
theorem ints_nil {α : Type} (enc : α → Nat) (l : List α) : dEq (.list (l.map fun i => PyData.int (enc i : Nat))) (.list []) = some (.bool l.isEmpty) := by
  have h2 : SeqAt.shaped (.list []) = true := ints_shaped enc []
  rw [dEq_list (ints_shaped enc l) h2]
  cases l <;> simp [PyData.eqv, PyData.eqvAll]
theorem lessG' {a b : Rat} {n m k : Nat} (ha : Sz n a) (hb : Sz m b) (hk : b.den < 2 ^ k) (h9 : n + k ≤ 9000) (h : n + m ≤ 900000 := by omega) (hn : 0 < n := by omega) (hm : 0 < m := by omega) : m_less [fr a, fr b] = .ok (fr (a - b)) :=
  lessG ha hb (Nat.lt_of_lt_of_le (mul_lt ha.2 hk) (Nat.pow_le_pow_right (by decide) h9)) h hn hm
theorem mul_le (a b : Rat) : (a * b).den ≤ a.den * b.den ∧ (a * b).num.natAbs ≤ a.num.natAbs * b.num.natAbs := by
  have e : (a * b) * ((a.den * b.den : Nat) : Rat) = ((a.num * b.num : Int) : Rat) := by
    rw [Rat.natCast_mul, Rat.intCast_mul, ← mul_den_num a, ← mul_den_num b]
    grind
  have := num_of e (Nat.mul_pos (Nat.pos_of_ne_zero a.den_nz) (Nat.pos_of_ne_zero b.den_nz))
  rwa [Int.natAbs_mul] at this
theorem Sz.mul {a b : Rat} {n m : Nat} (ha : Sz n a) (hb : Sz m b) : Sz (n + m) (a * b) :=
  ⟨Nat.lt_of_le_of_lt (mul_le a b).2 (mul_lt ha.1 hb.1), Nat.lt_of_le_of_lt (mul_le a b).1 (mul_lt ha.2 hb.2)⟩
theorem eased_ok {n b : Nat} {rows : Rows} {p : Nat} (h : Shape n b rows) (hb : 0 < b) (hb2 : 3 * b ≤ 9000) (hn : n ≤ 100) (hp : p < n) (hpiv : ∃ r, p ≤ r ∧ r < n ∧ cell rows r p ≠ 0) :
    ∃ r, p ≤ r ∧ r < n ∧ cell rows r p ≠ 0 ∧ m_eased [matD rows, .int p] = .ok (matD (easeR rows p r)) := by
  let keep : Nat → Bool := fun i => !decide (cell rows (p + i) p = 0)
  cases hf : (List.range (n - p)).filter keep with
  | nil =>
    obtain ⟨r, a1, a2, a3⟩ := hpiv
    have : r - p ∈ (List.range (n - p)).filter keep := List.mem_filter.mpr ⟨List.mem_range.mpr (by omega), by
      show (!decide (cell rows (p + (r - p)) p = 0)) = true
      rw [Nat.add_sub_cancel' a1, decide_eq_false a3]
      rfl⟩
    rw [hf] at this
    cases this
  | cons k ks =>
    have hk : k ∈ (List.range (n - p)).filter keep := by rw [hf]; exact List.mem_cons_self
    obtain ⟨hk1, hk2⟩ := List.mem_filter.mp hk
    have hkn : p + k < n := by have := List.mem_range.mp hk1; omega
    have hk0 : cell rows (p + k) p ≠ 0 := fun z => by
      have : (!decide (cell rows (p + k) p = 0)) = true := hk2
      rw [decide_eq_true z] at this
      cases this
    refine ⟨p + k, by omega, hkn, hk0, run_rt ?_⟩
    show gSeq _ _ [some (matD rows), some (.int p), none, none, none, none, none, none, none] = _
    have e1 := comp_ok (vs := [5]) (tg := .nm 5) (fi := itR2 (rd 1) (un (rd 0) dLen)) (ft := asB (bin (bin (bin (rd 0) (rd 5) dIx) (rd 1) dIx) (kc (.tuple [.int 0, .int 1])) dNe)) (fe := rd 5) (ρ := [some (matD rows), some (.int p), none, none, none, none, none, none, none])
      (fun i : Nat => PyData.int ((p + i : Nat) : Int)) keep (fun i : Nat => PyData.int ((p + i : Nat) : Int)) (List.range (n - p)) (by rw [List.length_range]; exact line_small (by omega)) (itR2_nat (n := n) rfl (un_ok rfl (by rw [len_mat, h.len])) (by omega) (by omega)) (fun i hi => by
        have hin : p + i < n := by have := List.mem_range.mp hi; omega
        exact ⟨[some (matD rows), some (.int p), none, none, none, some (.int ((p + i : Nat) : Int)), none, none, none], rfl, asB_ok (bin_ok (bin_ok (bin_ok rfl rfl (ix_mat h hin)) rfl (ix_cell h hin (by omega))) rfl (eqv0 _)), fun _ => rfl⟩)
    rw [hf] at e1
    refine (gSeq_nx (gSet_ok e1)).trans ?_
    refine (gSeq_nx (gIf_s (asB_ok (bin_ok rfl (mkLst_ok rfl rfl) (ints_nil (fun i => p + i) (k :: ks)))))).trans ?_
    -- the row that leads
    generalize hq : ((k :: ks).map fun i : Nat => PyData.int ((p + i : Nat) : Int)) = sm
    have hs0 : dIx (.list sm) (.int 0) = some (.int ((p + k : Nat) : Int)) := by rw [← hq]; exact atI0 _ _
    have hrow := h.row _ (h.get hkn).2
    have e2 := comp_ok (vs := [7]) (tg := .nm 7) (fi := itS (bin (rd 0) (bin (rd 2) (kc (.int 0)) dIx) dIx)) (ft := yes) (fe := callD 2 m_over (aCons (rd 7) (aCons (bin (bin (rd 0) (bin (rd 2) (kc (.int 0)) dIx) dIx) (rd 1) dIx) aNil))) (ρ := [some (matD rows), some (.int p), some (.list sm), none, none, none, none, none, none])
      fr (fun _ => true) (fun v => fr (v / cell rows (p + k) p)) (rows.getD (p + k) []) (line_small (by omega)) (itS_list (bin_ok rfl (bin_ok rfl rfl hs0) (ix_mat h hkn))) (fun v hv =>
        ⟨[some (matD rows), some (.int p), some (.list sm), none, none, none, none, some (fr v), none], rfl, rfl, fun _ => (call2 rfl (bin_ok (bin_ok rfl (bin_ok rfl rfl hs0) (ix_mat h hkn)) rfl (ix_cell h hkn (by omega)))).trans (overG ((h.sz _ (h.get hkn).2).sz hv) ((h.sz _ (h.get hkn).2).sz (h.cell hkn (by omega)).2) hk0 (by omega))⟩)
    rw [filter_yes] at e2
    have e3 : (PyData.list ((rows.getD (p + k) []).map fun v => fr (v / cell rows (p + k) p))) = vecD (leadOf rows p (p + k)) := by
      unfold vecD leadOf
      rw [List.map_map]
      rfl
    rw [e3] at e2
    refine (gSeq_nx (gSet_ok e2)).trans ?_
    refine (gSeq_nx (gSet_ok (mkLst_ok rfl rfl))).trans ?_
    have hl := lead_len (p := p) h hkn
    have hlz := lead_sz h hp hkn hk0
    obtain ⟨ρ1, e4, c5, c6, h1⟩ := forL_pre (tg := .nm 5) (g := gIf (asB (bin (rd 5) (bin (rd 2) (kc (.int 0)) dIx) dNe)) (gSeq (gSet 6 (bin (bin (rd 0) (rd 5) dIx) (rd 1) dIx)) (gApp 4 (comp [7, 8] (.tp [7, 8]) (itY (bin (rd 0) (rd 5) dIx) (rd 3)) yes (callD 2 m_less (aCons (rd 7) (aCons (callD 2 m_times (aCons (rd 6) (aCons (rd 8) aNil))) aNil)))))) gSkip)
      (fun i : Nat => PyData.int i) (fun pre ρ => ∃ c5 c6, ρ = [some (matD rows), some (.int p), some (.list sm), some (vecD (leadOf rows p (p + k))), some (matD (restOf rows p (p + k) (pre.filter fun i => decide (i ≠ p + k)))), c5, c6, none, none]) (List.range n) (fun pre i post ρ e hp2 => by
        obtain ⟨c5, c6, rfl⟩ := hp2
        have hi : i < n := by have : i ∈ List.range n := (by rw [e]; exact List.mem_append_right _ List.mem_cons_self); exact List.mem_range.mp this
        have hpre : pre.length < n := by
          have := congrArg List.length e
          rw [List.length_range, List.length_append, List.length_cons] at this
          omega
        refine ⟨[some (matD rows), some (.int p), some (.list sm), some (vecD (leadOf rows p (p + k))), some (matD (restOf rows p (p + k) (pre.filter fun i => decide (i ≠ p + k)))), some (.int i), c6, none, none], ?_⟩
        by_cases c : i = p + k
        · refine ⟨[some (matD rows), some (.int p), some (.list sm), some (vecD (leadOf rows p (p + k))), some (matD (restOf rows p (p + k) (pre.filter fun i => decide (i ≠ p + k)))), some (.int i), c6, none, none], rfl, gIf_s (asB_ok (bin_ok rfl (bin_ok rfl rfl hs0) ?_)), some (.int i), c6, ?_⟩
          · rw [ne_int, c]
            simp
          · rw [List.filter_append, List.filter_cons_of_neg (by simp [c]), List.filter_nil, List.append_nil]
        · refine ⟨[some (matD rows), some (.int p), some (.list sm), some (vecD (leadOf rows p (p + k))), some (matD (restOf rows p (p + k) ((pre ++ [i]).filter fun i => decide (i ≠ p + k)))), some (.int i), some (fr (cell rows i p)), none, none], rfl, (gIf_t (asB_ok (bin_ok rfl (bin_ok rfl rfl hs0) ?_))).trans ?_, some (.int i), some (fr (cell rows i p)), rfl⟩
          · rw [ne_int]
            have : ((i : Int) == ((p + k : Nat) : Int)) = false := by
              rw [beq_eq_false_iff_ne]
              omega
            rw [this]
            rfl
          · refine (gSeq_nx (gSet_ok (bin_ok (bin_ok rfl rfl (ix_mat h hi)) rfl (ix_cell h hi (by omega))))).trans ?_
            have hz := h.sz _ (h.get hi).2
            have hq2 := hz.sz (h.cell hi (j := p) (by omega)).2
            have e5 := comp_ok (vs := [7, 8]) (tg := .tp [7, 8]) (fi := itY (bin (rd 0) (rd 5) dIx) (rd 3)) (ft := yes) (fe := callD 2 m_less (aCons (rd 7) (aCons (callD 2 m_times (aCons (rd 6) (aCons (rd 8) aNil))) aNil)))
              (ρ := [some (matD rows), some (.int p), some (.list sm), some (vecD (leadOf rows p (p + k))), some (matD (restOf rows p (p + k) (pre.filter fun i => decide (i ≠ p + k)))), some (.int i), some (fr (cell rows i p)), none, none])
              (fun q : Rat × Rat => PyData.tuple [fr q.1, fr q.2]) (fun _ => true) (fun q => fr (q.1 - cell rows i p * q.2)) (List.zip (rows.getD i []) (leadOf rows p (p + k))) (by rw [List.length_zip, h.row _ (h.get hi).2, hl, Nat.min_self]; exact line_small (by omega))
              ((itZ_list (xs := (rows.getD i []).map fr) (ys := (leadOf rows p (p + k)).map fr) (bin_ok rfl rfl (ix_mat h hi)) rfl).trans (by rw [zip_fr])) (fun q hq3 => by
                have m1 := (List.of_mem_zip hq3).1
                have m2 := (List.of_mem_zip hq3).2
                have hd : (cell rows i p * q.2).den < 2 ^ (b + b) := (Sz.mul hq2 (hlz.sz m2)).2
                exact ⟨[some (matD rows), some (.int p), some (.list sm), some (vecD (leadOf rows p (p + k))), some (matD (restOf rows p (p + k) (pre.filter fun i => decide (i ≠ p + k)))), some (.int i), some (fr (cell rows i p)), some (fr q.1), some (fr q.2)], rfl, rfl, fun _ => (call2 rfl ((call2 rfl rfl).trans (timesG hq2 (hlz.sz m2) (Nat.lt_of_lt_of_le (mul_lt hq2.2 (hlz.sz m2).2) (Nat.pow_le_pow_right (by decide) (by omega))))))|>.trans (lessG' (hz.sz m1) (Sz.mul hq2 (hlz.sz m2)) hd (by omega))⟩)
            rw [filter_yes] at e5
            have e6 : (PyData.list ((List.zip (rows.getD i []) (leadOf rows p (p + k))).map fun q => fr (q.1 - cell rows i p * q.2))) = vecD (updR (rows.getD i []) (leadOf rows p (p + k)) (cell rows i p)) := by
              unfold vecD updR
              rw [List.map_map]
              rfl
            rw [e6] at e5
            refine (gApp_ok e5 rfl ?_).trans ?_
            · unfold restOf
              rw [List.length_map, List.length_map]
              have := List.length_filter_le (fun i => decide (i ≠ p + k)) pre
              omega
            · rw [List.filter_append, List.filter_cons_of_pos (by simp [c]), List.filter_nil]
              unfold restOf
              rw [List.map_append]
              unfold matD
              rw [List.map_append]
              rfl)
      (ρ := [some (matD rows), some (.int p), some (.list sm), some (vecD (leadOf rows p (p + k))), some (.list []), none, none, none, none]) ⟨none, none, rfl⟩
    refine (gSeq_nx (gFor_nx (itR1_nat (n := n) (un_ok rfl (by rw [len_mat, h.len])) (by omega)) e4)).trans ?_
    subst h1
    have hlen : (restOf rows p (p + k) ((List.range n).filter fun i => decide (i ≠ p + k))).length = n - 1 := by
      unfold restOf
      rw [List.length_map, but_len hkn]
    have e7 : matD (easeR rows p (p + k)) = .list (((restOf rows p (p + k) ((List.range n).filter fun i => decide (i ≠ p + k))).map vecD).take p ++ [vecD (leadOf rows p (p + k))] ++ ((restOf rows p (p + k) ((List.range n).filter fun i => decide (i ≠ p + k))).map vecD).drop p) := by
      unfold matD easeR
      rw [h.len, List.map_append, List.map_append, List.map_take, List.map_drop]
      rfl
    rw [e7]
    refine gRet_ok (bin_ok (bin_ok (slc_ok rfl rfl (pIs_ok rfl) (cut_take _ _)) (mkLst_ok (aCons_ok rfl rfl) rfl) (add_ll ?_)) (slc_ok rfl (pIs_ok rfl) rfl (cut_drop _ _)) (add_ll ?_))
    · rw [List.length_take, List.length_map, hlen, List.length_singleton]
      omega
    · rw [List.length_append, List.length_take, List.length_drop, List.length_map, hlen, List.length_singleton]
      omega
end LW
end

section
set_option Elab.async false
set_option linter.all false
set_option maxRecDepth 100000
set_option maxHeartbeats 1000000
set_option exponentiation.threshold 100000
set_option autoImplicit false
/-! PQ: solved. -/
namespace LW
open PySem hiding run
open L2 hiding bin
open DL

def bb (b : Nat) : Nat → Nat
  | 0 => b
  | k + 1 => 2 * bb b k + 1
theorem bb_pos {b : Nat} (h : 0 < b) : ∀ k, 0 < bb b k
  | 0 => h
  | k + 1 => Nat.succ_pos _
theorem bb_mono (b : Nat) : ∀ {k m : Nat}, k ≤ m → bb b k ≤ bb b m := by
  intro k m h
  induction h with
  | refl => exact Nat.le_refl _
  | step _ ih => exact Nat.le_trans ih (by show _ ≤ 2 * _ + 1; omega)
theorem null_congr {n : Nat} {c d : Mat} (h : ∀ i j, i < n → j < n + 1 → c i j = d i j) (X : Nat → Rat) : Null n c X ↔ Null n d X := by
  constructor
  · intro k i hi
    rw [← k i hi]
    exact S_congr fun j hj => by rw [h i j hi hj]
  · intro k i hi
    rw [← k i hi]
    exact S_congr fun j hj => by rw [h i j hi hj]
theorem ix_last {l : List D} {d : D} (h : l[l.length - 1]? = some d) (h0 : 0 < l.length) : dIx (.list l) (.int (-1)) = some d := by
  show atI l (-1) = some d
  unfold atI
  have e : ixN l.length (-1) = some (l.length - 1) := by
    show (if (0 : Int) ≤ -1 then _ else _) = _
    rw [if_neg (by omega)]
    show (if _ then _ else _) = _
    rw [if_pos (by omega)]
    congr 1
    omega
  rw [e]
  exact h
theorem solved_ok {n b : Nat} {rows : Rows} (h : Shape n b rows) (hb : 0 < b) (hb2 : 3 * bb b (n - 1) ≤ 9000) (hn : n ≤ 100) (f : Firm n (cell rows)) :
    ∃ x : List Rat, x.length = n ∧ m_solved [matD rows] = .ok (vecD x) ∧ (∀ i, i < n → S n (fun j => cell rows i j * x.getD j 0) = cell rows i n) ∧ ∀ q, q ∈ x → Sz (bb b n) q := by
  obtain ⟨ρ1, e1, rows', c, h1, sh, uu, nu⟩ := forL_pre (tg := .nm 2) (g := gSet 1 (callD 2 m_eased (aCons (rd 1) (aCons (rd 2) aNil)))) (fun i : Nat => PyData.int i)
    (fun pre ρ => ∃ rows' c, ρ = [some (matD rows), some (matD rows'), c, none] ∧ Shape n (bb b pre.length) rows' ∧ UnitTo n pre.length (cell rows') ∧ ∀ X, Null n (cell rows') X ↔ Null n (cell rows) X) (List.range n) (fun pre p post ρ e hp => by
      obtain ⟨rows', c, rfl, sh, uu, nu⟩ := hp
      have hpl : pre.length = p ∧ p < n := by
        have e2 : (List.range n)[pre.length]? = some p := by rw [e, List.getElem?_append_right (Nat.le_refl _), Nat.sub_self]; rfl
        have hl := congrArg List.length e
        rw [List.length_range, List.length_append, List.length_cons] at hl
        rw [List.getElem?_range (by omega)] at e2
        have := Option.some.inj e2
        omega
      obtain ⟨hpl, hpn⟩ := hpl
      rw [hpl] at sh uu
      have hmono := bb_mono b (show p ≤ n - 1 by omega)
      obtain ⟨r, r1, r2, r3, er⟩ := eased_ok sh (bb_pos hb p) (by omega) hn hpn (pivot_is hpn uu (firm_of nu f))
      have hc := fun i j (hi : i < n) (hj : j < n + 1) => ease_cell sh hpn r2 r1 hi hj
      refine ⟨_, _, rfl, gSet_ok ((call2 rfl rfl).trans er), easeR rows' p r, some (.int p), rfl, ?_, ?_, fun X => ?_⟩
      · rw [List.length_append, hpl]
        exact ease_shape sh hpn r2 r1 r3
      · rw [List.length_append, hpl]
        intro i j hi hj
        have hj : j < p + 1 := hj
        rw [hc i j hi (by omega)]
        exact ease_unit hpn r2 r1 r3 uu i j hi hj
      · exact (null_congr hc X).trans ((ease_null hpn r2 r1 r3 X).trans (nu X)))
    (ρ := [some (matD rows), some (matD rows), none, none]) ⟨rows, none, rfl, h, fun i j _ hj => absurd hj (Nat.not_lt_zero _), fun X => Iff.rfl⟩
  rw [List.length_range] at sh uu
  refine ⟨rows'.map fun row => row.getD n 0, by rw [List.length_map]; exact sh.len, run_rt ?_, fun i hi => ?_, fun q hq => ?_⟩
  · show gSeq _ _ [some (matD rows), none, none, none] = _
    refine (gSeq_nx (gSet_ok rfl)).trans ?_
    refine (gSeq_nx (gFor_nx (itR1_nat (n := n) (un_ok rfl (by rw [len_mat, h.len])) (by omega)) e1)).trans ?_
    subst h1
    have e2 := comp_ok (vs := [3]) (tg := .nm 3) (fi := itS (rd 1)) (ft := yes) (fe := bin (rd 3) (un (kc (.int 1)) dNeg) dIx) (ρ := [some (matD rows), some (matD rows'), c, none]) vecD (fun _ => true) (fun row => fr (row.getD n 0)) rows' (by rw [sh.len]; exact line_small (by omega)) (itS_list rfl) (fun row hrow => ⟨[some (matD rows), some (matD rows'), c, some (vecD row)], rfl, rfl, fun _ => bin_ok rfl rfl (by
      have hl := sh.row row hrow
      refine ix_last (l := row.map fr) ?_ (by rw [List.length_map]; omega)
      rw [List.length_map, hl, Nat.add_sub_cancel, List.getElem?_map, (getD_ok (by omega)).1]
      rfl)⟩)
    rw [filter_yes] at e2
    rw [gRet_ok e2]
    unfold vecD
    rw [List.map_map]
    rfl
  · have hx : ∀ j, j < n → (rows'.map fun row => row.getD n 0).getD j 0 = cell rows' j n := by
      intro j hj
      rw [List.getD_eq_getElem?_getD, List.getElem?_map, (sh.get hj).1]
      rfl
    have hnull := (nu _).mp (unit_sol uu)
    have := null_eqs hnull i hi
    rw [← this]
    exact S_congr fun j hj => by rw [hx j hj]
  · obtain ⟨row, hrow, rfl⟩ := List.mem_map.mp hq
    exact (sh.sz row hrow).sz (getD_ok (by rw [sh.row row hrow]; omega)).2
end LW
end

section
set_option Elab.async false
set_option linter.all false
set_option maxRecDepth 100000
set_option maxHeartbeats 1000000
set_option exponentiation.threshold 100000
set_option autoImplicit false
/-! PC: which rooms can be come to: can_come, and the law's ahead. -/
namespace LW
open PySem hiding run
open L2 hiding bin
open DL

/-- a while by a number that falls -/
theorem gWh_fall {T : Type} {c : Tx} {g : Gx} (I : T → Rho → Prop) (μ : T → Nat) (Post : Rho → Prop)
    (h : ∀ s ρ, I s ρ → (c ρ = .ok false ∧ Post ρ) ∨ (c ρ = .ok true ∧ ∃ s' ρ', g ρ = .nx ρ' ∧ I s' ρ' ∧ μ s' < μ s)) : ∀ s ρ, I s ρ → ∃ ρ', gWh c g ρ = .nx ρ' ∧ Post ρ' := by
  have key : ∀ (m : Nat) s ρ, μ s ≤ m → I s ρ → ∃ n ρ', whN c g n ρ = .nx ρ' ∧ Post ρ' := by
    intro m
    induction m with
    | zero =>
      intro s ρ hm hi
      rcases h s ρ hi with ⟨e, p⟩ | ⟨e, s', ρ', _, _, lt⟩
      · refine ⟨1, ρ, ?_, p⟩
        unfold whN
        rw [e]
        rfl
      · omega
    | succ m ih =>
      intro s ρ hm hi
      rcases h s ρ hi with ⟨e, p⟩ | ⟨e, s', ρ', eg, i', lt⟩
      · refine ⟨1, ρ, ?_, p⟩
        unfold whN
        rw [e]
        rfl
      · obtain ⟨n, ρ2, e2, p2⟩ := ih s' ρ' (by omega) i'
        refine ⟨n + 1, ρ2, ?_, p2⟩
        unfold whN
        rw [e]
        show (match g ρ with | .nx ρ' => whN c g n ρ' | o => o) = _
        rw [eg]
        exact e2
  intro s ρ hi
  obtain ⟨n, ρ', e, p⟩ := key (μ s) s ρ (Nat.le_refl _) hi
  exact ⟨ρ', by rw [gWh_of (n := n) (by rw [e]; intro z; cases z), e], p⟩
def intsD (l : List Nat) : D := .list (l.map fun k => PyData.int (k : Nat))
def fdL (l : List Nat) : List (D × D) := l.map fun k => (PyData.int (k : Nat), PyData.bool true)
theorem isDic_fd (l : List Nat) : isDic (fdL l) = true := by cases l <;> rfl
theorem key_eq (a k : Nat) : decide (keyOf (PyData.int (a : Int)) = some (Sum.inl (k : Int))) = decide (a = k) := by
  rw [keyOf_int]
  by_cases h : a = k
  · subst h; simp
  · have : ¬ (a : Int) = k := by omega
    simp [h, this]
theorem fd_has (l : List Nat) (k : Nat) : dHas (.int k) (.dict (fdL l)) = some (decide (k ∈ l)) := by
  show (if isDic (fdL l) = true then some (lookD (fdL l) (.inl (k : Int))).isSome else none) = _
  rw [if_pos (isDic_fd l)]
  congr 1
  unfold lookD fdL
  rw [Option.isSome_map]
  induction l with
  | nil => rfl
  | cons a r ih =>
    rw [List.map_cons, List.find?_cons]
    show (match decide (keyOf (PyData.int (a : Int)) = some (Sum.inl (k : Int))) with | true => _ | false => _ : Option (D × D)).isSome = _
    rw [key_eq]
    by_cases h : a = k
    · subst h; simp
    · rw [decide_eq_false h]
      show Option.isSome _ = _
      rw [ih]
      have : ¬ k = a := fun z => h z.symm
      simp [this]
theorem in_fd (l : List Nat) (k : Nat) : dIn (.int k) (.dict (fdL l)) = some (.bool (decide (k ∈ l))) := by
  unfold dIn
  rw [fd_has]
  rfl
theorem notIn_fd (l : List Nat) (k : Nat) : dNotIn (.int k) (.dict (fdL l)) = some (.bool (!decide (k ∈ l))) := by
  unfold dNotIn
  rw [fd_has]
  rfl
theorem put_fd (l : List Nat) (k : Nat) (h : k ∉ l) : putD (fdL l) (.inl (k : Int)) (.bool true) = fdL (l ++ [k]) := by
  unfold putD
  have e : ((fdL l).any fun p => decide (keyOf p.1 = some (Sum.inl (k : Int)))) = false := by
    unfold fdL
    rw [List.any_map, Bool.eq_false_iff]
    intro z
    obtain ⟨a, ha, e⟩ := List.any_eq_true.mp z
    have e : decide (keyOf (PyData.int (a : Int)) = some (Sum.inl (k : Int))) = true := e
    rw [key_eq] at e
    exact h (of_decide_eq_true e ▸ ha)
  rw [e]
  unfold fdL
  rw [List.map_append]
  rfl
theorem ints_has (l : List Nat) (k : Nat) : dHas (.int k) (intsD l) = some (decide (k ∈ l)) := by
  have h1 : SeqAt.shaped (.int (k : Int)) = true := (sh_int k).shaped
  have h2 : SeqAt.shaped (intsD l) = true := (sh_map (n := 0) (fun i : Nat => sh_int (i : Nat)) l).shaped
  show (if SeqAt.shaped (.int (k : Int)) = true ∧ SeqAt.shaped (intsD l) = true then some ((l.map fun i => PyData.int (i : Nat)).any fun z => PyData.eqv z (.int k)) else none) = _
  rw [if_pos ⟨h1, h2⟩, List.any_map]
  congr 1
  rw [Bool.eq_iff_iff, List.any_eq_true, decide_eq_true_iff]
  constructor
  · rintro ⟨a, ha, e⟩
    have e : PyData.eqv (.int (a : Int)) (.int k) = true := e
    rw [eqv_int] at e
    have := of_decide_eq_true e
    have : a = k := by omega
    exact this ▸ ha
  · intro h
    refine ⟨k, h, ?_⟩
    show PyData.eqv (.int (k : Int)) (.int k) = true
    rw [eqv_int]
    exact decide_eq_true rfl
theorem in_ints (l : List Nat) (k : Nat) : dIn (.int k) (intsD l) = some (.bool (decide (k ∈ l))) := by
  unfold dIn
  rw [ints_has]
  rfl
theorem notIn_ints (l : List Nat) (k : Nat) : dNotIn (.int k) (intsD l) = some (.bool (!decide (k ∈ l))) := by
  unfold dNotIn
  rw [ints_has]
  rfl
/-- numbers in order -/
def sortN (l : List Nat) : List Nat := l.mergeSort fun a b => decide (a ≤ b)
theorem sortN_perm (l : List Nat) : (sortN l).Perm l := List.mergeSort_perm _ _
theorem sortN_le (l : List Nat) : (sortN l).Pairwise (· ≤ ·) := by
  have h := List.pairwise_mergeSort (le := fun a b : Nat => decide (a ≤ b)) (by intro a b c h1 h2; simp at *; omega) (by intro a b; simp; omega) l
  exact h.imp fun h => by simpa using h
theorem sortN_lt {l : List Nat} (h : l.Nodup) : (sortN l).Pairwise (· < ·) := by
  have h1 := (sortN_perm l).nodup_iff.mpr h
  exact (sortN_le l).imp₂ (fun a b h2 h3 => by omega) h1
theorem sorted_ints (l : List Nat) : dSorted (intsD l) = some (intsD (sortN l)) := by
  have e0 : intsD l = .list ((l.map fun k : Nat => (k : Int)).map PyData.int) := by
    unfold intsD
    rw [List.map_map]
    rfl
  rw [e0]
  show (allI _).map _ = _
  rw [allI_map]
  show some (PyData.list ((sortI (l.map fun k : Nat => (k : Int))).map PyData.int)) = _
  have e : sortI (l.map fun k : Nat => (k : Int)) = (sortN l).map fun k : Nat => (k : Int) := by
    symm
    apply sortI_eq
    · exact (sortN_perm l).map _
    · rw [List.pairwise_map]
      exact (sortN_le l).imp fun h => by omega
  rw [e, List.map_map]
  rfl
theorem list_fd (l : List Nat) : dList (.dict (fdL l)) = some (intsD l) := by
  show (if isDic (fdL l) = true then some (PyData.list ((fdL l).map (·.1))) else none) = _
  rw [if_pos (isDic_fd l)]
  unfold fdL intsD
  rw [List.map_map]
  rfl

/-! ### ways -/
def Edge (w : Walk) (a b : Nat) : Prop := ∃ p, p ∈ w.getD a [] ∧ p.1 = b
inductive Path (w : Walk) : Nat → Nat → Prop
  | refl (a : Nat) : Path w a a
  | step {a b c : Nat} : Edge w a b → Path w b c → Path w a c
theorem Path.snoc {w : Walk} {a b c : Nat} (h : Path w a b) (e : Edge w b c) : Path w a c := by
  induction h with
  | refl _ => exact .step e (.refl _)
  | step e' _ ih => exact .step e' (ih e)
theorem Path.trans {w : Walk} {a b c : Nat} (h : Path w a b) (k : Path w b c) : Path w a c := by
  induction h with
  | refl _ => exact k
  | step e _ ih => exact .step e (ih k)
def Come (w : Walk) (G : List Nat) (r : Nat) : Prop := ∃ g, g ∈ G ∧ Path w r g
theorem come_closed {w : Walk} {G L : List Nat} (hG : ∀ g, g ∈ G → g ∈ L) (hL : ∀ a b, Edge w a b → b ∈ L → a ∈ L) {r : Nat} (h : Come w G r) : r ∈ L := by
  obtain ⟨g, hg, p⟩ := h
  induction p with
  | refl _ => exact hG _ hg
  | step e _ ih => exact hL _ _ e (ih hg)
theorem edge_lt {w : Walk} (gw : GoodWk w) {a b : Nat} (e : Edge w a b) : a < w.length ∧ b < w.length := by
  obtain ⟨p, hp, rfl⟩ := e
  have ha : a < w.length := Classical.byContradiction fun z => by
    rw [List.getD_eq_getElem?_getD, List.getElem?_eq_none (by omega)] at hp
    cases hp
  exact ⟨ha, ((good_at gw ha).2.mem p hp).1⟩
theorem path_lt {w : Walk} (gw : GoodWk w) {a b : Nat} (p : Path w a b) (ha : a < w.length) : b < w.length := by
  induction p with
  | refl _ => exact ha
  | step e _ ih => exact ih (edge_lt gw e).2
end LW
end

section
set_option Elab.async false
set_option linter.all false
set_option maxRecDepth 100000
set_option maxHeartbeats 1000000
set_option exponentiation.threshold 100000
set_option autoImplicit false
/-! PD: can_come and ahead. -/
namespace LW
open PySem hiding run
open L2 hiding bin
open DL

theorem any_bools (bs : List Bool) : dAny (.list (bs.map .bool)) = some (.bool (bs.any id)) := by
  show (allB (bs.map .bool)).map _ = _
  rw [allB_map]
  rfl
/-- any room of a spread among L -/
def hits (w : Walk) (L : List Nat) (a : Nat) : Bool := (w.getD a []).any fun p => decide (p.1 ∈ L)
theorem hits_edge {w : Walk} {L : List Nat} {a : Nat} : hits w L a = true ↔ ∃ b, Edge w a b ∧ b ∈ L := by
  unfold hits
  rw [List.any_eq_true]
  constructor
  · rintro ⟨p, hp, e⟩
    exact ⟨p.1, ⟨p, hp, rfl⟩, of_decide_eq_true e⟩
  · rintro ⟨b, ⟨p, hp, rfl⟩, hb⟩
    exact ⟨p, hp, decide_eq_true hb⟩
structure Fnd (w : Walk) (G L : List Nat) : Prop where
  nd : L.Nodup
  come : ∀ a, a ∈ L → a < w.length ∧ Come w G a
  goals : ∀ g, g ∈ G → g ∈ L
theorem Fnd.len {w : Walk} {G L : List Nat} (h : Fnd w G L) : L.length ≤ w.length := by
  have := h.nd.length_le_of_subset (l₂ := List.range w.length) fun a m => List.mem_range.mpr (h.come a m).1
  rwa [List.length_range] at this
theorem Fnd.add {w : Walk} {G L : List Nat} {a : Nat} (h : Fnd w G L) (ha : a < w.length) (hn : a ∉ L) (ht : hits w L a = true) : Fnd w G (L ++ [a]) := by
  refine ⟨?_, fun b m => ?_, fun g m => List.mem_append_left _ (h.goals g m)⟩
  · rw [List.nodup_append]
    exact ⟨h.nd, by simp, fun x hx y hy => by
      rcases List.mem_cons.mp hy with rfl | hy
      · intro z; subst z; exact hn hx
      · cases hy⟩
  · rcases List.mem_append.mp m with m | m
    · exact h.come b m
    · rcases List.mem_cons.mp m with rfl | m
      · obtain ⟨c, e, hc⟩ := hits_edge.mp ht
        obtain ⟨g, hg, p⟩ := (h.come c hc).2
        exact ⟨ha, g, hg, .step e p⟩
      · cases m
theorem can_come_ok {w : Walk} {G : List Nat} (gw : GoodWk w) (hG : G.Nodup) (hGn : ∀ g, g ∈ G → g < w.length) :
    ∃ R : List Nat, R.Pairwise (· < ·) ∧ (∀ a, a ∈ R ↔ (a < w.length ∧ Come w G a)) ∧ m_can_come [walkD w, intsD G] = .ok (intsD R) := by
  have hw8 := gw.hi
  have hG8 : G.length ≤ w.length := by
    have := hG.length_le_of_subset (l₂ := List.range w.length) fun a m => List.mem_range.mpr (hGn a m)
    rwa [List.length_range] at this
  obtain ⟨ρ1, e1, c, h1⟩ := forL_pre (tg := .nm 3) (g := gPutD 2 (rd 3) (kc (.bool true))) (fun k : Nat => PyData.int k) (fun pre ρ => ∃ c, ρ = [some (walkD w), some (intsD G), some (.dict (fdL pre)), c, none, none, none]) G (fun pre k post ρ e hp => by
      obtain ⟨c, rfl⟩ := hp
      have hk : k ∉ pre := fun m => by
        rw [e, List.nodup_append] at hG
        exact hG.2.2 k m k List.mem_cons_self rfl
      have hl : pre.length < 1000 := by
        have := congrArg List.length e
        rw [List.length_append, List.length_cons] at this
        omega
      refine ⟨_, [some (walkD w), some (intsD G), some (.dict (fdL (pre ++ [k]))), some (.int k), none, none, none], rfl, (gPutD_ok (l := fdL pre) rfl rfl rfl rfl (by unfold fdL; rw [List.length_map]; omega)).trans ?_, _, rfl⟩
      rw [put_fd pre k hk]
      rfl) (ρ := [some (walkD w), some (intsD G), some (.dict []), none, none, none, none]) ⟨none, rfl⟩
  have hF0 : Fnd w G G := ⟨hG, fun a m => ⟨hGn a m, a, m, .refl a⟩, fun g m => m⟩
  -- the while
  obtain ⟨ρ2, e2, L, hL, hcl, c3, h2⟩ := gWh_fall (c := asB (rd 4)) (g := gSeq (gSet 4 (kc (.bool false))) (gFor (.nm 3) (itR1 (un (rd 0) dLen)) (gIf (andT (asB (bin (rd 3) (rd 2) dNotIn)) (asB (un (comp [5, 6] (.tp [5, 6]) (itS (bin (rd 0) (rd 3) dIx)) yes (bin (rd 5) (rd 2) dIn)) dAny))) (gSeq (gPutD 2 (rd 3) (kc (.bool true))) (gSet 4 (kc (.bool true)))) gSkip)))
    (fun (s : List Nat × Bool) ρ => Fnd w G s.1 ∧ (s.2 = false → ∀ a, a < w.length → a ∈ s.1 ∨ hits w s.1 a = false) ∧ ∃ c, ρ = [some (walkD w), some (intsD G), some (.dict (fdL s.1)), c, some (.bool s.2), none, none])
    (fun s => 2 * (w.length - s.1.length) + s.2.toNat)
    (fun ρ => ∃ L, Fnd w G L ∧ (∀ a, a < w.length → a ∈ L ∨ hits w L a = false) ∧ ∃ c, ρ = [some (walkD w), some (intsD G), some (.dict (fdL L)), c, some (.bool false), none, none])
    (fun s ρ hs => by
      obtain ⟨L, more⟩ := s
      obtain ⟨hL, hcl, c, rfl⟩ := hs
      cases more with
      | false => exact .inl ⟨asB_ok rfl, L, hL, hcl rfl, c, rfl⟩
      | true =>
        refine .inr ⟨asB_ok rfl, ?_⟩
        obtain ⟨ρ3, e3, ext, hF, hx, c3, h3⟩ := forL_pre (tg := .nm 3) (g := gIf (andT (asB (bin (rd 3) (rd 2) dNotIn)) (asB (un (comp [5, 6] (.tp [5, 6]) (itS (bin (rd 0) (rd 3) dIx)) yes (bin (rd 5) (rd 2) dIn)) dAny))) (gSeq (gPutD 2 (rd 3) (kc (.bool true))) (gSet 4 (kc (.bool true)))) gSkip)
          (fun k : Nat => PyData.int k) (fun pre ρ => ∃ ext, Fnd w G (L ++ ext) ∧ (ext = [] → ∀ a, a ∈ pre → a ∈ L ∨ hits w L a = false) ∧ ∃ c, ρ = [some (walkD w), some (intsD G), some (.dict (fdL (L ++ ext))), c, some (.bool (!ext.isEmpty)), none, none]) (List.range w.length) (fun pre a post ρ e hp => by
            obtain ⟨ext, hF, hx, c, rfl⟩ := hp
            have ha : a < w.length := by have : a ∈ List.range w.length := (by rw [e]; exact List.mem_append_right _ List.mem_cons_self); exact List.mem_range.mp this
            have hgs := (good_at gw ha).2
            have hlen := hF.len
            refine ⟨[some (walkD w), some (intsD G), some (.dict (fdL (L ++ ext))), some (.int a), some (.bool (!ext.isEmpty)), none, none], ?_⟩
            have e5 := comp_ok (vs := [5, 6]) (tg := .tp [5, 6]) (fi := itS (bin (rd 0) (rd 3) dIx)) (ft := yes) (fe := bin (rd 5) (rd 2) dIn) (ρ := [some (walkD w), some (intsD G), some (.dict (fdL (L ++ ext))), some (.int a), some (.bool (!ext.isEmpty)), none, none])
              prD (fun _ => true) (fun p => PyData.bool (decide (p.1 ∈ L ++ ext))) (w.getD a []) (line_small (by have := hgs.few; omega)) (itS_tuple (bin_ok rfl rfl (ix_walk (good_at gw ha).1))) (fun p _ => ⟨[some (walkD w), some (intsD G), some (.dict (fdL (L ++ ext))), some (.int a), some (.bool (!ext.isEmpty)), some (.int p.1), some (fr p.2)], rfl, rfl, fun _ => bin_ok rfl rfl (in_fd _ _)⟩)
            rw [filter_yes] at e5
            have e6 : dAny (.list ((w.getD a []).map fun p => PyData.bool (decide (p.1 ∈ L ++ ext)))) = some (.bool (hits w (L ++ ext) a)) := by
              have := any_bools ((w.getD a []).map fun p => decide (p.1 ∈ L ++ ext))
              rw [List.map_map, List.any_map] at this
              exact this
            by_cases c1 : a ∈ L ++ ext
            · refine ⟨_, rfl, gIf_s (andT_f (asB_ok (bin_ok rfl rfl (by rw [notIn_fd, decide_eq_true c1]; rfl)))), ext, hF, fun z b hb => ?_, _, rfl⟩
              rcases List.mem_append.mp hb with hb | hb
              · exact hx z b hb
              · rcases List.mem_cons.mp hb with rfl | hb
                · rw [z, List.append_nil] at c1; exact .inl c1
                · cases hb
            · cases c2 : hits w (L ++ ext) a with
              | false =>
                refine ⟨_, rfl, gIf_s (andT_t (asB_ok (bin_ok rfl rfl (by rw [notIn_fd, decide_eq_false c1]; rfl))) (asB_ok (un_ok e5 (by rw [e6, c2])))), ext, hF, fun z b hb => ?_, _, rfl⟩
                rcases List.mem_append.mp hb with hb | hb
                · exact hx z b hb
                · rcases List.mem_cons.mp hb with rfl | hb
                  · rw [z, List.append_nil] at c2; exact .inr c2
                  · cases hb
              | true =>
                refine ⟨[some (walkD w), some (intsD G), some (.dict (fdL (L ++ (ext ++ [a])))), some (.int a), some (.bool true), none, none], rfl, (gIf_t (andT_t (asB_ok (bin_ok rfl rfl (by rw [notIn_fd, decide_eq_false c1]; rfl))) (asB_ok (un_ok e5 (by rw [e6, c2]))))).trans ?_, ext ++ [a], by rw [← List.append_assoc]; exact hF.add ha c1 c2, fun z => by simp at z, some (.int a), by simp⟩
                refine (gSeq_nx (gPutD_ok (l := fdL (L ++ ext)) rfl rfl rfl rfl (by unfold fdL; rw [List.length_map]; omega))).trans ?_
                rw [put_fd _ a c1, List.append_assoc]
                exact gSet_ok rfl)
          (ρ := [some (walkD w), some (intsD G), some (.dict (fdL L)), c, some (.bool false), none, none]) ⟨[], by rw [List.append_nil]; exact hL, fun _ a m => (by cases m), c, by rw [List.append_nil]; rfl⟩
        refine ⟨(L ++ ext, !ext.isEmpty), ρ3, (gSeq_nx (gSet_ok rfl)).trans (gFor_nx (itR1_nat (n := w.length) (un_ok rfl (len_walk w)) (by omega)) e3), ⟨hF, fun z a ha => ?_, c3, h3⟩, ?_⟩
        · have z : (!ext.isEmpty) = false := z
          have : ext = [] := by cases ext with
            | nil => rfl
            | cons _ _ => cases z
          subst this
          have := hx rfl a (List.mem_range.mpr ha)
          show a ∈ L ++ [] ∨ hits w (L ++ []) a = false
          rw [List.append_nil]
          exact this
        · show 2 * (w.length - (L ++ ext).length) + (!ext.isEmpty).toNat < 2 * (w.length - L.length) + 1
          cases ext with
          | nil => rw [List.append_nil]; exact Nat.lt_succ_self _
          | cons x r =>
            have := hF.len
            rw [List.length_append, List.length_cons] at this ⊢
            show _ + 1 < _ + 1
            omega) (G, true) [some (walkD w), some (intsD G), some (.dict (fdL G)), c, some (.bool true), none, none] ⟨hF0, (fun z => by cases z), c, rfl⟩
  refine ⟨sortN L, sortN_lt hL.nd, fun a => ?_, run_rt ?_⟩
  · rw [(sortN_perm L).mem_iff]
    refine ⟨fun m => hL.come a m, fun ⟨_, hc⟩ => come_closed hL.goals (fun x y e hy => ?_) hc⟩
    rcases hcl x (edge_lt gw e).1 with h | h
    · exact h
    · have := hits_edge.mpr ⟨y, e, hy⟩
      rw [h] at this
      cases this
  · show gSeq _ _ [some (walkD w), some (intsD G), none, none, none, none, none] = _
    refine (gSeq_nx (gSet_ok rfl)).trans ?_
    refine (gSeq_nx (gFor_nx (itS_list rfl) e1)).trans ?_
    subst h1
    refine (gSeq_nx (gSet_ok rfl)).trans ?_
    refine (gSeq_nx e2).trans ?_
    subst h2
    exact gRet_ok (un_ok (un_ok rfl (list_fd L)) (sorted_ints L))

theorem len_ints (l : List Nat) : dLen (intsD l) = some (.int l.length) := by
  show some (PyData.int _) = _
  rw [List.length_map]
theorem ix_ints {l : List Nat} {i k : Nat} (h : l[i]? = some k) : dIx (intsD l) (.int i) = some (.int k) := ix_list (by rw [List.getElem?_map, h]; rfl)
structure Ahd (w : Walk) (a : Nat) (L : List Nat) : Prop where
  nd : L.Nodup
  path : ∀ b, b ∈ L → b < w.length ∧ Path w a b
  self : a ∈ L
theorem Ahd.len {w : Walk} {a : Nat} {L : List Nat} (h : Ahd w a L) : L.length ≤ w.length := by
  have := h.nd.length_le_of_subset (l₂ := List.range w.length) fun a m => List.mem_range.mpr (h.path a m).1
  rwa [List.length_range] at this
theorem Ahd.add {w : Walk} {a b c : Nat} {L : List Nat} (h : Ahd w a L) (gw : GoodWk w) (hb : b ∈ L) (e : Edge w b c) (hn : c ∉ L) : Ahd w a (L ++ [c]) := by
  refine ⟨?_, fun x m => ?_, List.mem_append_left _ h.self⟩
  · rw [List.nodup_append]
    exact ⟨h.nd, by simp, fun x hx y hy => by
      rcases List.mem_cons.mp hy with rfl | hy
      · intro z; subst z; exact hn hx
      · cases hy⟩
  · rcases List.mem_append.mp m with m | m
    · exact h.path x m
    · rcases List.mem_cons.mp m with rfl | m
      · exact ⟨(edge_lt gw e).2, (h.path b hb).2.snoc e⟩
      · cases m
theorem law_ahead_ok {w : Walk} (gw : GoodWk w) {a : Nat} (ha : a < w.length) : ∃ R : List Nat, R.Pairwise (· < ·) ∧ (∀ b, b ∈ R ↔ Path w a b) ∧ m_law_ahead [walkD w, .int a] = .ok (intsD R) := by
  have hw8 := gw.hi
  obtain ⟨ρ2, e2, L, hL, hcl, i, p, h2⟩ := gWh_fall (c := asB (bin (rd 3) (un (rd 2) dLen) dLt)) (g := gSeq (gFor (.nm 4) (itS (bin (rd 0) (bin (rd 2) (rd 3) dIx) dIx)) (gIf (asB (bin (bin (rd 4) (kc (.int 0)) dIx) (rd 2) dNotIn)) (gApp 2 (bin (rd 4) (kc (.int 0)) dIx)) gSkip)) (gSet 3 (bin (rd 3) (kc (.int 1)) dAdd)))
    (fun (s : List Nat × Nat) ρ => Ahd w a s.1 ∧ s.2 ≤ s.1.length ∧ (∀ k b c, k < s.2 → s.1[k]? = some b → Edge w b c → c ∈ s.1) ∧ ∃ p, ρ = [some (walkD w), some (.int a), some (intsD s.1), some (.int s.2), p])
    (fun s => w.length - s.2)
    (fun ρ => ∃ L, Ahd w a L ∧ (∀ b c, b ∈ L → Edge w b c → c ∈ L) ∧ ∃ i p, ρ = [some (walkD w), some (.int a), some (intsD L), i, p])
    (fun s ρ hs => by
      obtain ⟨L, i⟩ := s
      obtain ⟨hL, hi, hcl, p, rfl⟩ := hs
      have hlen : L.length ≤ w.length := hL.len
      by_cases c : i < L.length
      · refine .inr ⟨asB_ok (bin_ok rfl (un_ok rfl (len_ints L)) (lt_t (by have : i < L.length := c; omega))), ?_⟩
        have hb : L[i]? = some (L[i]'c) := List.getElem?_eq_getElem c
        generalize hbe : L[i]'c = b at hb
        have hbm : b ∈ L := List.mem_of_getElem? hb
        have hbn := (hL.path b hbm).1
        have hgs := (good_at gw hbn).2
        obtain ⟨ρ3, e3, ext, hF, hx, p3, h3⟩ := forL_pre (tg := .nm 4) (g := gIf (asB (bin (bin (rd 4) (kc (.int 0)) dIx) (rd 2) dNotIn)) (gApp 2 (bin (rd 4) (kc (.int 0)) dIx)) gSkip)
          prD (fun pre ρ => ∃ ext, Ahd w a (L ++ ext) ∧ (∀ q, q ∈ pre → q.1 ∈ L ++ ext) ∧ ∃ p, ρ = [some (walkD w), some (.int a), some (intsD (L ++ ext)), some (.int i), p]) (w.getD b []) (fun pre q post ρ e hp => by
            obtain ⟨ext, hF, hx, p, rfl⟩ := hp
            have hlen := hF.len
            have hq : q ∈ w.getD b [] := by rw [e]; exact List.mem_append_right _ List.mem_cons_self
            refine ⟨[some (walkD w), some (.int a), some (intsD (L ++ ext)), some (.int i), some (prD q)], ?_⟩
            by_cases c1 : q.1 ∈ L ++ ext
            · refine ⟨_, rfl, gIf_s (asB_ok (bin_ok (bin_ok rfl rfl (atI0 _ _)) rfl (by rw [notIn_ints, decide_eq_true c1]; rfl))), ext, hF, fun z hz => ?_, _, rfl⟩
              rcases List.mem_append.mp hz with hz | hz
              · exact hx z hz
              · rcases List.mem_cons.mp hz with rfl | hz
                · exact c1
                · cases hz
            · refine ⟨[some (walkD w), some (.int a), some (intsD (L ++ (ext ++ [q.1]))), some (.int i), some (prD q)], rfl, (gIf_t (asB_ok (bin_ok (bin_ok rfl rfl (atI0 _ _)) rfl (by rw [notIn_ints, decide_eq_false c1]; rfl)))).trans ?_, ext ++ [q.1], by rw [← List.append_assoc]; exact hF.add gw (List.mem_append_left _ hbm) ⟨q, hq, rfl⟩ c1, fun z hz => ?_, some (prD q), rfl⟩
              · refine (gApp_ok (l := (L ++ ext).map fun k : Nat => PyData.int k) (bin_ok rfl rfl (atI0 _ _)) rfl (by rw [List.length_map]; omega)).trans ?_
                unfold intsD
                rw [← List.append_assoc, List.map_append (l₁ := L ++ ext)]
                rfl
              · rw [← List.append_assoc]
                rcases List.mem_append.mp hz with hz | hz
                · exact List.mem_append_left _ (hx z hz)
                · rcases List.mem_cons.mp hz with rfl | hz
                  · exact List.mem_append_right _ List.mem_cons_self
                  · cases hz)
          (ρ := [some (walkD w), some (.int a), some (intsD L), some (.int i), p]) ⟨[], by rw [List.append_nil]; exact hL, (fun q m => by cases m), p, by rw [List.append_nil]⟩
        subst h3
        refine ⟨(L ++ ext, i + 1), [some (walkD w), some (.int a), some (intsD (L ++ ext)), some (.int ((i + 1 : Nat) : Int)), p3], (gSeq_nx (gFor_nx (itS_tuple (bin_ok rfl (bin_ok rfl rfl (ix_ints hb)) (ix_walk (good_at gw hbn).1))) e3)).trans (gSet_ok (bin_ok rfl rfl rfl)), ⟨hF, ?_, ?_, p3, rfl⟩, ?_⟩
        · show i + 1 ≤ (L ++ ext).length
          rw [List.length_append]
          omega
        · intro k x y hk hkx e
          have hk : k < i + 1 := hk
          have hkl : k < L.length := by omega
          replace hkx : (L ++ ext)[k]? = some x := hkx
          rw [List.getElem?_append_left hkl] at hkx
          by_cases c2 : k < i
          · exact List.mem_append_left _ (hcl k x y c2 hkx e)
          · have : k = i := by omega
            rw [this, hb] at hkx
            obtain ⟨q, hq, rfl⟩ := e
            rw [← Option.some.inj hkx] at hq
            exact hx q hq
        · show w.length - (i + 1) < w.length - i
          omega
      · refine .inl ⟨asB_ok (bin_ok rfl (un_ok rfl (len_ints L)) (lt_f (by have : ¬ i < L.length := c; omega))), L, hL, fun b x hb e => ?_, _, _, rfl⟩
        obtain ⟨k, hk, hkb⟩ := List.mem_iff_getElem.mp hb
        exact hcl k b x (by have : ¬ i < L.length := c; show k < i; omega) (by rw [List.getElem?_eq_getElem hk, hkb]) e)
    ([a], 0) [some (walkD w), some (.int a), some (intsD [a]), some (.int 0), none] ⟨⟨by simp, fun b m => (by rcases List.mem_cons.mp m with rfl | m; exact ⟨ha, .refl _⟩; cases m), List.mem_cons_self⟩, Nat.zero_le _, (fun k b c hk => absurd hk (Nat.not_lt_zero _)), none, rfl⟩
  refine ⟨sortN L, sortN_lt hL.nd, fun b => ?_, run_rt ?_⟩
  · rw [(sortN_perm L).mem_iff]
    refine ⟨fun m => (hL.path b m).2, fun p => ?_⟩
    have : ∀ x y, Path w x y → x ∈ L → y ∈ L := by
      intro x y p
      induction p with
      | refl _ => exact id
      | step e _ ih => intro hx; exact ih (hcl _ _ hx e)
    exact this a b p hL.self
  · show gSeq _ _ [some (walkD w), some (.int a), none, none, none] = _
    refine (gSeq_nx (gSet_ok (mkLst_ok (aCons_ok rfl rfl) rfl))).trans ?_
    refine (gSeq_nx (gSet_ok rfl)).trans ?_
    refine (gSeq_nx e2).trans ?_
    subst h2
    exact gRet_ok (un_ok rfl (sorted_ints L))
end LW
end

section
set_option Elab.async false
set_option linter.all false
set_option maxRecDepth 100000
set_option maxHeartbeats 1000000
set_option exponentiation.threshold 100000
set_option autoImplicit false
/-! PE: what is greatest lies at the rim; rows of equations. -/
namespace LW
open PySem hiding run
open L2 hiding bin
open DL

/-! ### the greatest -/
def wsum (s : Spread) (f : Nat → Rat) : Rat := (s.map fun q => q.2 * f q.1).sum
theorem wsum_le : ∀ (s : Spread) (f g : Nat → Rat), (∀ q, q ∈ s → 0 < q.2) → (∀ q, q ∈ s → f q.1 ≤ g q.1) → wsum s f ≤ wsum s g
  | [], _, _, _, _ => Rat.le_refl
  | q :: r, f, g, hp, h => by
    have h1 := hp q List.mem_cons_self
    have h2 := h q List.mem_cons_self
    have h3 := wsum_le r f g (fun x m => hp x (List.mem_cons_of_mem _ m)) fun x m => h x (List.mem_cons_of_mem _ m)
    have h4 : q.2 * f q.1 ≤ q.2 * g q.1 := Rat.mul_le_mul_of_nonneg_left h2 (by grind)
    unfold wsum at *
    rw [List.map_cons, List.map_cons, List.sum_cons, List.sum_cons]
    grind
theorem wsum_const (s : Spread) (c : Rat) : wsum s (fun _ => c) = (s.map (·.2)).sum * c := by
  unfold wsum
  induction s with
  | nil => rw [List.map_nil, List.map_nil, List.sum_nil, Rat.zero_mul]
  | cons q r ih => rw [List.map_cons, List.map_cons, List.sum_cons, List.sum_cons, ih]; grind
theorem wsum_add (s : Spread) (f g : Nat → Rat) : wsum s (fun b => f b + g b) = wsum s f + wsum s g := by
  unfold wsum
  induction s with
  | nil => rw [List.map_nil, List.sum_nil, List.map_nil, List.map_nil, List.sum_nil, Rat.add_zero]
  | cons q r ih => rw [List.map_cons, List.map_cons, List.map_cons, List.sum_cons, List.sum_cons, List.sum_cons, ih]; grind
theorem wsum_mul (s : Spread) (k : Rat) (f : Nat → Rat) : wsum s (fun b => k * f b) = k * wsum s f := by
  unfold wsum
  induction s with
  | nil => rw [List.map_nil, List.sum_nil, List.map_nil, List.sum_nil, Rat.mul_zero]
  | cons q r ih => rw [List.map_cons, List.map_cons, List.sum_cons, List.sum_cons, ih]; grind
theorem wsum_congr (s : Spread) {f g : Nat → Rat} (h : ∀ q, q ∈ s → f q.1 = g q.1) : wsum s f = wsum s g := by
  unfold wsum
  congr 1
  exact List.map_congr_left fun q m => by rw [h q m]
/-- a mean that is the greatest: all are -/
theorem mean_top {n : Nat} {s : Spread} (g : GoodSp n s) {f : Nat → Rat} {M : Rat} (hf : ∀ q, q ∈ s → f q.1 ≤ M) (h : M ≤ wsum s f) : ∀ q, q ∈ s → f q.1 = M := by
  intro q hq
  have e : wsum s (fun b => M - f b) = M - wsum s f := by
    have : wsum s (fun b => M - f b) = wsum s (fun b => M + (-1) * f b) := wsum_congr s fun q _ => by grind
    rw [this, wsum_add, wsum_const, g.sum, wsum_mul]
    grind
  have hz : ∀ x, x ∈ s.map (fun q => q.2 * (M - f q.1)) → 0 ≤ x := fun x hx => by
    obtain ⟨p, hp, rfl⟩ := List.mem_map.mp hx
    have h1 := (g.mem p hp).2.1
    have h2 := hf p hp
    exact Rat.mul_nonneg (by grind) (by grind)
  have h1 := le_rsum _ hz (q.2 * (M - f q.1)) (List.mem_map.mpr ⟨q, hq, rfl⟩)
  have h2 : (s.map (fun q => q.2 * (M - f q.1))).sum = M - wsum s f := e
  have h3 := hf q hq
  have h4 := (g.mem q hq).2.1
  have h5 : q.2 * (M - f q.1) ≤ 0 := by grind
  have h6 : 0 ≤ q.2 * (M - f q.1) := hz _ (List.mem_map.mpr ⟨q, hq, rfl⟩)
  have h7 : q.2 * (M - f q.1) = 0 := by grind
  rcases Rat.mul_eq_zero.mp h7 with z | z
  · grind
  · grind
theorem top_of (f : Nat → Rat) : ∀ (l : List Nat), l ≠ [] → ∃ r, r ∈ l ∧ ∀ x, x ∈ l → f x ≤ f r
  | [], h => absurd rfl h
  | [a], _ => ⟨a, List.mem_cons_self, fun x m => by
    rcases List.mem_cons.mp m with rfl | m
    · exact Rat.le_refl
    · cases m⟩
  | a :: b :: r, _ => by
    obtain ⟨c, hc, h⟩ := top_of f (b :: r) (by intro z; cases z)
    by_cases k : f c ≤ f a
    · exact ⟨a, List.mem_cons_self, fun x m => by
        rcases List.mem_cons.mp m with rfl | m
        · exact Rat.le_refl
        · have := h x m; grind⟩
    · exact ⟨c, List.mem_cons_of_mem _ hc, fun x m => by
        rcases List.mem_cons.mp m with rfl | m
        · grind
        · exact h x m⟩
/-- from each of R a way leads out of R -/
def Leaves (w : Walk) (R : List Nat) : Prop := ∀ r, r ∈ R → r < w.length ∧ ∃ b, b ∉ R ∧ Path w r b
theorem rim {w : Walk} (gw : GoodWk w) {R : List Nat} (lv : Leaves w R) {f : Nat → Rat} (h : ∀ r, r ∈ R → f r ≤ wsum (w.getD r []) f) (ho : ∀ b, b ∉ R → f b ≤ 0) : ∀ r, f r ≤ 0 := by
  by_cases e : R = []
  · subst e
    exact fun r => ho r (by intro z; cases z)
  obtain ⟨r0, hr0, top⟩ := top_of f R e
  by_cases k : f r0 ≤ 0
  · intro r
    by_cases m : r ∈ R
    · have := top r m; grind
    · exact ho r m
  · exfalso
    have all : ∀ b, f b ≤ f r0 := fun b => by
      by_cases m : b ∈ R
      · exact top b m
      · have := ho b m; grind
    have inR : ∀ b, f b = f r0 → b ∈ R := fun b e => Classical.byContradiction fun m => by have := ho b m; grind
    have key : ∀ a b, Path w a b → f a = f r0 → f b = f r0 := by
      intro a b p
      induction p with
      | refl _ => exact id
      | @step a b c e _ ih =>
        intro ha
        have hm := inR a ha
        obtain ⟨q, hq, rfl⟩ := e
        exact ih (mean_top (good_at gw (lv a hm).1).2 (fun q _ => all q.1) (by rw [← ha]; exact h a hm) q hq)
    obtain ⟨_, b, hb, p⟩ := lv r0 hr0
    exact hb (inR b (key r0 b p rfl))
end LW
end

section
set_option Elab.async false
set_option linter.all false
set_option maxRecDepth 100000
set_option maxHeartbeats 1000000
set_option exponentiation.threshold 100000
set_option autoImplicit false
/-! PJ: the rows that solved_for makes. -/
namespace LW
open PySem hiding run
open L2 hiding bin
open DL

def tot (pre : Spread) (b : Nat) : Rat := (pre.map fun q => if q.1 = b then q.2 else 0).sum
def totK (R : List Nat) (kn : Nat → Bool) (pre : Spread) : Rat := (pre.map fun q => if q.1 ∈ R then 0 else if kn q.1 = true then q.2 else 0).sum
def rowAt (R : List Nat) (kn : Nat → Bool) (g : Rat) (i : Nat) (pre : Spread) : List Rat :=
  (List.range (R.length + 1)).map fun j => if j < R.length then (if j = i then 1 else 0) - tot pre (R.getD j 0) else g + totK R kn pre
theorem rsum_snoc {α : Type} (l : List α) (x : α) (f : α → Rat) : ((l ++ [x]).map f).sum = (l.map f).sum + f x := by
  rw [List.map_append, rsum_append, List.map_cons, List.map_nil, List.sum_cons, List.sum_nil, Rat.add_zero]
section
variable {R : List Nat} {kn : Nat → Bool} {g : Rat} {i : Nat} {pre : Spread}
theorem rowAt_len : (rowAt R kn g i pre).length = R.length + 1 := by
  unfold rowAt
  rw [List.length_map, List.length_range]
theorem rowAt_get {j : Nat} (h : j < R.length + 1) : (rowAt R kn g i pre)[j]? = some (if j < R.length then (if j = i then 1 else 0) - tot pre (R.getD j 0) else g + totK R kn pre) := by
  unfold rowAt
  rw [List.getElem?_map, List.getElem?_range h]
  rfl
theorem rowAt_getD {j : Nat} (h : j < R.length + 1) : (rowAt R kn g i pre).getD j 0 = if j < R.length then (if j = i then 1 else 0) - tot pre (R.getD j 0) else g + totK R kn pre := by
  rw [List.getD_eq_getElem?_getD, rowAt_get h]
  rfl
theorem pos_uniq (nd : R.Nodup) {j k b : Nat} (h1 : R[j]? = some b) (h2 : R[k]? = some b) : j = k := by
  obtain ⟨hj, _⟩ := List.getElem?_eq_some_iff.mp h1
  exact (List.getElem?_inj hj nd).mp (h1.trans h2.symm)
theorem getD_pos {j b : Nat} (h : R[j]? = some b) : R.getD j 0 = b ∧ j < R.length ∧ b ∈ R := by
  obtain ⟨hj, e⟩ := List.getElem?_eq_some_iff.mp h
  exact ⟨by rw [List.getD_eq_getElem?_getD, h]; rfl, hj, e ▸ List.getElem_mem _⟩
theorem pos_get {j : Nat} (h : j < R.length) : R[j]? = some (R.getD j 0) := by
  rw [List.getD_eq_getElem?_getD, List.getElem?_eq_getElem h]
  rfl
theorem rowAt_nil (hi : i < R.length) : ((List.replicate R.length (0 : Rat)) ++ [g]).set i 1 = rowAt R kn g i [] := by
  apply List.ext_getElem?
  intro j
  by_cases h : j < R.length + 1
  · rw [rowAt_get h, List.getElem?_set]
    have t0 : ∀ b, tot [] b = 0 := fun _ => rfl
    have k0 : totK R kn [] = 0 := rfl
    rw [t0, k0]
    by_cases c : i = j
    · subst c
      rw [if_pos rfl, if_pos (by rw [List.length_append, List.length_replicate]; exact Nat.lt_of_lt_of_le hi (Nat.le_add_right _ _)), if_pos hi, if_pos rfl]
      congr 1
      grind
    · rw [if_neg c]
      by_cases d : j < R.length
      · rw [List.getElem?_append_left (by rw [List.length_replicate]; exact d), List.getElem?_replicate, if_pos d, if_pos d, if_neg fun z => c z.symm]
        congr 1
        grind
      · have : j = R.length := by omega
        rw [List.getElem?_append_right (by rw [List.length_replicate]; omega), List.length_replicate, this, Nat.sub_self, if_neg (Nat.lt_irrefl _), Rat.add_zero]
        rfl
  · rw [List.getElem?_eq_none (by rw [List.length_set, List.length_append, List.length_replicate, List.length_singleton]; omega), List.getElem?_eq_none (by rw [rowAt_len]; omega)]
theorem rowAt_in (nd : R.Nodup) {q : Nat × Rat} {k : Nat} (hk : R[k]? = some q.1) : (rowAt R kn g i pre).set k ((rowAt R kn g i pre).getD k 0 - q.2) = rowAt R kn g i (pre ++ [q]) := by
  obtain ⟨e0, hkl, hm⟩ := getD_pos hk
  apply List.ext_getElem?
  intro j
  by_cases h : j < R.length + 1
  · rw [rowAt_get h, List.getElem?_set]
    have tk : totK R kn (pre ++ [q]) = totK R kn pre := by
      unfold totK
      rw [rsum_snoc, if_pos hm, Rat.add_zero]
    have tt : ∀ b, tot (pre ++ [q]) b = tot pre b + if q.1 = b then q.2 else 0 := fun b => rsum_snoc _ _ _
    by_cases c : k = j
    · subst c
      rw [if_pos rfl, if_pos (by rw [rowAt_len]; exact h), rowAt_getD h, if_pos hkl, if_pos hkl, tt, e0, if_pos rfl]
      congr 1
      grind
    · rw [if_neg c, rowAt_get h, tk, tt]
      by_cases d : j < R.length
      · have hne : ¬ q.1 = R.getD j 0 := fun z => c (pos_uniq nd hk (by rw [z]; exact pos_get d))
        rw [if_neg hne, Rat.add_zero]
      · rw [if_neg d, if_neg d]
  · rw [List.getElem?_eq_none (by rw [List.length_set, rowAt_len]; omega), List.getElem?_eq_none (by rw [rowAt_len]; omega)]
theorem rowAt_out {q : Nat × Rat} (hq : q.1 ∉ R) : (rowAt R kn g i pre).set R.length ((rowAt R kn g i pre).getD R.length 0 + if kn q.1 = true then q.2 else 0) = rowAt R kn g i (pre ++ [q]) := by
  apply List.ext_getElem?
  intro j
  by_cases h : j < R.length + 1
  · rw [rowAt_get h, List.getElem?_set]
    have tk : totK R kn (pre ++ [q]) = totK R kn pre + if kn q.1 = true then q.2 else 0 := by
      unfold totK
      rw [rsum_snoc, if_neg hq]
    have tt : ∀ b, tot (pre ++ [q]) b = tot pre b + if q.1 = b then q.2 else 0 := fun b => rsum_snoc _ _ _
    by_cases c : R.length = j
    · subst c
      rw [if_pos rfl, if_pos (by rw [rowAt_len]; exact h), rowAt_getD h, if_neg (Nat.lt_irrefl _), if_neg (Nat.lt_irrefl _), tk]
      congr 1
      grind
    · rw [if_neg c, rowAt_get h, tt]
      have d : j < R.length := by omega
      have hne : ¬ q.1 = R.getD j 0 := fun z => hq (by rw [z]; exact (getD_pos (pos_get d)).2.2)
      rw [if_pos d, if_pos d, if_neg hne, Rat.add_zero]
  · rw [List.getElem?_eq_none (by rw [List.length_set, rowAt_len]; omega), List.getElem?_eq_none (by rw [rowAt_len]; omega)]
theorem part_le : ∀ (s : Spread) (f : Nat → Bool), (∀ q, q ∈ s → 0 < q.2) → 0 ≤ (s.map fun q => if f q.1 = true then q.2 else 0).sum ∧ (s.map fun q => if f q.1 = true then q.2 else 0).sum ≤ (s.map (·.2)).sum
  | [], _, _ => ⟨Rat.le_refl, Rat.le_refl⟩
  | q :: r, f, h => by
    obtain ⟨a, b⟩ := part_le r f fun x m => h x (List.mem_cons_of_mem _ m)
    have h1 := h q List.mem_cons_self
    rw [List.map_cons, List.map_cons, List.sum_cons, List.sum_cons]
    constructor <;> split <;> grind
theorem part_dn {d : Nat} : ∀ (s : Spread) (f : Nat → Bool), (∀ q, q ∈ s → Dn d q.2) → Dn d (s.map fun q => if f q.1 = true then q.2 else 0).sum
  | [], _, _ => Dn.zero d
  | q :: r, f, h => by
    rw [List.map_cons, List.sum_cons]
    refine Dn.add ?_ (part_dn r f fun x m => h x (List.mem_cons_of_mem _ m))
    split
    · exact h q List.mem_cons_self
    · exact Dn.zero d
theorem tot_part (pre : Spread) (b : Nat) : tot pre b = (pre.map fun q => if (decide (q.1 = b)) = true then q.2 else 0).sum := by
  unfold tot
  congr 1
  exact List.map_congr_left fun q _ => by simp
theorem totK_part (pre : Spread) : totK R kn pre = (pre.map fun q => if (!decide (q.1 ∈ R) && kn q.1) = true then q.2 else 0).sum := by
  unfold totK
  congr 1
  exact List.map_congr_left fun q _ => by
    by_cases h : q.1 ∈ R <;> simp [h]
theorem small_num {d : Nat} {v : Rat} (h : Dn d v) (hd : d ≤ 12) (l : -2 ≤ v) (u : v ≤ 2) : ∃ k : Int, v * (d : Rat) = (k : Rat) ∧ k.natAbs < 2 ^ 5 := by
  obtain ⟨k, e⟩ := h
  refine ⟨k, e, ?_⟩
  have d0 : (0 : Rat) ≤ (d : Rat) := Rat.natCast_nonneg
  have d1 : (d : Rat) ≤ 12 := by exact_mod_cast (Rat.natCast_le_natCast (a := d) (b := 12)).mpr hd
  have h1 : v * (d : Rat) ≤ 2 * (d : Rat) := Rat.mul_le_mul_of_nonneg_right u d0
  have h2 : -2 * (d : Rat) ≤ v * (d : Rat) := Rat.mul_le_mul_of_nonneg_right l d0
  have h3 : (k : Rat) ≤ ((24 : Int) : Rat) := by
    have : ((24 : Int) : Rat) = 24 := rfl
    rw [this, ← e]
    grind
  have h4 : ((-24 : Int) : Rat) ≤ (k : Rat) := by
    have : ((-24 : Int) : Rat) = -24 := rfl
    rw [this, ← e]
    grind
  have h5 := Rat.intCast_le_intCast.mp h3
  have h6 := Rat.intCast_le_intCast.mp h4
  omega
theorem rowAt_sz {n : Nat} {s post : Spread} (gs : GoodSp n s) (e : s = pre ++ post) (hg : g = 0 ∨ g = 1) : RowB 5 (rowAt R kn g i pre) := by
  obtain ⟨d, d0, d12, hd⟩ := gs.com
  have hp : ∀ q, q ∈ pre → 0 < q.2 := fun q m => (gs.mem q (by rw [e]; exact List.mem_append_left _ m)).2.1
  have hpd : ∀ q, q ∈ pre → Dn d q.2 := fun q m => hd q (by rw [e]; exact List.mem_append_left _ m)
  have hs : (pre.map (·.2)).sum ≤ 1 := by
    have := gs.sum
    rw [e, List.map_append, rsum_append] at this
    have h2 := rsum_nonneg (post.map (·.2)) fun x hx => by
      obtain ⟨q, hq, rfl⟩ := List.mem_map.mp hx
      have := (gs.mem q (by rw [e]; exact List.mem_append_right _ hq)).2.1
      grind
    grind
  have d1 : Dn d 1 := ⟨d, by rw [Rat.one_mul]; rfl⟩
  refine ⟨d, d0, by omega, fun v hv => ?_⟩
  obtain ⟨j, hj, rfl⟩ := List.mem_map.mp hv
  split
  · have ht := part_le pre (fun x => decide (x = R.getD j 0)) hp
    have htd := part_dn pre (fun x => decide (x = R.getD j 0)) hpd
    rw [← tot_part] at ht htd
    have hneg : Dn d (-1 * tot pre (R.getD j 0)) := by
      obtain ⟨k, ek⟩ := htd
      exact ⟨-k, by rw [Rat.intCast_neg, ← ek]; grind⟩
    refine small_num ?_ d12 ?_ ?_
    · have : ((if j = i then 1 else 0 : Rat) - tot pre (R.getD j 0)) = (if j = i then 1 else 0) + -1 * tot pre (R.getD j 0) := by grind
      rw [this]
      refine Dn.add ?_ hneg
      split
      · exact d1
      · exact Dn.zero d
    · split <;> grind
    · split <;> grind
  · have ht := part_le pre (fun x => !decide (x ∈ R) && kn x) hp
    have htd := part_dn pre (fun x => !decide (x ∈ R) && kn x) hpd
    rw [← totK_part] at ht htd
    refine small_num (Dn.add ?_ htd) d12 ?_ ?_
    · rcases hg with rfl | rfl
      · exact Dn.zero d
      · exact d1
    · rcases hg with rfl | rfl <;> grind
    · rcases hg with rfl | rfl <;> grind
end
end LW
end

section
set_option Elab.async false
set_option linter.all false
set_option maxRecDepth 100000
set_option maxHeartbeats 1000000
set_option exponentiation.threshold 100000
set_option autoImplicit false
/-! PK: solved_for. -/
namespace LW
open PySem hiding run
open L2 hiding bin
open DL

section
variable {R : List Nat}
/-- what stands at a room's place, nought for the others -/
noncomputable def atR (R : List Nat) (X : Nat → Rat) : Nat → Rat := fun b => open Classical in if h : ∃ j, R[j]? = some b then X h.choose else 0
theorem atR_in (nd : R.Nodup) (X : Nat → Rat) {j b : Nat} (h : R[j]? = some b) : atR R X b = X j := by
  have hx : ∃ j, R[j]? = some b := ⟨j, h⟩
  unfold atR
  rw [dif_pos hx, pos_uniq nd hx.choose_spec h]
theorem atR_out (X : Nat → Rat) {b : Nat} (h : b ∉ R) : atR R X b = 0 := by
  unfold atR
  exact dif_neg fun ⟨j, e⟩ => h (getD_pos e).2.2
theorem S_tot (nd : R.Nodup) (X : Nat → Rat) : ∀ pre : Spread, S R.length (fun j => tot pre (R.getD j 0) * X j) = wsum pre (atR R X)
  | [] => by
    rw [S_zero fun j _ => (by show (0 : Rat) * _ = 0; exact Rat.zero_mul _)]
    rfl
  | q :: r => by
    have ih := S_tot nd X r
    have e : S R.length (fun j => tot (q :: r) (R.getD j 0) * X j) = S R.length (fun j => (if q.1 = R.getD j 0 then q.2 else 0) * X j + tot r (R.getD j 0) * X j) := S_congr fun j _ => by
      unfold tot
      rw [List.map_cons, List.sum_cons]
      grind
    rw [e, S_add, ih]
    unfold wsum
    rw [List.map_cons, List.sum_cons]
    congr 1
    by_cases h : q.1 ∈ R
    · obtain ⟨j, hj, ej⟩ := List.mem_iff_getElem.mp h
      have hp : R[j]? = some q.1 := by rw [List.getElem?_eq_getElem hj, ej]
      rw [S_one (i := j) hj (fun k hk hne => by
        rw [if_neg fun z => hne (pos_uniq nd (pos_get hk) (by rw [← z]; exact hp)), Rat.zero_mul]), if_pos (getD_pos hp).1.symm, atR_in nd X hp]
    · rw [S_zero fun k hk => by rw [if_neg fun z => h (by rw [z]; exact (getD_pos (pos_get hk)).2.2), Rat.zero_mul], atR_out X h, Rat.mul_zero]
theorem totK_wsum (kn : Nat → Bool) (pre : Spread) : totK R kn pre = wsum pre (fun b => if b ∈ R then 0 else if kn b = true then 1 else 0) := by
  unfold totK wsum
  congr 1
  exact List.map_congr_left fun q _ => by
    show (if q.1 ∈ R then 0 else if kn q.1 = true then q.2 else 0) = q.2 * (if q.1 ∈ R then 0 else if kn q.1 = true then 1 else 0)
    by_cases h : q.1 ∈ R
    · rw [if_pos h, if_pos h, Rat.mul_zero]
    · rw [if_neg h, if_neg h]
      by_cases k : kn q.1 = true
      · rw [if_pos k, if_pos k, Rat.mul_one]
      · rw [if_neg k, if_neg k, Rat.mul_zero]
/-- the rows, all -/
def rowsOf (w : Walk) (R : List Nat) (kn : Nat → Bool) (g : Rat) (is : List Nat) : Rows := is.map fun i => rowAt R kn g i (w.getD (R.getD i 0) [])
variable {w : Walk} {kn : Nat → Bool} {g : Rat}
theorem rowsOf_cell {i j : Nat} (hi : i < R.length) (hj : j < R.length + 1) : cell (rowsOf w R kn g (List.range R.length)) i j = if j < R.length then (if j = i then 1 else 0) - tot (w.getD (R.getD i 0) []) (R.getD j 0) else g + totK R kn (w.getD (R.getD i 0) []) := by
  have e : (rowsOf w R kn g (List.range R.length)).getD i [] = rowAt R kn g i (w.getD (R.getD i 0) []) := by
    unfold rowsOf
    rw [List.getD_eq_getElem?_getD, List.getElem?_map, List.getElem?_range hi]
    rfl
  show ((rowsOf w R kn g (List.range R.length)).getD i []).getD j 0 = _
  rw [e, rowAt_getD hj]
theorem rowsOf_dot (nd : R.Nodup) (X : Nat → Rat) {i : Nat} (hi : i < R.length) : S R.length (fun j => cell (rowsOf w R kn g (List.range R.length)) i j * X j) = X i - wsum (w.getD (R.getD i 0) []) (atR R X) := by
  have e : S R.length (fun j => cell (rowsOf w R kn g (List.range R.length)) i j * X j) = S R.length (fun j => (if j = i then X i else 0) + (-1) * (tot (w.getD (R.getD i 0) []) (R.getD j 0) * X j)) := S_congr fun j hj => by
    rw [rowsOf_cell hi (by omega), if_pos hj]
    by_cases c : j = i
    · subst c
      rw [if_pos rfl, if_pos rfl]
      grind
    · rw [if_neg c, if_neg c]
      grind
  rw [e, S_add, S_mul, S_tot nd, S_one (i := i) hi (fun j _ c => if_neg c), if_pos rfl]
  grind
theorem rowsOf_firm (gw : GoodWk w) (nd : R.Nodup) (lv : Leaves w R) : Firm R.length (cell (rowsOf w R kn g (List.range R.length))) := by
  intro X x0 hn i hi
  have hX : ∀ i, i < R.length → X i = wsum (w.getD (R.getD i 0) []) (atR R X) := by
    intro i hi
    have h1 := hn i hi
    have e : S (R.length + 1) (fun j => cell (rowsOf w R kn g (List.range R.length)) i j * X j) = S R.length (fun j => cell (rowsOf w R kn g (List.range R.length)) i j * X j) + cell (rowsOf w R kn g (List.range R.length)) i R.length * X R.length := rfl
    rw [e, x0, Rat.mul_zero, Rat.add_zero, rowsOf_dot nd X hi] at h1
    grind
  have hY : ∀ r, r ∈ R → atR R X r = wsum (w.getD r []) (atR R X) := by
    intro r hr
    obtain ⟨j, hj, ej⟩ := List.mem_iff_getElem.mp hr
    have hp : R[j]? = some r := by rw [List.getElem?_eq_getElem hj, ej]
    have h2 := hX j hj
    rw [(getD_pos hp).1] at h2
    rw [atR_in nd X hp]
    exact h2
  have u1 := rim gw lv (f := atR R X) (fun r hr => by rw [← hY r hr]; exact Rat.le_refl) (fun b hb => by rw [atR_out X hb]; exact Rat.le_refl)
  have u2 := rim gw lv (f := fun b => -1 * atR R X b) (fun r hr => by rw [wsum_mul, ← hY r hr]; exact Rat.le_refl) (fun b hb => by rw [atR_out X hb, Rat.mul_zero]; exact Rat.le_refl)
  have h3 := u1 (R.getD i 0)
  have h4 := u2 (R.getD i 0)
  rw [atR_in nd X (pos_get hi)] at h3 h4
  grind
theorem rowsOf_shape (gw : GoodWk w) (lv : ∀ r, r ∈ R → r < w.length) (hg : g = 0 ∨ g = 1) : Shape R.length 5 (rowsOf w R kn g (List.range R.length)) := by
  refine ⟨by unfold rowsOf; rw [List.length_map, List.length_range], fun r hr => ?_, fun r hr => ?_⟩
  · obtain ⟨i, _, rfl⟩ := List.mem_map.mp hr
    exact rowAt_len
  · obtain ⟨i, hi, rfl⟩ := List.mem_map.mp hr
    have hi := List.mem_range.mp hi
    exact rowAt_sz (good_at gw (lv _ (getD_pos (pos_get hi)).2.2)).2 (List.append_nil _).symm hg
end
theorem index_ints {R : List Nat} (nd : R.Nodup) {j k : Nat} (h : R[j]? = some k) : dIndex (intsD R) (.int k) = some (.int j) := by
  have h1 : SeqAt.shaped (.int (k : Int)) = true := (sh_int k).shaped
  have h2 : SeqAt.shaped (intsD R) = true := (sh_map (n := 0) (fun i : Nat => sh_int (i : Nat)) R).shaped
  show (if SeqAt.shaped (.int (k : Int)) = true ∧ SeqAt.shaped (intsD R) = true then ((R.map fun i => PyData.int (i : Nat)).findIdx? fun z => PyData.eqv z (.int k)).map (fun j => PyData.int (j : Nat)) else none) = _
  rw [if_pos ⟨h1, h2⟩]
  obtain ⟨hj, e⟩ := List.getElem?_eq_some_iff.mp h
  have h3 : ((R.map fun i => PyData.int (i : Nat)).findIdx? fun z => PyData.eqv z (.int k)) = some j := by
    rw [List.findIdx?_eq_some_iff_getElem]
    refine ⟨by rw [List.length_map]; exact hj, ?_, fun i hi => ?_⟩
    · rw [List.getElem_map, e, eqv_int]
      exact decide_eq_true rfl
    · rw [List.getElem_map, eqv_int, decide_eq_true_iff]
      intro z
      have hR : R[i]? = some k := by
        rw [List.getElem?_eq_getElem (by omega)]
        congr 1
        omega
      have := pos_uniq nd hR h
      omega
  rw [h3]
  rfl
theorem idx_ok {f g : Ex} {ρ : Rho} {R : List Nat} {j k : Nat} (nd : R.Nodup) (hf : f ρ = .ok (intsD R)) (hg : g ρ = .ok (.int k)) (h : R[j]? = some k) : idx f g ρ = .ok (.int j) := by
  unfold idx
  rw [hf]
  show (g ρ).bind _ = _
  rw [hg]
  show ofO (dIndex (intsD R) (.int k)) = _
  rw [index_ints nd h]
  rfl
theorem set_last {l : List D} {d : D} (h : 0 < l.length) : lSet l (-1) d = some (l.set (l.length - 1) d) := by
  unfold lSet
  have e : ixN l.length (-1) = some (l.length - 1) := by
    show (if (0 : Int) ≤ -1 then _ else _) = _
    rw [if_neg (by omega)]
    show (if _ then _ else _) = _
    rw [if_pos (by omega)]
    congr 1
    omega
  rw [e]
  rfl
theorem known_part_ok (v q : Rat) : m_known_part [fr v, fr q] = .ok (fr (if decide (v = 1) = true then q else 0)) := by
  refine run_rt ?_
  show gSeq _ _ [some (fr v), some (fr q)] = _
  have e : dEq (fr v) (fr 1) = some (.bool (decide (v = 1))) := by
    have : dEq (fr v) (fr 1) = some (.bool (PyData.eqv (fr v) (fr 1))) := dEq_tuple (sh_fr v).shaped (sh_fr 1).shaped
    rw [this, eqv_fr]
  by_cases h : v = 1
  · rw [if_pos (by simpa using h)]
    exact gSeq_rt ((gIf_t (asB_ok (bin_ok rfl rfl (by rw [← fr_one, e, decide_eq_true h])))).trans (gRet_ok rfl))
  · rw [if_neg (by simpa using h)]
    exact (gSeq_nx (gIf_s (asB_ok (bin_ok rfl rfl (by rw [← fr_one, e, decide_eq_false h]))))).trans (gRet_ok rfl)
end LW
end

section
set_option Elab.async false
set_option linter.all false
set_option maxRecDepth 100000
set_option maxHeartbeats 2000000
set_option exponentiation.threshold 100000
set_option autoImplicit false
/-! PL: solved_for, walked. -/
namespace LW
open PySem hiding run
open L2 hiding bin
open DL

def knOf (kn : List Rat) : Nat → Bool := fun b => decide (kn.getD b 0 = 1)
theorem fill {n : Nat} (kn : List Rat) (hk : kn.length = n) : ∀ (ps : List (Nat × Rat)), (ps.map (·.1)).Nodup → (∀ p, p ∈ ps → p.1 < n) →
    (ps.foldl (fun m p => m.set p.1 p.2) kn).length = n ∧ (∀ p, p ∈ ps → (ps.foldl (fun m p => m.set p.1 p.2) kn).getD p.1 0 = p.2) ∧ (∀ b, b ∉ ps.map (·.1) → (ps.foldl (fun m p => m.set p.1 p.2) kn).getD b 0 = kn.getD b 0) ∧ ∀ q, q ∈ ps.foldl (fun m p => m.set p.1 p.2) kn → q ∈ kn ∨ q ∈ ps.map (·.2) := by
  intro ps
  induction ps generalizing kn with
  | nil => intro _ _; exact ⟨hk, (fun p m => by cases m), (fun _ _ => rfl), fun q m => .inl m⟩
  | cons p r ih =>
    intro nd hp
    rw [List.map_cons, List.nodup_cons] at nd
    obtain ⟨a, b, c, d⟩ := ih (kn.set p.1 p.2) (by rw [List.length_set]; exact hk) nd.2 fun q m => hp q (List.mem_cons_of_mem _ m)
    refine ⟨a, fun q m => ?_, fun b hb => ?_, fun q m => ?_⟩
    · rcases List.mem_cons.mp m with rfl | m
      · show (r.foldl _ (kn.set q.1 q.2)).getD q.1 0 = _
        rw [c q.1 nd.1, List.getD_eq_getElem?_getD, List.getElem?_set_self (by rw [hk]; exact hp q List.mem_cons_self)]
        rfl
      · exact b q m
    · rw [List.map_cons, List.mem_cons] at hb
      show (r.foldl _ (kn.set p.1 p.2)).getD b 0 = _
      rw [c b fun z => hb (.inr z), List.getD_eq_getElem?_getD, List.getElem?_set_ne (fun z => hb (.inl z.symm)), ← List.getD_eq_getElem?_getD]
    · rcases d q m with h | h
      · rcases List.mem_or_eq_of_mem_set h with h | h
        · exact .inl h
        · exact .inr (by rw [h, List.map_cons]; exact List.mem_cons_self)
      · exact .inr (by rw [List.map_cons]; exact List.mem_cons_of_mem _ h)
theorem cat_ll {xs ys : List D} (h : xs.length + ys.length ≤ 1000) : dCat (.list xs) (.list ys) = some (.list (xs ++ ys)) := if_pos (line_small h)
theorem zip_ir (xs : List Nat) (ys : List Rat) : zipD (xs.map fun k : Nat => PyData.int k) (ys.map fr) = (List.zip xs ys).map fun p => PyData.tuple [.int p.1, fr p.2] := by
  unfold zipD
  rw [List.zipWith_map, List.zip_eq_zipWith, List.map_zipWith]
theorem neg1 (ρ : Rho) : un (kc (.int 1)) dNeg ρ = .ok (.int (-1)) := un_ok (op := dNeg) (a := .int 1) rfl rfl
theorem list_vec (v : List Rat) : dList (vecD v) = some (vecD v) := rfl
theorem bb8 {m : Nat} (h : m ≤ 8) : 3 * bb 5 (m - 1) ≤ 9000 := by
  have := bb_mono 5 (show m - 1 ≤ 7 by omega)
  have e : bb 5 7 = 767 := rfl
  omega
theorem solved_for_ok {w : Walk} (gw : GoodWk w) {R : List Nat} (nd : R.Nodup) (lv : Leaves w R) {kn : List Rat} (hk : kn.length = w.length) {g : Rat} (hg : g = 0 ∨ g = 1) :
    ∃ made : List Rat, made.length = w.length ∧ m_solved_for [walkD w, intsD R, vecD kn, fr g] = .ok (vecD made) ∧ (∀ b, b ∉ R → made.getD b 0 = kn.getD b 0) ∧
      (∀ r, r ∈ R → made.getD r 0 = g + wsum (w.getD r []) (fun b => if b ∈ R then made.getD b 0 else if kn.getD b 0 = 1 then 1 else 0)) ∧ ∀ q, q ∈ made → q ∈ kn ∨ Sz (bb 5 R.length) q := by
  have hw8 := gw.hi
  have hRn : ∀ r, r ∈ R → r < w.length := fun r m => (lv r m).1
  have hR8 : R.length ≤ w.length := by
    have := nd.length_le_of_subset (l₂ := List.range w.length) fun a m => List.mem_range.mpr (hRn a m)
    rwa [List.length_range] at this
  -- the rows
  obtain ⟨ρ1, e1, c5, c6, c7, c8, h1⟩ := forL_pre (tg := .nm 5) (g := gSeq (gSet 6 (bin (comp [7] (.nm 7) (itS (rd 1)) yes (kc (.tuple [.int 0, .int 1]))) (mkLst (aCons (rd 3) aNil)) dCat)) (gSeq (gPutL 6 (idx (rd 1) (rd 5)) (kc (.tuple [.int 1, .int 1]))) (gSeq (gFor (.tp [7, 8]) (itS (bin (rd 0) (rd 5) dIx)) (gIf (asB (bin (rd 7) (rd 1) dIn)) (gPutL 6 (idx (rd 1) (rd 7)) (callD 2 m_less (aCons (bin (rd 6) (idx (rd 1) (rd 7)) dIx) (aCons (rd 8) aNil)))) (gPutL 6 (un (kc (.int 1)) dNeg) (callD 2 m_plus (aCons (bin (rd 6) (un (kc (.int 1)) dNeg) dIx) (aCons (callD 2 m_known_part (aCons (bin (rd 2) (rd 7) dIx) (aCons (rd 8) aNil))) aNil)))))) (gApp 4 (rd 6)))))
    (fun k : Nat => PyData.int k) (fun pre ρ => ∃ c5 c6 c7 c8, ρ = [some (walkD w), some (intsD R), some (vecD kn), some (fr g), some (matD (rowsOf w R (knOf kn) g (List.range pre.length))), c5, c6, c7, c8, none, none]) R (fun pre r post ρ e hp => by
      obtain ⟨c5, c6, c7, c8, rfl⟩ := hp
      have hpos : R[pre.length]? = some r := by rw [e, List.getElem?_append_right (Nat.le_refl _), Nat.sub_self]; rfl
      obtain ⟨egd, hil, hrm⟩ := getD_pos hpos
      have hrn := hRn r hrm
      generalize hi : pre.length = i at hpos egd hil
      obtain ⟨hwr, gs⟩ := good_at gw hrn
      refine ⟨[some (walkD w), some (intsD R), some (vecD kn), some (fr g), some (matD (rowsOf w R (knOf kn) g (List.range i))), some (.int r), c6, c7, c8, none, none], ?_⟩
      obtain ⟨ρ2, e2, d7, d8, h2⟩ := forL_pre (tg := .tp [7, 8]) (g := gIf (asB (bin (rd 7) (rd 1) dIn)) (gPutL 6 (idx (rd 1) (rd 7)) (callD 2 m_less (aCons (bin (rd 6) (idx (rd 1) (rd 7)) dIx) (aCons (rd 8) aNil)))) (gPutL 6 (un (kc (.int 1)) dNeg) (callD 2 m_plus (aCons (bin (rd 6) (un (kc (.int 1)) dNeg) dIx) (aCons (callD 2 m_known_part (aCons (bin (rd 2) (rd 7) dIx) (aCons (rd 8) aNil))) aNil)))))
        prD (fun p1 ρ => ∃ d7 d8, ρ = [some (walkD w), some (intsD R), some (vecD kn), some (fr g), some (matD (rowsOf w R (knOf kn) g (List.range i))), some (.int r), some (vecD (rowAt R (knOf kn) g i p1)), d7, d8, none, none]) (w.getD r []) (fun p1 q p2 ρ e3 hp => by
          obtain ⟨d7, d8, rfl⟩ := hp
          have hq : q ∈ w.getD r [] := by rw [e3]; exact List.mem_append_right _ List.mem_cons_self
          have hqn := (gs.mem q hq).1
          have hqz : Sz 15 q.2 := gs.sz hq
          have hrz : RowB 5 (rowAt R (knOf kn) g i p1) := rowAt_sz gs e3 hg
          refine ⟨[some (walkD w), some (intsD R), some (vecD kn), some (fr g), some (matD (rowsOf w R (knOf kn) g (List.range i))), some (.int r), some (vecD (rowAt R (knOf kn) g i p1)), some (.int q.1), some (fr q.2), none, none], [some (walkD w), some (intsD R), some (vecD kn), some (fr g), some (matD (rowsOf w R (knOf kn) g (List.range i))), some (.int r), some (vecD (rowAt R (knOf kn) g i (p1 ++ [q]))), some (.int q.1), some (fr q.2), none, none], rfl, ?_, _, _, rfl⟩
          by_cases c : q.1 ∈ R
          · obtain ⟨k, hkl, ek⟩ := List.mem_iff_getElem.mp c
            have hk2 : R[k]? = some q.1 := by rw [List.getElem?_eq_getElem hkl, ek]
            have hgd := getD_ok (l := rowAt R (knOf kn) g i p1) (j := k) (by rw [rowAt_len]; omega)
            refine (gIf_t (asB_ok (bin_ok rfl rfl (by rw [in_ints, decide_eq_true c])))).trans ((gPutL_ok (k := (k : Int)) (d := fr ((rowAt R (knOf kn) g i p1).getD k 0 - q.2)) ((call2 (bin_ok rfl (idx_ok nd rfl rfl hk2) (ix_vec hgd.1)) rfl).trans (lessG (hrz.sz hgd.2) hqz ?_)) (idx_ok nd rfl rfl hk2) rfl (put_vec (by rw [rowAt_len]; omega))).trans ?_)
            · exact Nat.lt_of_lt_of_le (mul_lt (hrz.sz hgd.2).2 hqz.2) (Nat.pow_le_pow_right (by decide) (by decide))
            · rw [rowAt_in nd hk2]
              rfl
          · have hgd := getD_ok (l := rowAt R (knOf kn) g i p1) (j := R.length) (by rw [rowAt_len]; omega)
            have hlen : ((rowAt R (knOf kn) g i p1).map fr).length = R.length + 1 := by rw [List.length_map, rowAt_len]
            have hkn := getD_ok (l := kn) (j := q.1) (by rw [hk]; exact hqn)
            have hlast : dIx (vecD (rowAt R (knOf kn) g i p1)) (.int (-1)) = some (fr ((rowAt R (knOf kn) g i p1).getD R.length 0)) := ix_last (by rw [hlen, Nat.add_sub_cancel, List.getElem?_map, hgd.1]; rfl) (by rw [hlen]; omega)
            have hz2 : Sz 15 (if knOf kn q.1 = true then q.2 else 0) := by
              split
              · exact hqz
              · exact ⟨by decide, by decide⟩
            have e5 := known_part_ok (kn.getD q.1 0) q.2
            refine (gIf_f (asB_ok (bin_ok rfl rfl (by rw [in_ints, decide_eq_false c])))).trans ((gPutL_ok (k := -1) (d := fr ((rowAt R (knOf kn) g i p1).getD R.length 0 + if knOf kn q.1 = true then q.2 else 0)) ((call2 (bin_ok rfl (neg1 _) hlast) ((call2 (bin_ok rfl rfl (ix_vec hkn.1)) rfl).trans e5)).trans (plusG (hrz.sz hgd.2) hz2 ?_)) (neg1 _) rfl (set_last (by rw [hlen]; omega))).trans ?_)
            · exact Nat.lt_of_lt_of_le (mul_lt (hrz.sz hgd.2).2 hz2.2) (Nat.pow_le_pow_right (by decide) (by decide))
            · rw [hlen, Nat.add_sub_cancel, set_vec, rowAt_out c]
              rfl)
        (ρ := [some (walkD w), some (intsD R), some (vecD kn), some (fr g), some (matD (rowsOf w R (knOf kn) g (List.range i))), some (.int r), some (vecD (rowAt R (knOf kn) g i [])), c7, c8, none, none]) ⟨c7, c8, rfl⟩
      refine ⟨[some (walkD w), some (intsD R), some (vecD kn), some (fr g), some (matD (rowsOf w R (knOf kn) g (List.range (i + 1)))), some (.int r), some (vecD (rowAt R (knOf kn) g i (w.getD r []))), d7, d8, none, none], rfl, ?_, _, _, _, _, by rw [List.length_append, hi]; rfl⟩
      have e3 := comp_const (i := 7) (vs := [7]) (f := rd 1) (fe := kc (.tuple [.int 0, .int 1])) (d := .tuple [.int 0, .int 1]) (enc := fun k : Nat => PyData.int k) (l := R) (ρ := [some (walkD w), some (intsD R), some (vecD kn), some (fr g), some (matD (rowsOf w R (knOf kn) g (List.range i))), some (.int r), c6, c7, c8, none, none]) (.inr rfl) (line_small (by omega)) (fun _ => rfl)
      refine (gSeq_nx (gSet_ok (bin_ok e3 (mkLst_ok (aCons_ok rfl rfl) rfl) (cat_ll (by rw [List.length_replicate, List.length_singleton]; omega))))).trans ?_
      have e4 : (List.replicate R.length (PyData.tuple [.int 0, .int 1]) ++ [fr g]) = (List.replicate R.length (0 : Rat) ++ [g]).map fr := by
        rw [List.map_append, List.map_replicate]
        rfl
      have e6 : lSet (List.replicate R.length (PyData.tuple [.int 0, .int 1]) ++ [fr g]) (i : Int) (.tuple [.int 1, .int 1]) = some ((rowAt R (knOf kn) g i []).map fr) := by
        rw [e4, ← rowAt_nil hil, ← set_vec, lSet_nat (by rw [List.length_map, List.length_append, List.length_replicate, List.length_singleton]; omega)]
        rfl
      refine (gSeq_nx (gPutL_ok (k := (i : Int)) rfl (idx_ok nd rfl rfl hpos) rfl e6)).trans ?_
      refine (gSeq_nx (gFor_nx (itS_tuple (bin_ok rfl rfl (ix_walk hwr))) e2)).trans ?_
      subst h2
      refine (gApp_ok rfl rfl (by unfold rowsOf; rw [List.length_map, List.length_map, List.length_range]; omega)).trans ?_
      have e7 : matD (rowsOf w R (knOf kn) g (List.range (i + 1))) = .list ((rowsOf w R (knOf kn) g (List.range i)).map vecD ++ [vecD (rowAt R (knOf kn) g i (w.getD r []))]) := by
        unfold matD rowsOf
        rw [List.range_succ, List.map_append, List.map_append, List.map_cons, List.map_nil, egd]
        rfl
      rw [e7]
      rfl)
    (ρ := [some (walkD w), some (intsD R), some (vecD kn), some (fr g), some (.list []), none, none, none, none, none, none]) ⟨_, _, _, _, rfl⟩
  have sh := rowsOf_shape (kn := knOf kn) gw hRn hg
  obtain ⟨x, hx, ex, sx, zx⟩ := solved_ok sh (by decide) (bb8 (by omega)) (by omega) (rowsOf_firm (kn := knOf kn) (g := g) gw nd lv)
  have hzip : ∀ p, p ∈ List.zip R x → p.1 < w.length := fun p m => hRn _ (List.of_mem_zip m).1
  have hkeys : (List.zip R x).map (·.1) = R := List.map_fst_zip (by omega)
  obtain ⟨f1, f2, f3, f4⟩ := fill kn hk (List.zip R x) (by rw [hkeys]; exact nd) hzip
  generalize hmade : (List.zip R x).foldl (fun m p => m.set p.1 p.2) kn = made at f1 f2 f3 f4
  have hval : ∀ j, j < R.length → made.getD (R.getD j 0) 0 = x.getD j 0 := by
    intro j hj
    have hz : (List.zip R x)[j]? = some (R.getD j 0, x.getD j 0) := List.getElem?_zip_eq_some.mpr ⟨pos_get hj, (getD_ok (by omega)).1⟩
    exact f2 _ (List.mem_of_getElem? hz)
  have hatR : ∀ b, b ∈ R → atR R (fun j => x.getD j 0) b = made.getD b 0 := by
    intro b hb
    obtain ⟨j, hj, ej⟩ := List.mem_iff_getElem.mp hb
    have hp : R[j]? = some b := by rw [List.getElem?_eq_getElem hj, ej]
    rw [atR_in nd _ hp, ← hval j hj, (getD_pos hp).1]
  refine ⟨made, f1, run_rt ?_, fun b hb => f3 b (by rw [hkeys]; exact hb), fun r hr => ?_, fun q hq => ?_⟩
  · show gSeq _ _ [some (walkD w), some (intsD R), some (vecD kn), some (fr g), none, none, none, none, none, none, none] = _
    refine (gSeq_nx (gSet_ok (mkLst_ok rfl rfl))).trans ?_
    refine (gSeq_nx (gFor_nx (itS_list rfl) e1)).trans ?_
    subst h1
    refine (gSeq_nx (gSet_ok (un_ok rfl (list_vec kn)))).trans ?_
    obtain ⟨ρ2, e2, a5, a10, h2⟩ := forL_pre (tg := .tp [5, 10]) (g := gPutL 9 (rd 5) (rd 10)) (fun p : Nat × Rat => PyData.tuple [.int p.1, fr p.2])
      (fun pre ρ => ∃ a5 a10, ρ = [some (walkD w), some (intsD R), some (vecD kn), some (fr g), some (matD (rowsOf w R (knOf kn) g (List.range R.length))), a5, c6, c7, c8, some (vecD (pre.foldl (fun m p => m.set p.1 p.2) kn)), a10]) (List.zip R x) (fun pre p post ρ e hp => by
        obtain ⟨a5, a10, rfl⟩ := hp
        have hpn : p.1 < w.length := hzip p (by rw [e]; exact List.mem_append_right _ List.mem_cons_self)
        have hlen : ∀ (l : List (Nat × Rat)) (k : List Rat), (l.foldl (fun m p => m.set p.1 p.2) k).length = k.length := by
          intro l
          induction l with
          | nil => intro k; rfl
          | cons a r ih => intro k; exact (ih _).trans List.length_set
        refine ⟨[some (walkD w), some (intsD R), some (vecD kn), some (fr g), some (matD (rowsOf w R (knOf kn) g (List.range R.length))), some (.int p.1), c6, c7, c8, some (vecD (pre.foldl (fun m p => m.set p.1 p.2) kn)), some (fr p.2)], _, rfl, gPutL_ok rfl rfl rfl (put_vec (by rw [hlen, hk]; exact hpn)), some (.int p.1), some (fr p.2), ?_⟩
        rw [List.foldl_append]
        rfl)
      (ρ := [some (walkD w), some (intsD R), some (vecD kn), some (fr g), some (matD (rowsOf w R (knOf kn) g (List.range R.length))), c5, c6, c7, c8, some (vecD kn), none]) ⟨c5, none, rfl⟩
    refine (gSeq_nx (gFor_nx ((itZ_list (xs := R.map fun k : Nat => PyData.int k) (ys := x.map fr) rfl ((call1 rfl).trans ex)).trans (by rw [zip_ir])) e2)).trans ?_
    subst h2
    rw [hmade]
    exact gRet_ok rfl
  · obtain ⟨j, hj, ej⟩ := List.mem_iff_getElem.mp hr
    have hp : R[j]? = some r := by rw [List.getElem?_eq_getElem hj, ej]
    have h1 := sx j hj
    rw [rowsOf_dot nd (fun j => x.getD j 0) hj, rowsOf_cell hj (by omega), if_neg (Nat.lt_irrefl _), (getD_pos hp).1, totK_wsum] at h1
    have h2 := hval j hj
    rw [(getD_pos hp).1] at h2
    have h3 : wsum (w.getD r []) (fun b => if b ∈ R then made.getD b 0 else if kn.getD b 0 = 1 then 1 else 0) = wsum (w.getD r []) (atR R (fun j => x.getD j 0)) + wsum (w.getD r []) (fun b => if b ∈ R then 0 else if knOf kn b = true then 1 else 0) := by
      rw [← wsum_add]
      refine wsum_congr _ fun q _ => ?_
      by_cases c : q.1 ∈ R
      · rw [if_pos c, if_pos c, hatR _ c, Rat.add_zero]
      · rw [if_neg c, if_neg c, atR_out _ c, Rat.zero_add]
        unfold knOf
        by_cases d : kn.getD q.1 0 = 1 <;> simp [d]
    rw [h3, h2]
    have h1' : x.getD j 0 - wsum (w.getD r []) (atR R (fun j => x.getD j 0)) = g + wsum (w.getD r []) (fun b => if b ∈ R then 0 else if knOf kn b = true then 1 else 0) := h1
    grind
  · rcases f4 q hq with h | h
    · exact .inl h
    · obtain ⟨p, hp, rfl⟩ := List.mem_map.mp h
      exact .inr (zx _ (List.of_mem_zip hp).2)
end LW
end

section
set_option Elab.async false
set_option linter.all false
set_option maxRecDepth 100000
set_option maxHeartbeats 2000000
set_option exponentiation.threshold 100000
set_option autoImplicit false
/-! PM: chances, and what the law makes of a spread. -/
namespace LW
open PySem hiding run
open L2 hiding bin
open DL

def ind (n : Nat) (G : List Nat) : List Rat := (List.range n).map fun k => if k ∈ G then 1 else 0
theorem ind_len (n : Nat) (G : List Nat) : (ind n G).length = n := by
  unfold ind
  rw [List.length_map, List.length_range]
theorem ind_get {n k : Nat} (G : List Nat) (h : k < n) : (ind n G).getD k 0 = if k ∈ G then 1 else 0 := by
  unfold ind
  rw [List.getD_eq_getElem?_getD, List.getElem?_map, List.getElem?_range h]
  rfl
theorem ind_out {n k : Nat} (G : List Nat) (h : ¬ k < n) : (ind n G).getD k 0 = 0 := by
  rw [List.getD_eq_getElem?_getD, List.getElem?_eq_none (by rw [ind_len]; omega)]
  rfl
theorem ind_nil (n : Nat) : ind n [] = List.replicate n 0 := by
  unfold ind
  have : (fun k : Nat => (if k ∈ ([] : List Nat) then 1 else 0 : Rat)) = fun _ => 0 := funext fun k => if_neg (by intro z; cases z)
  rw [this, map_const, List.length_range]
theorem ind_set {n k : Nat} (G : List Nat) (h : k < n) : (ind n G).set k 1 = ind n (G ++ [k]) := by
  apply List.ext_getElem?
  intro j
  by_cases hj : j < n
  · unfold ind
    rw [List.getElem?_set, List.getElem?_map, List.getElem?_map, List.getElem?_range hj, List.length_map, List.length_range]
    by_cases c : k = j
    · subst c
      rw [if_pos rfl, if_pos h]
      show some (1 : Rat) = some (if k ∈ G ++ [k] then 1 else 0)
      rw [if_pos (List.mem_append_right _ List.mem_cons_self)]
    · rw [if_neg c]
      show some (if j ∈ G then (1 : Rat) else 0) = some (if j ∈ G ++ [k] then 1 else 0)
      have e : (j ∈ G ++ [k]) ↔ j ∈ G := by
        rw [List.mem_append, List.mem_singleton]
        exact ⟨fun z => z.resolve_right fun y => c y.symm, .inl⟩
      by_cases d : j ∈ G
      · rw [if_pos d, if_pos (e.mpr d)]
      · rw [if_neg d, if_neg fun z => d (e.mp z)]
  · rw [List.getElem?_eq_none (by rw [List.length_set, ind_len]; omega), List.getElem?_eq_none (by rw [ind_len]; omega)]
theorem ind_mem {n : Nat} {G : List Nat} {q : Rat} (h : q ∈ ind n G) : q = 0 ∨ q = 1 := by
  obtain ⟨k, _, rfl⟩ := List.mem_map.mp h
  show (if k ∈ G then (1 : Rat) else 0) = 0 ∨ (if k ∈ G then (1 : Rat) else 0) = 1
  by_cases c : k ∈ G
  · exact .inr (if_pos c)
  · exact .inl (if_neg c)
theorem Sz.zero {n : Nat} (h : 0 < n) : Sz n 0 := ⟨Nat.pow_pos (by decide), Nat.one_lt_two_pow (by omega)⟩
theorem Sz.one {n : Nat} (h : 0 < n) : Sz n 1 := ⟨Nat.one_lt_two_pow (by omega), Nat.one_lt_two_pow (by omega)⟩
/-- the list of chances to come to G -/
structure Chances (w : Walk) (G : List Nat) (v : List Rat) : Prop where
  len : v.length = w.length
  goal : ∀ b, b ∈ G → v.getD b 0 = 1
  lost : ∀ b, ¬ Come w G b → v.getD b 0 = 0
  mean : ∀ b, b < w.length → b ∉ G → Come w G b → v.getD b 0 = wsum (w.getD b []) (fun a => v.getD a 0)
  sz : ∀ q, q ∈ v → Sz 767 q
theorem chances_of_ok {w : Walk} {G : List Nat} (gw : GoodWk w) (hG : G.Pairwise (· < ·)) (hGn : ∀ g, g ∈ G → g < w.length) : ∃ v, Chances w G v ∧ m_chances_of [walkD w, intsD G] = .ok (vecD v) := by
  have hw8 := gw.hi
  have ndG : G.Nodup := hG.imp fun h => Nat.ne_of_lt h
  have hG8 : G.length ≤ w.length := by
    have := ndG.length_le_of_subset (l₂ := List.range w.length) fun a m => List.mem_range.mpr (hGn a m)
    rwa [List.length_range] at this
  obtain ⟨C, hC, hCm, eC⟩ := can_come_ok gw ndG hGn
  have ndC : C.Nodup := hC.imp fun h => Nat.ne_of_lt h
  have hC8 : C.length ≤ w.length := by
    have := ndC.length_le_of_subset (l₂ := List.range w.length) fun a m => List.mem_range.mpr ((hCm a).mp m).1
    rwa [List.length_range] at this
  generalize hR : C.filter (fun a => !decide (a ∈ G)) = R
  have hRm : ∀ a, a ∈ R ↔ (a < w.length ∧ Come w G a) ∧ a ∉ G := fun a => by
    rw [← hR, List.mem_filter, hCm]
    simp
  have ndR : R.Nodup := by rw [← hR]; exact ndC.filter _
  have lv : Leaves w R := fun r hr => by
    obtain ⟨⟨h1, g, hg, p⟩, _⟩ := (hRm r).mp hr
    exact ⟨h1, g, fun z => ((hRm g).mp z).2 hg, p⟩
  have hR7 : R.length ≤ 7 := by
    cases hGe : G with
    | nil =>
      have : R = [] := by
        cases hRe : R with
        | nil => rfl
        | cons a r =>
          obtain ⟨⟨_, g, hg, _⟩, _⟩ := (hRm a).mp (by rw [hRe]; exact List.mem_cons_self)
          rw [hGe] at hg
          cases hg
      rw [this]
      exact Nat.zero_le _
    | cons g _ =>
      have hg : g ∈ G := by rw [hGe]; exact List.mem_cons_self
      have nd2 : (g :: R).Nodup := List.nodup_cons.mpr ⟨fun z => ((hRm g).mp z).2 hg, ndR⟩
      have := nd2.length_le_of_subset (l₂ := List.range w.length) fun a m => List.mem_range.mpr (by
        rcases List.mem_cons.mp m with rfl | m
        · exact hGn _ hg
        · exact ((hRm a).mp m).1.1)
      rw [List.length_range, List.length_cons] at this
      omega
  obtain ⟨made, hml, em, ho, hi, hz⟩ := solved_for_ok gw ndR lv (kn := ind w.length G) (ind_len _ _) (g := 0) (.inl rfl)
  have hmb : bb 5 R.length ≤ 767 := Nat.le_trans (bb_mono 5 hR7) (by decide)
  have hval : ∀ b, b ∉ R → made.getD b 0 = (if b < w.length ∧ b ∈ G then 1 else 0) := fun b hb => by
    rw [ho b hb]
    by_cases c : b < w.length
    · rw [ind_get G c]
      by_cases d : b ∈ G
      · rw [if_pos d, if_pos ⟨c, d⟩]
      · rw [if_neg d, if_neg fun z => d z.2]
    · rw [ind_out G c, if_neg fun z => c z.1]
  refine ⟨made, ⟨hml, fun b hb => ?_, fun b hb => ?_, fun b hbn hbG hbc => ?_, fun q hq => ?_⟩, run_rt ?_⟩
  · rw [hval b fun z => ((hRm b).mp z).2 hb, if_pos ⟨hGn b hb, hb⟩]
  · rw [hval b fun z => hb ((hRm b).mp z).1.2, if_neg fun z => hb ⟨b, z.2, .refl b⟩]
  · rw [hi b ((hRm b).mpr ⟨⟨hbn, hbc⟩, hbG⟩), Rat.zero_add]
    refine wsum_congr _ fun q hq => ?_
    by_cases c : q.1 ∈ R
    · rw [if_pos c]
    · rw [if_neg c, ho _ c]
      have hqn : q.1 < w.length := ((good_at gw hbn).2.mem q hq).1
      rw [ind_get G hqn]
      by_cases d : q.1 ∈ G
      · rw [if_pos d, if_pos rfl]
      · rw [if_neg d, if_neg (by decide)]
  · rcases hz q hq with h | h
    · rcases ind_mem h with rfl | rfl
      · exact Sz.zero (by decide)
      · exact Sz.one (by decide)
    · exact h.mono hmb
  · show gSeq _ _ [some (walkD w), some (intsD G), none, none, none, none, none] = _
    refine (gSeq_nx (gSet_ok ((call2 rfl rfl).trans eC))).trans ?_
    refine (gSeq_nx (gSet_ok (comp_const (enc := spreadD) (l := w) (.inl rfl) (line_small (by omega)) (fun _ => rfl)))).trans ?_
    obtain ⟨ρ1, e1, c4, h1⟩ := forL_pre (tg := .nm 4) (g := gPutL 3 (rd 4) (kc (.tuple [.int 1, .int 1]))) (fun k : Nat => PyData.int k) (fun pre ρ => ∃ c4, ρ = [some (walkD w), some (intsD G), some (intsD C), some (vecD (ind w.length pre)), c4, none, none]) G (fun pre k post ρ e hp => by
      obtain ⟨c4, rfl⟩ := hp
      have hk : k < w.length := hGn k (by rw [e]; exact List.mem_append_right _ List.mem_cons_self)
      refine ⟨_, [some (walkD w), some (intsD G), some (intsD C), some (vecD (ind w.length (pre ++ [k]))), some (.int k), none, none], rfl, (gPutL_ok (k := (k : Int)) (d := fr 1) rfl rfl rfl (put_vec (by rw [ind_len]; exact hk))).trans ?_, some (.int k), rfl⟩
      rw [ind_set _ hk]
      rfl) (ρ := [some (walkD w), some (intsD G), some (intsD C), some (vecD (ind w.length [])), none, none, none]) ⟨none, rfl⟩
    rw [ind_nil, vec_zero] at e1
    refine (gSeq_nx (gFor_nx (itS_list rfl) e1)).trans ?_
    subst h1
    have e2 := comp_ok (vs := [4]) (tg := .nm 4) (fi := itS (rd 2)) (ft := asB (bin (rd 4) (rd 1) dNotIn)) (fe := rd 4) (ρ := [some (walkD w), some (intsD G), some (intsD C), some (vecD (ind w.length G)), c4, none, none]) (fun k : Nat => PyData.int k) (fun a => !decide (a ∈ G)) (fun k : Nat => PyData.int k) C (line_small (by omega)) (itS_list rfl) (fun k _ => ⟨[some (walkD w), some (intsD G), some (intsD C), some (vecD (ind w.length G)), some (.int k), none, none], rfl, asB_ok (bin_ok rfl rfl (notIn_ints G k)), fun _ => rfl⟩)
    rw [hR] at e2
    refine (gSeq_nx (gSet_ok e2)).trans ?_
    exact gRet_ok ((call4 rfl rfl rfl rfl).trans em)
theorem need_rooms_ok {w : Walk} {G : List Nat} (hG : G.Pairwise (· < ·)) (hGn : ∀ g, g ∈ G → g < w.length) : m_need_rooms [walkD w, intsD G] = .ok .none := by
  obtain ⟨ρ1, e1, l, c, hl, h1⟩ := forL_pre (tg := .nm 3) (g := gSeq (gDrop (callD 2 m_need_room (aCons (rd 0) (aCons (rd 3) aNil)))) (gSeq (gIf (asB (bin (rd 3) (rd 2) dLe)) (gRaise ("NoRooms" : PySem.Str)) gSkip) (gSet 2 (rd 3)))) (fun k : Nat => PyData.int k)
    (fun pre ρ => ∃ (l : Int) (c : Option D), (l = -1 ∨ ∃ x, x ∈ pre ∧ l = (x : Nat)) ∧ ρ = [some (walkD w), some (intsD G), some (.int l), c]) G (fun pre k post ρ e hp => by
      obtain ⟨l, c, hl, rfl⟩ := hp
      have hk : k < w.length := hGn k (by rw [e]; exact List.mem_append_right _ List.mem_cons_self)
      have hlt : l < k := by
        rcases hl with rfl | ⟨x, hx, rfl⟩
        · omega
        · rw [e, List.pairwise_append] at hG
          have := hG.2.2 x hx k List.mem_cons_self
          omega
      refine ⟨[some (walkD w), some (intsD G), some (.int l), some (.int k)], _, rfl, (gSeq_nx (gDrop_ok ((call2 rfl rfl).trans (need_room_ok hk)))).trans ((gSeq_nx (gIf_s (asB_ok (bin_ok rfl rfl ?_)))).trans (gSet_ok rfl)), (k : Int), some (.int k), .inr ⟨k, List.mem_append_right _ List.mem_cons_self, rfl⟩, rfl⟩
      show some (PyData.bool (decide ((k : Int) ≤ l))) = _
      rw [decide_eq_false (by omega)]) (ρ := [some (walkD w), some (intsD G), some (.int (-1)), none]) ⟨-1, none, .inl rfl, rfl⟩
  refine run_nx (ρ := ρ1) ?_
  show gSeq _ _ [some (walkD w), some (intsD G), none, none] = _
  refine (gSeq_nx (gIf_s (notT_ok (b := true) (asB_ok (un_ok rfl (isi_list _)))))).trans ?_
  refine (gSeq_nx (gSet_ok (neg1 _))).trans ?_
  exact gFor_nx (itS_list rfl) e1
theorem chances_ok {w : Walk} {G : List Nat} (gw : GoodWk w) (hG : G.Pairwise (· < ·)) (hGn : ∀ g, g ∈ G → g < w.length) : ∃ v, Chances w G v ∧ m_chances [walkD w, intsD G] = .ok (vecD v) := by
  obtain ⟨v, hv, e⟩ := chances_of_ok gw hG hGn
  refine ⟨v, hv, run_rt ?_⟩
  show gSeq _ _ [some (walkD w), some (intsD G)] = _
  exact (gSeq_nx (gDrop_ok ((call2 rfl rfl).trans (need_rooms_ok hG hGn)))).trans (gRet_ok ((call2 rfl rfl).trans e))
end LW
end

section
set_option Elab.async false
set_option linter.all false
set_option maxRecDepth 100000
set_option maxHeartbeats 2000000
set_option exponentiation.threshold 100000
set_option autoImplicit false
/-! PO: the law's goals and its means. -/
namespace LW
open PySem hiding run
open L2 hiding bin
open DL

theorem Sz.add {a b : Rat} {n m : Nat} (ha : Sz n a) (hb : Sz m b) : Sz (n + m + 1) (a + b) := by
  have e : (a + b) * ((a.den * b.den : Nat) : Rat) = ((a.num * b.den + b.num * a.den : Int) : Rat) := by
    rw [Rat.natCast_mul, Rat.intCast_add, Rat.intCast_mul, Rat.intCast_mul, ← mul_den_num a, ← mul_den_num b, Rat.intCast_natCast, Rat.intCast_natCast]
    grind
  obtain ⟨h1, h2⟩ := num_of e (Nat.mul_pos (Nat.pos_of_ne_zero a.den_nz) (Nat.pos_of_ne_zero b.den_nz))
  have h3 := mul_lt ha.2 hb.2
  have h4 := mulN ha.1 (natAbs_den b hb.2)
  have h5 := mulN hb.1 (natAbs_den a ha.2)
  rw [Nat.add_comm m n] at h5
  have h6 : 2 ^ (n + m + 1) = 2 ^ (n + m) * 2 := Nat.pow_succ ..
  exact ⟨by omega, by omega⟩
theorem wsum_snoc (s : Spread) (q : Nat × Rat) (f : Nat → Rat) : wsum (s ++ [q]) f = wsum s f + q.2 * f q.1 := rsum_snoc s q _
theorem law_made_ok {n b : Nat} {s : Spread} (gs : GoodSp n s) {v : List Rat} (hv : v.length = n) (hz : ∀ q, q ∈ v → Sz b q) (hb : 0 < b) (hb2 : b ≤ 1200) : m_law_made [spreadD s, vecD v] = .ok (fr (wsum s fun a => v.getD a 0)) := by
  obtain ⟨ρ1, e1, c, h1, _⟩ := forL_pre (tg := .nm 3) (g := gSet 2 (callD 3 m_law_add (aCons (rd 2) (aCons (bin (rd 3) (kc (.int 1)) dIx) (aCons (bin (rd 1) (bin (rd 3) (kc (.int 0)) dIx) dIx) aNil))))) prD
    (fun pre ρ => ∃ c, ρ = [some (spreadD s), some (vecD v), some (fr (wsum pre fun a => v.getD a 0)), c] ∧ Sz (1 + (b + 16) * pre.length) (wsum pre fun a => v.getD a 0)) s (fun pre q post ρ e hp => by
      obtain ⟨c, rfl, ha⟩ := hp
      have hq : q ∈ s := by rw [e]; exact List.mem_append_right _ List.mem_cons_self
      have hpre : pre.length ≤ 2 := by
        have h1 := congrArg List.length e
        rw [List.length_append, List.length_cons] at h1
        have := gs.few
        omega
      have hqn := (gs.mem q hq).1
      have hg := getD_ok (l := v) (j := q.1) (by rw [hv]; exact hqn)
      have hl : 1 + (b + 16) * pre.length ≤ 2500 := by
        have := Nat.mul_le_mul_left (b + 16) hpre
        omega
      refine ⟨[some (spreadD s), some (vecD v), some (fr (wsum pre fun a => v.getD a 0)), some (prD q)], _, rfl, gSet_ok ((call3 rfl (bin_ok rfl rfl (atI1 _ _ _)) (bin_ok rfl (bin_ok rfl rfl (atI0 _ _)) (ix_vec hg.1))).trans (law_add_ok (ha.mono hl) ((gs.sz hq).mono (by decide)) ((hz _ hg.2).mono (by omega)))), some (prD q), ?_, ?_⟩
      · rw [wsum_snoc, Rat.mul_comm q.2]
        rfl
      · rw [wsum_snoc, List.length_append]
        refine (ha.add ((gs.sz hq).mul (hz _ hg.2))).mono ?_
        show _ ≤ 1 + (b + 16) * (pre.length + 1)
        rw [Nat.mul_succ]
        omega)
    (ρ := [some (spreadD s), some (vecD v), some (fr 0), none]) ⟨none, rfl, Sz.zero (by omega)⟩
  refine run_rt ?_
  show gSeq _ _ [some (spreadD s), some (vecD v), none, none] = _
  refine (gSeq_nx (gSet_ok (mkTup_ok (aCons_ok rfl (aCons_ok rfl rfl)) rfl))).trans ?_
  refine (gSeq_nx (gFor_nx (itS_tuple rfl) e1)).trans ?_
  subst h1
  exact gRet_ok rfl
theorem goals_ok (ns : List Int) (at_ n : Nat) (hn : n ≤ 8) : ∃ G : List Nat, G.Pairwise (· < ·) ∧ (∀ g, g ∈ G → g < n) ∧ m_law_goals [scrD ns, .int at_, .int n] = .ok (intsD G) := by
  have hm := fun k : Nat => mixed_ok ns (at_ + k) 3 (by decide)
  refine ⟨(List.range n).filter fun k => decide ((hm k).choose = 0), (List.pairwise_lt_range).filter _, fun g hg => List.mem_range.mp (List.mem_filter.mp hg).1, run_rt (gRet_ok ?_)⟩
  have e2 := comp_ok (vs := [3]) (tg := .nm 3) (fi := itR1 (rd 2)) (ft := asB (bin (callD 3 m_law_mixed (aCons (rd 0) (aCons (bin (rd 1) (rd 3) dAdd) (aCons (kc (.int 3)) aNil)))) (kc (.int 0)) dEq)) (fe := rd 3) (ρ := [some (scrD ns), some (.int at_), some (.int n), none]) (fun k : Nat => PyData.int k) (fun k => decide ((hm k).choose = 0)) (fun k : Nat => PyData.int k) (List.range n) (by rw [List.length_range]; exact line_small (by omega)) (itR1_nat rfl (by omega)) (fun k _ => ⟨[some (scrD ns), some (.int at_), some (.int n), some (.int k)], rfl, asB_ok (bin_ok ((call3 rfl (bin_ok rfl rfl rfl) rfl).trans (hm k).choose_spec.2) rfl (by
    rw [eq_ii]
    congr 2
    by_cases c : (hm k).choose = 0
    · rw [c]; rfl
    · rw [decide_eq_false c, beq_eq_false_iff_ne]
      omega)), fun _ => rfl⟩)
  exact e2
theorem ne_ints (v u : List Nat) : dNe (intsD v) (intsD u) = some (.bool (!decide (v = u))) := by
  have hs : ∀ l : List Nat, SeqAt.shaped (intsD l) = true := fun l => (sh_map (n := 0) (fun i : Nat => sh_int (i : Nat)) l).shaped
  have he : PyData.eqv (intsD v) (intsD u) = decide (v = u) := eqv_list (enc := fun k : Nat => PyData.int k) (fun a b => by
    rw [eqv_int]
    by_cases h : a = b
    · subst h; simp
    · rw [decide_eq_false h, decide_eq_false (by omega)]) v u
  rw [dNe_ok (hs v) (hs u), he]
theorem ne_fr (a b : Rat) : dNe (fr a) (fr b) = some (.bool (!decide (a = b))) := by rw [dNe_ok (sh_fr a).shaped (sh_fr b).shaped, eqv_fr]
theorem list_ints (l : List Nat) : dList (intsD l) = some (intsD l) := rfl
theorem len_vec (v : List Rat) : dLen (vecD v) = some (.int v.length) := by
  show some (PyData.int _) = _
  rw [List.length_map]
end LW
end

section
set_option Elab.async false
set_option linter.all false
set_option maxRecDepth 100000
set_option maxHeartbeats 2000000
set_option exponentiation.threshold 100000
set_option autoImplicit false
/-! PT1: what is raised, taken; choosing one of a list by a cell. -/
namespace LW
open PySem hiding run
open L2 hiding bin
open DL
theorem run_exc {N : Nat} {g : Gx} {ds : List D} {c : Str} (h : g (ds.map some ++ List.replicate (N - ds.length) none) = .exc c) : run N g ds = .exc c := by
  unfold run
  rw [h]
theorem gSeq_exc {g h : Gx} {ρ : Rho} {c : Str} (e : g ρ = .exc c) : gSeq g h ρ = .exc c := by
  unfold gSeq
  rw [e]
theorem gDrop_exc {f : Ex} {ρ : Rho} {c : Str} (h : f ρ = .exc c) : gDrop f ρ = .exc c := by
  unfold gDrop
  rw [h]
  rfl
theorem gRet_exc {f : Ex} {ρ : Rho} {c : Str} (h : f ρ = .exc c) : gRet f ρ = .exc c := by
  unfold gRet
  rw [h]
  rfl
theorem gSet_exc {i : Nat} {f : Ex} {ρ : Rho} {c : Str} (h : f ρ = .exc c) : gSet i f ρ = .exc c := by
  unfold gSet
  rw [h]
  rfl
theorem call1_exc {f : List D → Res D} {fa : Ex} {ρ : Rho} {c : Str} (h : fa ρ = .exc c) : callD 1 f (aCons fa aNil) ρ = .exc c := by
  unfold callD aCons
  rw [h]
  rfl
theorem bCall_exc {n : Nat} {fM : List D → Res D} {g : Ax} {ρ : Rho} {ds : List D} {c : Str} (hg : g ρ = .ok ds) (hl : ds.length = n) (h : fM ds = .exc c) : bCall n fM g ρ = .exc c := by
  unfold bCall
  rw [hg]
  show (if ds.length = n then (fM ds).bind fun _ => .ok () else .bad) = _
  rw [if_pos hl, h]
  rfl
theorem bCall_ok {n : Nat} {fM : List D → Res D} {g : Ax} {ρ : Rho} {ds : List D} {d : D} (hg : g ρ = .ok ds) (hl : ds.length = n) (h : fM ds = .ok d) : bCall n fM g ρ = .ok () := by
  unfold bCall
  rw [hg]
  show (if ds.length = n then (fM ds).bind fun _ => .ok () else .bad) = _
  rw [if_pos hl, h]
  rfl
theorem bIf_t {c : Tx} {g h : Rho → Res Unit} {ρ : Rho} (e : c ρ = .ok true) : bIf c g h ρ = g ρ := by
  unfold bIf
  rw [e]
  rfl
theorem bIf_f {c : Tx} {g h : Rho → Res Unit} {ρ : Rho} (e : c ρ = .ok false) : bIf c g h ρ = h ρ := by
  unfold bIf
  rw [e]
  rfl
theorem tryM_exc {cs : List Str} {gB : Rho → Res Unit} {gs : List (Str × Gx)} {ρ : Rho} {c : Str} (h : gB ρ = .exc c) (hc : c ∈ cs) : gTryM cs gB gs ρ = pickG gs c ρ := by
  unfold gTryM
  rw [h]
  exact if_pos hc
theorem tryE_exc {cs : List Str} {gB : Rho → Res Unit} {x : Str} {i : Nat} {gS : Str → Gx} {ρ : Rho} {c : Str} (h : gB ρ = .exc c) (hc : c ∈ cs ∧ upB c x = true ∧ i < ρ.length) : gTryE cs gB x i gS ρ = (match gS c (ρ.set i none) with
    | .nx ρ' => .nx (ρ'.set i none)
    | o => o) := by
  unfold gTryE
  rw [h]
  exact if_pos hc
theorem tryM_ok {cs : List Str} {gB : Rho → Res Unit} {gs : List (Str × Gx)} {ρ : Rho} (h : gB ρ = .ok ()) : gTryM cs gB gs ρ = .nx ρ := by
  unfold gTryM
  rw [h]
theorem tryE_ok {cs : List Str} {gB : Rho → Res Unit} {x : Str} {i : Nat} {gS : Str → Gx} {ρ : Rho} (h : gB ρ = .ok ()) : gTryE cs gB x i gS ρ = .nx ρ := by
  unfold gTryE
  rw [h]
theorem forL_rt {tg : Tgt} {g : Gx} {d : D} {r : List D} {ρ ρ' : Rho} {v : D} (hp : tg.put d ρ = some ρ') (h : g ρ' = .rt v) : forL tg g (d :: r) ρ = .rt v := by
  show (match tg.put d ρ with | none => Out.bad | some ρ' => _) = _
  rw [hp]
  show (match g ρ' with | .nx ρ'' => _ | o => o) = _
  rw [h]
theorem forL_exc {tg : Tgt} {g : Gx} {d : D} {r : List D} {ρ ρ' : Rho} {c : Str} (hp : tg.put d ρ = some ρ') (h : g ρ' = .exc c) : forL tg g (d :: r) ρ = .exc c := by
  show (match tg.put d ρ with | none => Out.bad | some ρ' => _) = _
  rw [hp]
  show (match g ρ' with | .nx ρ'' => _ | o => o) = _
  rw [h]
theorem forL_cons {tg : Tgt} {g : Gx} {d : D} {r : List D} {ρ ρ' ρ2 : Rho} (hp : tg.put d ρ = some ρ') (h : g ρ' = .nx ρ2) : forL tg g (d :: r) ρ = forL tg g r ρ2 := by
  show (match tg.put d ρ with | none => Out.bad | some ρ' => _) = _
  rw [hp]
  show (match g ρ' with | .nx ρ'' => _ | o => o) = _
  rw [h]
theorem gFor_l {tg : Tgt} {fi : Ax} {g : Gx} {ρ : Rho} {l : List D} {o : Out} (h : fi ρ = .ok l) (e : forL tg g l ρ = o) : gFor tg fi g ρ = o := (gFor_ok h).trans e
theorem mod_nat (r m : Nat) (h : 0 < m) : dMod (.int (r : Int)) (.int (m : Int)) = some (.int ((r % m : Nat) : Int)) := by
  rw [mod_ii (by omega), Int.fmod_eq_emod_of_nonneg _ (by omega)]
  rfl
/-- one of a list, by a cell -/
theorem one_of {f g : Ex} {ρ : Rho} {l : List D} {r m : Nat} (hf : f ρ = .ok (.list l)) (hg : g ρ = .ok (.int r)) (hm : l.length = m) (h : 0 < m) : ∃ d, d ∈ l ∧ bin f (bin g (kc (.int (m : Int))) dMod) dIx ρ = .ok d := by
  have hl : r % m < l.length := by rw [hm]; exact Nat.mod_lt _ h
  exact ⟨l[r % m], List.getElem_mem hl, bin_ok hf (bin_ok hg rfl (mod_nat r m h)) (ix_list (List.getElem?_eq_getElem hl))⟩
theorem mixed6 (ns : List Int) (k : Nat) {ρ : Rho} (h : rd 0 ρ = .ok (scrD ns)) : ∃ r : Nat, callD 3 m_law_mixed (aCons (rd 0) (aCons (kc (.int (k : Int))) (aCons (bin (kc (.int 10)) (kc (.int 6)) dPow) aNil))) ρ = .ok (.int r) := by
  obtain ⟨r, _, e⟩ := mixed_ok ns k 1000000 (by omega)
  exact ⟨r, (call3 h rfl rfl).trans e⟩
end LW
end

section
set_option Elab.async false
set_option linter.all false
set_option maxRecDepth 100000
set_option maxHeartbeats 2000000
set_option exponentiation.threshold 100000
set_option autoImplicit false
/-! PT2: is_fraction, summed, need_begin. -/
namespace LW
open PySem hiding run
open L2 hiding bin
open DL
theorem andV_f {fa fb : Ex} {ρ : Rho} (h : fa ρ = .ok (.bool false)) : andV fa fb ρ = .ok (.bool false) := by
  unfold andV
  rw [h]
  rfl
theorem andV_b {fa fb : Ex} {ρ : Rho} {a b : Bool} (h : fa ρ = .ok (.bool a)) (k : a = true → fb ρ = .ok (.bool b)) : andV fa fb ρ = .ok (.bool (a && b)) := by
  cases a with
  | true => rw [andV_t h (k rfl), Bool.true_and]
  | false => rw [andV_f h, Bool.false_and]
theorem len_two (a b : D) : dLen (.tuple [a, b]) = some (.int 2) := rfl
theorem ix_t0 (a b : D) : dIx (.tuple [a, b]) (.int 0) = some a := by show atI _ _ = _; exact atI0 _ _
theorem ix_t1 (a b : D) : dIx (.tuple [a, b]) (.int 1) = some b := by show atI _ _ = _; exact atI1 _ _ _
theorem is_fraction_ii (a b : Int) : m_is_fraction [.tuple [.int a, .int b]] = .ok (.bool (decide (0 ≤ a) && (decide (1 ≤ b) && decide (Int.gcd a b = 1)))) := by
  have e0 : bin (rd 0) (kc (.int 0)) dIx [some (.tuple [.int a, .int b])] = .ok (.int a) := bin_ok rfl rfl (ix_t0 _ _)
  have e1 : bin (rd 0) (kc (.int 1)) dIx [some (.tuple [.int a, .int b])] = .ok (.int b) := bin_ok rfl rfl (ix_t1 _ _)
  refine run_rt ?_
  show gSeq _ _ [some (.tuple [.int a, .int b])] = _
  refine (gSeq_nx (gIf_s (orT_f (notT_ok (b := true) (asB_ok (un_ok rfl (isi_tuple _)))) (orT_f (asB_ok (bin_ok (un_ok rfl (len_two _ _)) rfl rfl)) (orT_f (notT_ok (b := true) (asB_ok ((call1 e0).trans (is_whole_ok _)))) (notT_ok (b := true) (asB_ok ((call1 e1).trans (is_whole_ok _))))))))).trans ?_
  refine gRet_ok (andV_b (bin_ok e0 rfl (by rw [ge_ii])) fun _ => andV_b (bin_ok e1 rfl (by rw [ge_ii])) fun _ => bin_ok ((call2 e0 e1).trans (divisor_ok _ _)) rfl ?_)
  rw [eq_ii]
  congr 2
  by_cases h : Int.gcd a b = 1
  · rw [h]; rfl
  · rw [decide_eq_false h]
    exact beq_eq_false_iff_ne.mpr fun z => h (by exact_mod_cast z)
theorem is_fraction_fr (q : Rat) (h : 0 ≤ q) : m_is_fraction [fr q] = .ok (.bool true) := by
  show m_is_fraction [.tuple [.int q.num, .int q.den]] = _
  rw [is_fraction_ii]
  have hd := q.den_nz
  have hn : 0 ≤ q.num := Rat.num_nonneg.mpr h
  have hg : Int.gcd q.num q.den = 1 := by
    have := q.reduced
    unfold Nat.Coprime at this
    show Nat.gcd q.num.natAbs ((q.den : Int).natAbs) = 1
    rw [Int.natAbs_natCast]
    exact this
  rw [decide_eq_true hn, decide_eq_true hg, decide_eq_true (show (1 : Int) ≤ q.den by omega)]
  rfl
/-- a sum, all whose parts are small -/
theorem summed_ok {v : List Rat} (h : ∀ pre x post, v = pre ++ x :: post → Sz 4000 pre.sum ∧ Sz 4000 x) : m_summed [vecD v] = .ok (fr v.sum) := by
  refine run_rt ?_
  show gSeq _ _ [some (vecD v), none, none] = _
  refine (gSeq_nx (gSet_ok rfl)).trans ?_
  obtain ⟨ρ1, e1, c, h1⟩ := forL_pre (tg := .nm 2) (g := gSet 1 (callD 2 m_plus (aCons (rd 1) (aCons (rd 2) aNil)))) fr (fun pre ρ => ∃ c, ρ = [some (vecD v), some (fr pre.sum), c]) v (fun pre x post ρ e hp => by
    obtain ⟨c, rfl⟩ := hp
    obtain ⟨s1, s2⟩ := h pre x post e
    refine ⟨_, [some (vecD v), some (fr (pre.sum + x)), some (fr x)], rfl, gSet_ok ((call2 rfl rfl).trans (plus_ok s1 s2)), some (fr x), ?_⟩
    rw [rsum_append, List.sum_cons, List.sum_nil, Rat.add_zero]) (ρ := [some (vecD v), some (fr 0), none]) ⟨_, by rw [List.sum_nil]⟩
  refine (gSeq_nx (gFor_nx (itS_list rfl) e1)).trans ?_
  subst h1
  exact gRet_ok rfl
theorem len_list' (l : List D) {n : Nat} (h : l.length = n) : dLen (.list l) = some (.int n) := by rw [len_list, h]
theorem all_bools0 (bs : List Bool) : dAll (.list (bs.map .bool)) = some (.bool (bs.all id)) := by
  show (allB (bs.map .bool)).map _ = _
  rw [allB_map]
  rfl
theorem comp_val {vs : List Nat} {i : Nat} {fi : Ax} {fe : Ex} {ρ : Rho} {l : List D} (val : D → D) (hi : fi ρ = .ok l) (hl : l.length ≤ 1000) (hv : ∀ d, d ∈ l → ∃ ρ', Tgt.put (.nm i) d (wipeR ρ vs) = some ρ' ∧ fe ρ' = .ok (val d)) : comp vs (.nm i) fi yes fe ρ = .ok (.list (l.map val)) := by
  have := comp_ok (vs := vs) (tg := .nm i) (fi := fi) (ft := yes) (fe := fe) (ρ := ρ) (fun d : D => d) (fun _ => true) val l (line_small hl) (by rw [List.map_id']; exact hi) (fun d hd => by
    obtain ⟨ρ', a, b⟩ := hv d hd
    exact ⟨ρ', a, rfl, fun _ => b⟩)
  rw [filter_yes] at this
  exact this
theorem gExt_of {i : Nat} {f : Ex} {ρ : Rho} {l es : List D} (hi : ρ[i]? = some (some (.list l))) (hf : f ρ = .ok (.list es)) (h : decide (l.length + es.length < 1000000) = true) : gExt i f ρ = .nx (ρ.set i (some (.list (l ++ es)))) := by
  unfold gExt
  rw [hi]
  simp only [hf, Res.out]
  exact if_pos (of_decide_eq_true h)
/-- need_begin: what it asks of a list of the right length -/
theorem need_begin_of {wd : D} {l : List D} {n : Nat} (hw : dLen wd = some (.int n)) (hl : l.length = n) (hn : n ≤ 1000) (fb : D → Bool) (hf : ∀ d, d ∈ l → m_is_fraction [d] = .ok (.bool (fb d))) :
    (l.all fb = false → m_need_begin [wd, .list l] = .exc "NoBegin") ∧ ∀ q : Rat, l.all fb = true → m_summed [.list l] = .ok (fr q) → m_need_begin [wd, .list l] = if q = 1 then .ok .none else .exc "NoBegin" := by
  have hne : dNe (.int (n : Nat)) (.int (n : Nat)) = some (.bool false) := by rw [ne_int]; simp
  have hc : comp [2] (.nm 2) (itS (rd 1)) yes (callD 1 m_is_fraction (aCons (rd 2) aNil)) [some wd, some (.list l), none] = .ok (.list (l.map fun d => .bool (fb d))) := comp_val _ (itS_list rfl) (by omega) fun d hd => ⟨[some wd, some (.list l), some d], rfl, (call1 rfl).trans (hf d hd)⟩
  have ha : dAll (.list (l.map fun d => .bool (fb d))) = some (.bool (l.all fb)) := by
    have := all_bools0 (l.map fb)
    rw [List.map_map] at this
    rw [show l.all fb = (l.map fb).all id by rw [List.all_map]; rfl]
    exact this
  constructor
  · intro h
    refine run_exc ?_
    show gSeq _ _ [some wd, some (.list l), none] = _
    refine (gSeq_nx (gIf_s (orT_f (notT_ok (b := true) (asB_ok (un_ok rfl (isi_list _)))) (asB_ok (bin_ok (un_ok rfl (len_list' l hl)) (un_ok rfl hw) hne))))).trans ?_
    exact (gIf_t (orT_t (notT_ok (b := false) (asB_ok (un_ok hc (by rw [ha, h])))))).trans rfl
  · intro q h hs
    have hq : asB (bin (callD 1 m_summed (aCons (rd 1) aNil)) (kc (.tuple [.int 1, .int 1])) dNe) [some wd, some (.list l), none] = .ok (!decide (q = 1)) := asB_ok (bin_ok ((call1 rfl).trans hs) rfl (ne_fr q 1))
    have e1 : gSeq (gIf (orT (notT (asB (un (rd 1) (dIsi "list")))) (asB (bin (un (rd 1) dLen) (un (rd 0) dLen) dNe))) (gRaise ("NoBegin" : PySem.Str)) gSkip) (gIf (orT (notT (asB (un (comp [2] (.nm 2) (itS (rd 1)) yes (callD 1 m_is_fraction (aCons (rd 2) aNil))) dAll))) (asB (bin (callD 1 m_summed (aCons (rd 1) aNil)) (kc (.tuple [.int 1, .int 1])) dNe))) (gRaise ("NoBegin" : PySem.Str)) gSkip) [some wd, some (.list l), none]
        = if q = 1 then .nx [some wd, some (.list l), none] else .exc "NoBegin" := by
      refine (gSeq_nx (gIf_s (orT_f (notT_ok (b := true) (asB_ok (un_ok rfl (isi_list _)))) (asB_ok (bin_ok (un_ok rfl (len_list' l hl)) (un_ok rfl hw) hne))))).trans ?_
      by_cases c : q = 1
      · rw [if_pos c]
        exact gIf_s (orT_f (notT_ok (b := true) (asB_ok (un_ok hc (by rw [ha, h])))) (by rw [hq, decide_eq_true c]; rfl))
      · rw [if_neg c]
        exact (gIf_t (orT_f (notT_ok (b := true) (asB_ok (un_ok hc (by rw [ha, h])))) (by rw [hq, decide_eq_false c]; rfl))).trans rfl
    show run 3 g_need_begin _ = _
    unfold run g_need_begin
    show (match gSeq _ _ [some wd, some (.list l), none] with | .nx _ => _ | .rt d => _ | .exc c => _ | .bad => _) = _
    rw [e1]
    by_cases c : q = 1
    · rw [if_pos c, if_pos c]
    · rw [if_neg c, if_neg c]
end LW
end

section
set_option Elab.async false
set_option linter.all false
set_option maxRecDepth 100000
set_option maxHeartbeats 2000000
set_option exponentiation.threshold 100000
set_option autoImplicit false
/-! PCH: is_spread; choices: what the laws draw, picked, checked. -/
namespace LW
open PySem hiding run
open L2 hiding bin
open DL
theorem ne_self {d : D} (h : SeqAt.shaped d = true) : dNe d d = some (.bool false) := by
  rw [dNe_ok h h, SeqAt.eqv_refl _ (SeqAt.canLay_of_shaped h)]
  rfl
theorem sh_spread (s : Spread) : Sh 3 (spreadD s) := sh_mapT (fun p => sh_tuple fun d m => by
  rcases List.mem_cons.mp m with rfl | m
  · exact (sh_int _).mono (by omega)
  · rcases List.mem_cons.mp m with rfl | m
    · exact sh_fr _
    · cases m) s
/-! ### is_spread -/
theorem part_sum {n : Nat} {s pre post : Spread} (g : GoodSp n s) (e : s = pre ++ post) : 0 ≤ (pre.map (·.2)).sum ∧ (pre.map (·.2)).sum ≤ 1 ∧ Dn 27720 (pre.map (·.2)).sum := by
  have h1 : 0 ≤ (pre.map (·.2)).sum := rsum_nonneg _ fun x hx => by
    obtain ⟨p, hp, rfl⟩ := List.mem_map.mp hx
    have := (g.mem p (by rw [e]; exact List.mem_append_left _ hp)).2.1
    grind
  have h2 : 0 ≤ (post.map (·.2)).sum := rsum_nonneg _ fun x hx => by
    obtain ⟨p, hp, rfl⟩ := List.mem_map.mp hx
    have := (g.mem p (by rw [e]; exact List.mem_append_right _ hp)).2.1
    grind
  have h3 := g.sum
  rw [e, List.map_append, rsum_append] at h3
  refine ⟨h1, by grind, ?_⟩
  have dn : ∀ l : List Rat, (∀ x, x ∈ l → Dn 27720 x) → Dn 27720 l.sum := by
    intro l
    induction l with
    | nil => intro _; exact Dn.zero _
    | cons a r ih => intro h; rw [List.sum_cons]; exact (h a List.mem_cons_self).add (ih fun x m => h x (List.mem_cons_of_mem _ m))
  exact dn _ fun x hx => by
    obtain ⟨p, hp, rfl⟩ := List.mem_map.mp hx
    exact (g.mem p (by rw [e]; exact List.mem_append_left _ hp)).2.2
theorem sum_shares {n : Nat} {s : Spread} (g : GoodSp n s) : m_summed [vecD (s.map (·.2))] = .ok (fr 1) := by
  have := summed_ok (v := s.map (·.2)) fun pre x post e => by
    obtain ⟨p1, p2, hs, e1, e2⟩ := List.map_eq_append_iff.mp e
    obtain ⟨a, p3, hs2, e3, e4⟩ := List.map_eq_cons_iff.mp e2
    subst e1 e3
    obtain ⟨h1, h2, h3⟩ := part_sum g hs
    exact ⟨sz_unit (by decide) (Nat.lt_of_lt_of_le (show 27720 < 2 ^ 15 by decide) (Nat.pow_le_pow_right (by decide) (by decide))) h3 h1 h2, (g.sz (by rw [hs, hs2]; exact List.mem_append_right _ List.mem_cons_self)).mono (by omega)⟩
  rw [g.sum] at this
  exact this
theorem pair0 (p : Nat × Rat) : dIx (prD p) (.int 0) = some (.int p.1) := ix_t0 _ _
theorem pair1 (p : Nat × Rat) : dIx (prD p) (.int 1) = some (fr p.2) := ix_t1 _ _
theorem le_ii (i j : Int) : dLe (.int i) (.int j) = some (.bool (decide (i ≤ j))) := rfl
theorem gt_ii (i j : Int) : dGt (.int i) (.int j) = some (.bool (decide (j < i))) := rfl
theorem eq_nought (q : Rat) : dEq (fr q) (.tuple [.int 0, .int 1]) = some (.bool (decide (q = 0))) := by
  have h : dEq (fr q) (fr 0) = some (.bool (PyData.eqv (fr q) (fr 0))) := dEq_tuple (sh_fr q).shaped (sh_fr 0).shaped
  rw [eqv_fr] at h
  exact h
theorem eq_one (q : Rat) : dEq (fr q) (.tuple [.int 1, .int 1]) = some (.bool (decide (q = 1))) := by
  have h : dEq (fr q) (fr 1) = some (.bool (PyData.eqv (fr q) (fr 1))) := dEq_tuple (sh_fr q).shaped (sh_fr 1).shaped
  rw [eqv_fr] at h
  exact h
def lastOf (pre : Spread) : Int := match pre.getLast? with
  | some p => (p.1 : Int)
  | none => -1
theorem lastOf_snoc (pre : Spread) (p : Nat × Rat) : lastOf (pre ++ [p]) = p.1 := by
  unfold lastOf
  rw [List.getLast?_append]
  rfl
theorem lastOf_lt {n : Nat} {s pre post : Spread} {p : Nat × Rat} (g : GoodSp n s) (e : s = pre ++ p :: post) : lastOf pre < p.1 := by
  unfold lastOf
  cases h : pre.getLast? with
  | none => show (-1 : Int) < p.1; omega
  | some q =>
    have hi := g.inc
    rw [e, List.map_append, List.pairwise_append] at hi
    have := hi.2.2 q.1 (List.mem_map.mpr ⟨q, List.mem_of_getLast? h, rfl⟩) p.1 (by rw [List.map_cons]; exact List.mem_cons_self)
    show (q.1 : Int) < p.1
    omega
theorem is_spread_ok {n : Nat} {s : Spread} (g : GoodSp n s) : m_is_spread [spreadD s, .int (n : Nat)] = .ok (.bool true) := by
  have hne : s ≠ [] := fun z => by
    have := g.sum
    rw [z] at this
    exact absurd this (by decide)
  have hlen : 0 < s.length := List.length_pos_iff.mpr hne
  have hl : dLen (spreadD s) = some (.int s.length) := by
    show dLen (.tuple (s.map prD)) = _
    rw [len_tuple, List.length_map]
  refine run_rt ?_
  show gSeq _ _ [some (spreadD s), some (.int (n : Nat)), none, none] = _
  have e0 : dEq (.int (s.length : Nat)) (.int 0) = some (.bool false) := by
    rw [eq_ii]
    congr 2
    exact beq_eq_false_iff_ne.mpr (by omega)
  refine (gSeq_nx (gIf_s (orT_f (notT_ok (b := true) (asB_ok (un_ok rfl (isi_tuple _)))) (asB_ok (bin_ok (un_ok rfl hl) rfl e0))))).trans ?_
  refine (gSeq_nx (gSet_ok (neg1 _))).trans ?_
  obtain ⟨ρ1, e1, c, h1⟩ := forL_pre (tg := .nm 3) (g := gSeq (gIf (orT (notT (asB (un (rd 3) (dIsi "tuple")))) (orT (asB (bin (un (rd 3) dLen) (kc (.int 2)) dNe)) (orT (notT (asB (callD 1 m_is_whole (aCons (bin (rd 3) (kc (.int 0)) dIx) aNil)))) (notT (asB (callD 1 m_is_fraction (aCons (bin (rd 3) (kc (.int 1)) dIx) aNil))))))) (gRet (kc (.bool false))) gSkip) (gSeq (gIf (orT (asB (bin (bin (rd 3) (kc (.int 0)) dIx) (rd 2) dLe)) (orT (asB (bin (bin (rd 3) (kc (.int 0)) dIx) (rd 1) dGe)) (asB (bin (bin (rd 3) (kc (.int 1)) dIx) (kc (.tuple [.int 0, .int 1])) dEq)))) (gRet (kc (.bool false))) gSkip) (gSet 2 (bin (rd 3) (kc (.int 0)) dIx))))
    prD (fun pre ρ => ∃ c, ρ = [some (spreadD s), some (.int (n : Nat)), some (.int (lastOf pre)), c]) s (fun pre p post ρ e hp => by
      obtain ⟨c, rfl⟩ := hp
      obtain ⟨m1, m2, _⟩ := g.mem p (by rw [e]; exact List.mem_append_right _ List.mem_cons_self)
      have hlt := lastOf_lt g e
      refine ⟨[some (spreadD s), some (.int (n : Nat)), some (.int (lastOf pre)), some (prD p)], [some (spreadD s), some (.int (n : Nat)), some (.int p.1), some (prD p)], rfl, ?_, some (prD p), by rw [lastOf_snoc]⟩
      have r0 : bin (rd 3) (kc (.int 0)) dIx [some (spreadD s), some (.int (n : Nat)), some (.int (lastOf pre)), some (prD p)] = .ok (.int p.1) := bin_ok rfl rfl (pair0 p)
      have r1 : bin (rd 3) (kc (.int 1)) dIx [some (spreadD s), some (.int (n : Nat)), some (.int (lastOf pre)), some (prD p)] = .ok (fr p.2) := bin_ok rfl rfl (pair1 p)
      refine (gSeq_nx (gIf_s (orT_f (notT_ok (b := true) (asB_ok (un_ok rfl (isi_tuple _)))) (orT_f (asB_ok (bin_ok (un_ok rfl (len_two _ _)) rfl rfl)) (orT_f (notT_ok (b := true) (asB_ok ((call1 r0).trans (is_whole_ok _)))) (notT_ok (b := true) (asB_ok ((call1 r1).trans (is_fraction_fr _ (by grind)))))))))).trans ?_
      refine (gSeq_nx (gIf_s (orT_f (asB_ok (bin_ok r0 rfl (by rw [le_ii, decide_eq_false (by omega)]))) (orT_f (asB_ok (bin_ok r0 rfl (by rw [ge_ii, decide_eq_false (by omega)]))) (asB_ok (bin_ok r1 rfl (by rw [eq_nought, decide_eq_false (by grind)]))))))).trans ?_
      exact gSet_ok r0) (ρ := [some (spreadD s), some (.int (n : Nat)), some (.int (-1)), none]) ⟨none, rfl⟩
  refine (gSeq_nx (gFor_nx (itS_tuple rfl) e1)).trans ?_
  subst h1
  have hc := comp_ok (vs := [3]) (tg := .nm 3) (fi := itS (rd 0)) (ft := yes) (fe := bin (rd 3) (kc (.int 1)) dIx) (ρ := [some (spreadD s), some (.int (n : Nat)), some (.int (lastOf s)), c]) prD (fun _ => true) (fun p => fr p.2) s (line_small (by have := g.few; omega)) (itS_tuple rfl) (fun p _ => ⟨[some (spreadD s), some (.int (n : Nat)), some (.int (lastOf s)), some (prD p)], rfl, rfl, fun _ => bin_ok rfl rfl (pair1 p)⟩)
  rw [filter_yes] at hc
  have hs := sum_shares g
  unfold vecD at hs
  rw [List.map_map] at hs
  exact gRet_ok (bin_ok ((call1 hc).trans hs) rfl (by rw [eq_one, decide_eq_true rfl]))
/-! ### choices -/
abbrev Choice := List (List Spread)
def waysD (ws : List Spread) : D := .tuple (ws.map spreadD)
def choiceD (c : Choice) : D := .tuple (c.map waysD)
structure GoodCh (c : Choice) : Prop where
  lo : 1 ≤ c.length
  hi : c.length ≤ 4
  row : ∀ ws, ws ∈ c → 1 ≤ ws.length ∧ ws.length ≤ 3 ∧ ∀ s, s ∈ ws → GoodSp c.length s
theorem sh_choice (c : Choice) : Sh 5 (choiceD c) := sh_mapT (fun ws => sh_mapT sh_spread ws) c
theorem len_choice (c : Choice) : dLen (choiceD c) = some (.int c.length) := by
  show dLen (.tuple (c.map waysD)) = _
  rw [len_tuple, List.length_map]
theorem len_ways (ws : List Spread) : dLen (waysD ws) = some (.int ws.length) := by
  show dLen (.tuple (ws.map spreadD)) = _
  rw [len_tuple, List.length_map]
theorem ix_choice {c : Choice} {i : Nat} {ws : List Spread} (h : c[i]? = some ws) : dIx (choiceD c) (.int i) = some (waysD ws) := ix_tuple (by rw [List.getElem?_map, h]; rfl)
theorem ix_ways {ws : List Spread} {i : Nat} {s : Spread} (h : ws[i]? = some s) : dIx (waysD ws) (.int i) = some (spreadD s) := ix_tuple (by rw [List.getElem?_map, h]; rfl)
theorem choice_ok (ns : List Int) (at_ : Nat) : ∃ c, GoodCh c ∧ m_law_choice [scrD ns, .int at_] = .ok (choiceD c) := by
  obtain ⟨r, hr, er⟩ := mixed_ok ns at_ 4 (by decide)
  have hw := fun k : Nat => mixed_ok ns (at_ + 1 + k) 3 (by decide)
  have hs := fun k j : Nat => spread_ok ns (at_ + 6 + 21 * k + 7 * j) (1 + r) (by omega)
  let rowOf : Nat → List Spread := fun k => (List.range (1 + (hw k).choose)).map fun j => (hs k j).choose
  have e0 : gSet 2 (bin (kc (.int 1)) (callD 3 m_law_mixed (aCons (rd 0) (aCons (rd 1) (aCons (kc (.int 4)) aNil)))) dAdd) [some (scrD ns), some (.int at_), none, none, none, none, none] = .nx [some (scrD ns), some (.int at_), some (.int ((1 + r : Nat) : Int)), none, none, none, none] := gSet_ok (bin_ok rfl ((call3 rfl rfl rfl).trans er) rfl)
  refine ⟨(List.range (1 + r)).map rowOf, ⟨by rw [List.length_map, List.length_range]; omega, by rw [List.length_map, List.length_range]; omega, fun ws m => ?_⟩, run_rt ?_⟩
  · obtain ⟨k, _, rfl⟩ := List.mem_map.mp m
    have h3 := (hw k).choose_spec.1
    refine ⟨by show 1 ≤ ((List.range _).map _).length; rw [List.length_map, List.length_range]; omega, by show ((List.range _).map _).length ≤ 3; rw [List.length_map, List.length_range]; omega, fun s ms => ?_⟩
    obtain ⟨j, _, rfl⟩ := List.mem_map.mp ms
    rw [List.length_map, List.length_range]
    exact (hs k j).choose_spec.1
  · show gSeq _ _ [some (scrD ns), some (.int at_), none, none, none, none, none] = _
    refine (gSeq_nx e0).trans ?_
    refine (gSeq_nx (gSet_ok (d := .list []) rfl)).trans ?_
    obtain ⟨ρ1, e1, c4, c5, h1⟩ := forL_pre (tg := .nm 4) (g := gSeq (gSet 5 (bin (kc (.int 1)) (callD 3 m_law_mixed (aCons (rd 0) (aCons (bin (bin (rd 1) (kc (.int 1)) dAdd) (rd 4) dAdd) (aCons (kc (.int 3)) aNil)))) dAdd)) (gApp 3 (un (comp [6] (.nm 6) (itR1 (rd 5)) yes (callD 3 m_law_spread (aCons (rd 0) (aCons (bin (bin (bin (rd 1) (kc (.int 6)) dAdd) (bin (kc (.int 21)) (rd 4) dMul) dAdd) (bin (kc (.int 7)) (rd 6) dMul) dAdd) (aCons (rd 2) aNil))))) dTuple)))
      (fun k : Nat => PyData.int k) (fun pre ρ => ∃ c4 c5, ρ = [some (scrD ns), some (.int at_), some (.int ((1 + r : Nat) : Int)), some (.list (pre.map fun k => waysD (rowOf k))), c4, c5, none]) (List.range (1 + r)) (fun pre k post ρ e hp => by
        obtain ⟨c4, c5, rfl⟩ := hp
        have hpl : pre.length ≤ 4 := by
          have : (List.range (1 + r)).length = _ := congrArg List.length e
          rw [List.length_range, List.length_append] at this
          omega
        have hx := (hw k).choose_spec
        generalize hg : (hw k).choose = x at hx
        refine ⟨[some (scrD ns), some (.int at_), some (.int ((1 + r : Nat) : Int)), some (.list (pre.map fun k => waysD (rowOf k))), some (.int k), c5, none], [some (scrD ns), some (.int at_), some (.int ((1 + r : Nat) : Int)), some (.list (pre.map (fun k => waysD (rowOf k)) ++ [waysD (rowOf k)])), some (.int k), some (.int ((1 + x : Nat) : Int)), none], rfl, ?_, some (.int k), some (.int ((1 + x : Nat) : Int)), by rw [List.map_append]; rfl⟩
        refine (gSeq_nx (gSet_ok (bin_ok rfl ((call3 rfl (bin_ok (bin_ok rfl rfl rfl) rfl rfl) rfl).trans hx.2) rfl))).trans ?_
        have hc := comp_ok (vs := [6]) (tg := .nm 6) (fi := itR1 (rd 5)) (ft := yes) (fe := callD 3 m_law_spread (aCons (rd 0) (aCons (bin (bin (bin (rd 1) (kc (.int 6)) dAdd) (bin (kc (.int 21)) (rd 4) dMul) dAdd) (bin (kc (.int 7)) (rd 6) dMul) dAdd) (aCons (rd 2) aNil)))) (ρ := [some (scrD ns), some (.int at_), some (.int ((1 + r : Nat) : Int)), some (.list (pre.map fun k => waysD (rowOf k))), some (.int k), some (.int ((1 + x : Nat) : Int)), none])
          (fun j : Nat => PyData.int j) (fun _ => true) (fun j => spreadD (hs k j).choose) (List.range (1 + x)) (by rw [List.length_range]; exact line_small (by omega)) (itR1_nat rfl (by omega)) (fun j _ => ⟨[some (scrD ns), some (.int at_), some (.int ((1 + r : Nat) : Int)), some (.list (pre.map fun k => waysD (rowOf k))), some (.int k), some (.int ((1 + x : Nat) : Int)), some (.int j)], rfl, rfl, fun _ => (call3 rfl (bin_ok (bin_ok (bin_ok rfl rfl rfl) (bin_ok rfl rfl (mul_ok (mulOk_l (by decide)))) rfl) (bin_ok rfl rfl (mul_ok (mulOk_l (by decide)))) rfl) rfl).trans (hs k j).choose_spec.2⟩)
        rw [filter_yes] at hc
        refine (gApp_ok (d := waysD (rowOf k)) (un_ok hc ?_) rfl (by rw [List.length_map]; omega)).trans rfl
        show some (PyData.tuple _) = some (PyData.tuple ((rowOf k).map spreadD))
        show some (PyData.tuple _) = some (PyData.tuple (((List.range (1 + (hw k).choose)).map fun j => (hs k j).choose).map spreadD))
        rw [hg, List.map_map]
        rfl) (ρ := [some (scrD ns), some (.int at_), some (.int ((1 + r : Nat) : Int)), some (.list []), none, none, none]) ⟨none, none, rfl⟩
    refine (gSeq_nx (gFor_nx (itR1_nat (n := 1 + r) rfl (by omega)) e1)).trans ?_
    subst h1
    refine gRet_ok (un_ok rfl ?_)
    show some (PyData.tuple _) = some (PyData.tuple (((List.range (1 + r)).map rowOf).map waysD))
    rw [List.map_map]
    rfl
theorem is_choice_ok {c : Choice} (g : GoodCh c) : m_is_choice [choiceD c] = .ok (.bool true) := by
  have lo := g.lo
  have hi := g.hi
  refine run_rt ?_
  show gSeq _ _ [some (choiceD c), none, none] = _
  refine (gSeq_nx (gIf_s (orT_f (notT_ok (b := true) (asB_ok (un_ok rfl (isi_tuple _)))) (orT_f (asB_ok (bin_ok (un_ok rfl (len_choice c)) rfl (lt_f (by omega)))) (asB_ok (bin_ok (un_ok rfl (len_choice c)) rfl (by rw [gt_ii, decide_eq_false (by omega)]))))))).trans ?_
  obtain ⟨ρ1, e1, c1, h1⟩ := forL_pre (tg := .nm 1) (g := gSeq (gIf (orT (notT (asB (un (rd 1) (dIsi "tuple")))) (orT (asB (bin (un (rd 1) dLen) (kc (.int 1)) dLt)) (asB (bin (un (rd 1) dLen) (kc (.int 4)) dGt)))) (gRet (kc (.bool false))) gSkip) (gIf (notT (asB (un (comp [2] (.nm 2) (itS (rd 1)) yes (callD 2 m_is_spread (aCons (rd 2) (aCons (un (rd 0) dLen) aNil)))) dAll))) (gRet (kc (.bool false))) gSkip))
    waysD (fun _ ρ => ∃ c1, ρ = [some (choiceD c), c1, none]) c (fun pre ws post ρ e hp => by
      obtain ⟨c1, rfl⟩ := hp
      obtain ⟨w1, w2, w3⟩ := g.row ws (by rw [e]; exact List.mem_append_right _ List.mem_cons_self)
      refine ⟨[some (choiceD c), some (waysD ws), none], [some (choiceD c), some (waysD ws), none], rfl, ?_, _, rfl⟩
      refine (gSeq_nx (gIf_s (orT_f (notT_ok (b := true) (asB_ok (un_ok rfl (isi_tuple _)))) (orT_f (asB_ok (bin_ok (un_ok rfl (len_ways ws)) rfl (lt_f (by omega)))) (asB_ok (bin_ok (un_ok rfl (len_ways ws)) rfl (by rw [gt_ii, decide_eq_false (by omega)]))))))).trans ?_
      have hc := comp_ok (vs := [2]) (tg := .nm 2) (fi := itS (rd 1)) (ft := yes) (fe := callD 2 m_is_spread (aCons (rd 2) (aCons (un (rd 0) dLen) aNil))) (ρ := [some (choiceD c), some (waysD ws), none]) spreadD (fun _ => true) (fun _ => PyData.bool true) ws (line_small (by omega)) (itS_tuple rfl) (fun s ms => ⟨[some (choiceD c), some (waysD ws), some (spreadD s)], rfl, rfl, fun _ => (call2 rfl (un_ok rfl (len_choice c))).trans (is_spread_ok (w3 s ms))⟩)
      rw [filter_yes, map_const] at hc
      refine gIf_s (notT_ok (b := true) (asB_ok (un_ok hc ?_)))
      have := all_bools0 (List.replicate ws.length true)
      rw [List.map_replicate] at this
      rw [this]
      congr 2
      rw [List.all_eq_true]
      intro b hb
      rw [List.eq_of_mem_replicate hb]
      rfl) (ρ := [some (choiceD c), none, none]) ⟨none, rfl⟩
  refine (gSeq_nx (gFor_nx (itS_tuple rfl) e1)).trans ?_
  exact gRet_ok rfl
theorem checked_choice_ok {c : Choice} (g : GoodCh c) : m_checked_choice [choiceD c] = .ok (choiceD c) := by
  refine run_rt ?_
  show gSeq _ _ [some (choiceD c)] = _
  exact (gSeq_nx (gIf_s (notT_ok (b := true) (asB_ok ((call1 rfl).trans (is_choice_ok g)))))).trans (gRet_ok rfl)
/-- the walk by picks -/
def walkBy (c : Choice) (p : List Nat) : Walk := (List.zip c p).map fun q => q.1.getD q.2 []
structure Picks (c : Choice) (p : List Nat) : Prop where
  len : p.length = c.length
  lt : ∀ i k, p[i]? = some k → k < (c.getD i []).length
theorem Picks.zip {c : Choice} {p : List Nat} (h : Picks c p) {q : List Spread × Nat} (hq : q ∈ List.zip c p) : q.1 ∈ c ∧ q.2 < q.1.length := by
  obtain ⟨i, hi, e⟩ := List.mem_iff_getElem.mp hq
  rw [List.getElem_zip] at e
  rw [List.length_zip] at hi
  have h1 : i < c.length := by omega
  have h2 : i < p.length := by omega
  subst e
  refine ⟨List.getElem_mem h1, ?_⟩
  have := h.lt i p[i] (List.getElem?_eq_getElem h2)
  rw [List.getD_eq_getElem?_getD, List.getElem?_eq_getElem h1] at this
  exact this
theorem walkBy_len {c : Choice} {p : List Nat} (h : Picks c p) : (walkBy c p).length = c.length := by
  unfold walkBy
  rw [List.length_map, List.length_zip, h.len]
  omega
theorem walkBy_good {c : Choice} {p : List Nat} (g : GoodCh c) (h : Picks c p) : GoodWk (walkBy c p) := by
  refine ⟨by rw [walkBy_len h]; exact g.lo, by rw [walkBy_len h]; have := g.hi; omega, fun s hs => ?_⟩
  rw [walkBy_len h]
  obtain ⟨q, hq, rfl⟩ := List.mem_map.mp hs
  obtain ⟨h1, h2⟩ := h.zip hq
  refine (g.row q.1 h1).2.2 _ ?_
  rw [List.getD_eq_getElem?_getD, List.getElem?_eq_getElem h2]
  exact List.getElem_mem h2
theorem walkBy_get {c : Choice} {p : List Nat} (h : Picks c p) {i : Nat} (hi : i < c.length) : (walkBy c p).getD i [] = (c.getD i []).getD (p.getD i 0) [] := by
  have hp : i < p.length := by rw [h.len]; exact hi
  unfold walkBy
  have hz : (List.zip c p)[i]? = some (c[i], p[i]) := List.getElem?_zip_eq_some.mpr ⟨List.getElem?_eq_getElem hi, List.getElem?_eq_getElem hp⟩
  have e1 : c.getD i [] = c[i] := by rw [List.getD_eq_getElem?_getD, List.getElem?_eq_getElem hi]; rfl
  have e2 : p.getD i 0 = p[i] := by rw [List.getD_eq_getElem?_getD, List.getElem?_eq_getElem hp]; rfl
  rw [e1, e2, List.getD_eq_getElem?_getD, List.getElem?_map, hz]
  rfl
theorem zip_wk (c : Choice) (p : List Nat) : zipD (c.map waysD) (p.map fun k : Nat => PyData.int k) = (List.zip c p).map fun q => PyData.tuple [waysD q.1, .int q.2] := by
  unfold zipD
  rw [List.zipWith_map, List.zip_eq_zipWith, List.map_zipWith]
/-- the comprehension that takes the picked ways -/
theorem picked_comp {c : Choice} {p : List Nat} (h : Picks c p) (hc : c.length ≤ 1000) {vs : List Nat} {i j : Nat} {fi : Ax} {ρ : Rho} (hi : fi ρ = .ok (zipD (c.map waysD) (p.map fun k : Nat => PyData.int k)))
    (hp : ∀ a b : D, ∃ ρ', Tgt.put (.tp [i, j]) (.tuple [a, b]) (wipeR ρ vs) = some ρ' ∧ rd i ρ' = .ok a ∧ rd j ρ' = .ok b) : un (comp vs (.tp [i, j]) fi yes (bin (rd i) (rd j) dIx)) dTuple ρ = .ok (walkD (walkBy c p)) := by
  have hcm := comp_ok (vs := vs) (tg := .tp [i, j]) (fi := fi) (ft := yes) (fe := bin (rd i) (rd j) dIx) (ρ := ρ) (fun q : List Spread × Nat => PyData.tuple [waysD q.1, .int q.2]) (fun _ => true) (fun q => spreadD (q.1.getD q.2 [])) (List.zip c p) (by rw [List.length_zip]; exact line_small (by omega)) (by rw [hi, zip_wk]) (fun q hq => by
    obtain ⟨ρ', e1, e2, e3⟩ := hp (waysD q.1) (.int q.2)
    refine ⟨ρ', e1, rfl, fun _ => bin_ok e2 e3 (ix_ways ?_)⟩
    rw [List.getD_eq_getElem?_getD, List.getElem?_eq_getElem (h.zip hq).2]
    rfl)
  rw [filter_yes] at hcm
  refine un_ok hcm ?_
  show some (PyData.tuple _) = some (PyData.tuple ((walkBy c p).map spreadD))
  unfold walkBy
  rw [List.map_map]
  rfl
theorem itY_tl {f g : Ex} {ρ : Rho} {xs ys : List D} (hf : f ρ = .ok (.tuple xs)) (hg : g ρ = .ok (.list ys)) : itY f g ρ = .ok (zipD xs ys) := by
  unfold itY
  rw [hf, hg]
  rfl
theorem walk_by_ok {c : Choice} {p : List Nat} (g : GoodCh c) (h : Picks c p) : m_walk_by [choiceD c, intsD p] = .ok (walkD (walkBy c p)) := by
  refine run_rt (gRet_ok ?_)
  exact picked_comp h (by have := g.hi; omega) (itY_tl rfl rfl) fun a b => ⟨[some (choiceD c), some (intsD p), some a, some b], rfl, rfl, rfl⟩
theorem picked_ok {c : Choice} {p : List Nat} (g : GoodCh c) (h : Picks c p) : m_picked [choiceD c, intsD p] = .ok (walkD (walkBy c p)) := by
  refine run_rt ?_
  show gSeq _ _ [some (choiceD c), some (intsD p), none, none] = _
  have hne : dNe (.int (p.length : Nat)) (.int (c.length : Nat)) = some (.bool false) := by rw [ne_int, h.len]; simp
  refine (gSeq_nx (gIf_s (orT_f (notT_ok (b := true) (asB_ok (un_ok rfl (isi_list _)))) (asB_ok (bin_ok (un_ok rfl (len_ints p)) (un_ok rfl (len_choice c)) hne))))).trans ?_
  obtain ⟨ρ1, e1, a, b, h1⟩ := forL_pre (tg := .tp [2, 3]) (g := gIf (orT (notT (asB (callD 1 m_is_whole (aCons (rd 3) aNil)))) (orT (asB (bin (rd 3) (kc (.int 0)) dLt)) (asB (bin (rd 3) (un (rd 2) dLen) dGe)))) (gRaise ("NoPicks" : PySem.Str)) gSkip)
    (fun q : List Spread × Nat => PyData.tuple [waysD q.1, .int q.2]) (fun _ ρ => ∃ a b, ρ = [some (choiceD c), some (intsD p), a, b]) (List.zip c p) (fun pre q post ρ e hp => by
      obtain ⟨a, b, rfl⟩ := hp
      obtain ⟨_, q2⟩ := h.zip (q := q) (by rw [e]; exact List.mem_append_right _ List.mem_cons_self)
      refine ⟨[some (choiceD c), some (intsD p), some (waysD q.1), some (.int q.2)], [some (choiceD c), some (intsD p), some (waysD q.1), some (.int q.2)], rfl, ?_, _, _, rfl⟩
      exact gIf_s (orT_f (notT_ok (b := true) (asB_ok ((call1 rfl).trans (is_whole_ok _)))) (orT_f (asB_ok (bin_ok rfl rfl (lt_f (by omega)))) (asB_ok (bin_ok rfl (un_ok rfl (len_ways _)) (by rw [ge_ii, decide_eq_false (by omega)])))))) (ρ := [some (choiceD c), some (intsD p), none, none]) ⟨none, none, rfl⟩
  refine (gSeq_nx (gFor_nx (by rw [itY_tl rfl rfl, zip_wk]) e1)).trans ?_
  subst h1
  exact gRet_ok ((call2 rfl rfl).trans (walk_by_ok g h))
end LW
end

section
set_option Elab.async false
set_option linter.all false
set_option maxRecDepth 100000
set_option maxHeartbeats 2000000
set_option exponentiation.threshold 100000
set_option autoImplicit false
/-! PG: means that stay through the steps. -/
namespace LW
open PySem hiding run
open L2 hiding bin
open DL

theorem due_ok {n s : Nat} {fe : Ex} {ρ : Rho} {i : Nat} {vs : List Nat} {fi : Ax} (hi : fi ρ = .ok ((List.range n).map fun k : Nat => PyData.int k)) (hn : n ≤ 1000)
    (he : ∀ k : Nat, k < n → ∃ ρ', Tgt.put (.nm i) (.int k) (wipeR ρ vs) = some ρ' ∧ fe ρ' = .ok (.tuple [.int (if (k : Int) == (s : Int) then 1 else 0), .int 1])) : comp vs (.nm i) fi yes fe ρ = .ok (vecD (unit n s)) := by
  rw [comp_ok (fun k : Nat => PyData.int k) (fun _ => true) (fun k => fr (if k = s then 1 else 0)) (List.range n) (by rw [List.length_range]; exact line_small hn) hi fun k hk => ?_]
  · rw [filter_yes]
    unfold vecD unit
    rw [List.map_map]
    rfl
  · obtain ⟨ρ', a, b⟩ := he k (List.mem_range.mp hk)
    refine ⟨ρ', a, rfl, fun _ => b.trans ?_⟩
    by_cases c : k = s
    · subst c
      rw [if_pos rfl, beq_self_eq_true, if_pos rfl]
      rfl
    · have : ((k : Int) == (s : Int)) = false := by
        rw [beq_eq_false_iff_ne]
        omega
      rw [this, if_neg c]
      rfl
/-- the mean of f by the shares -/
def E (n : Nat) (v : List Rat) (f : Nat → Rat) : Rat := S n (fun b => v.getD b 0 * f b)
theorem E_set {n : Nat} {m : List Rat} (hl : m.length = n) {k : Nat} (hk : k < n) (d : Rat) (f : Nat → Rat) : E n (m.set k (m.getD k 0 + d)) f = E n m f + d * f k := by
  unfold E
  have e : S n (fun b => (m.set k (m.getD k 0 + d)).getD b 0 * f b) = S n (fun b => m.getD b 0 * f b + (if b = k then d * f k else 0)) := S_congr fun b hb => by
    by_cases c : b = k
    · subst c
      rw [if_pos rfl, List.getD_eq_getElem?_getD, List.getElem?_set_self (by omega)]
      show (m.getD b 0 + d) * f b = _
      grind
    · rw [if_neg c, List.getD_eq_getElem?_getD, List.getElem?_set_ne (fun z => c z.symm), ← List.getD_eq_getElem?_getD, Rat.add_zero]
  rw [e, S_add, S_one (i := k) hk (fun j _ c => if_neg c), if_pos rfl]
theorem pour_len (x : Rat) : ∀ (s : Spread) (m : List Rat), (pour x m s).length = m.length
  | [], _ => rfl
  | q :: r, m => (pour_len x r _).trans List.length_set
theorem E_pour {n : Nat} (x : Rat) (f : Nat → Rat) : ∀ (s : Spread) (m : List Rat), m.length = n → (∀ q, q ∈ s → q.1 < n) → E n (pour x m s) f = E n m f + x * wsum s f
  | [], m, _, _ => by
    show E n m f = E n m f + x * 0
    rw [Rat.mul_zero, Rat.add_zero]
  | q :: r, m, hl, hq => by
    have h1 := E_pour x f r (m.set q.1 (m.getD q.1 0 + x * q.2)) (by rw [List.length_set]; exact hl) fun y hy => hq y (List.mem_cons_of_mem _ hy)
    have h2 := E_set hl (hq q List.mem_cons_self) (x * q.2) f
    have e : wsum (q :: r) f = q.2 * f q.1 + wsum r f := by
      unfold wsum
      rw [List.map_cons, List.sum_cons]
    show E n (pour x (m.set q.1 (m.getD q.1 0 + x * q.2)) r) f = _
    rw [h1, h2, e]
    grind
theorem E_step {w : Walk} (gw : GoodWk w) (v : List Rat) (f : Nat → Rat) : E w.length (step w v) f = S w.length (fun r => v.getD r 0 * wsum (w.getD r []) f) := by
  have key : ∀ k, k ≤ w.length → (stepK w v (List.range k)).length = w.length ∧ E w.length (stepK w v (List.range k)) f = S k (fun r => v.getD r 0 * wsum (w.getD r []) f) := by
    intro k
    induction k with
    | zero =>
      intro _
      refine ⟨List.length_replicate, S_zero fun j hj => ?_⟩
      have : (List.replicate w.length (0 : Rat)).getD j 0 = 0 := by
        rw [List.getD_eq_getElem?_getD, List.getElem?_replicate, if_pos hj]
        rfl
      show (List.replicate w.length (0 : Rat)).getD j 0 * f j = 0
      rw [this, Rat.zero_mul]
    | succ k ih =>
      intro hk
      obtain ⟨h1, h2⟩ := ih (by omega)
      have gs := (good_at gw (r := k) (by omega)).2
      rw [List.range_succ, stepK_snoc]
      refine ⟨(pour_len _ _ _).trans h1, ?_⟩
      rw [E_pour _ _ _ _ h1 (fun q hq => (gs.mem q hq).1), h2]
      rfl
  exact (key w.length (Nat.le_refl _)).2
theorem E_same {w : Walk} (gw : GoodWk w) {f : Nat → Rat} (hf : ∀ r, r < w.length → wsum (w.getD r []) f = f r) (v : List Rat) : ∀ k, E w.length (stepN w v k) f = E w.length v f
  | 0 => rfl
  | k + 1 => by
    show E w.length (step w (stepN w v k)) f = _
    rw [E_step gw, ← E_same gw hf v k]
    exact S_congr fun r hr => by rw [hf r hr]
theorem E_unit {n s : Nat} (h : s < n) (f : Nat → Rat) : E n (unit n s) f = f s := by
  have e : ∀ b, b < n → (unit n s).getD b 0 = if b = s then 1 else 0 := fun b hb => by
    unfold unit
    rw [List.getD_eq_getElem?_getD, List.getElem?_map, List.getElem?_range hb]
    rfl
  unfold E
  rw [S_one (i := s) h (fun j hj c => by rw [e j hj, if_neg c, Rat.zero_mul]), e s h, if_pos rfl, Rat.one_mul]
/-! chances lie between nought and one -/
theorem Chances.bounds {w : Walk} {G : List Nat} {v : List Rat} (hv : Chances w G v) (gw : GoodWk w) (hGn : ∀ g, g ∈ G → g < w.length) : ∀ b, 0 ≤ v.getD b 0 ∧ v.getD b 0 ≤ 1 := by
  open Classical in
  let R := (List.range w.length).filter fun a => decide (Come w G a) && !decide (a ∈ G)
  have hRm : ∀ a, a ∈ R ↔ a < w.length ∧ Come w G a ∧ a ∉ G := fun a => by
    show a ∈ (List.range w.length).filter _ ↔ _
    rw [List.mem_filter, List.mem_range]
    simp
  have lv : Leaves w R := fun r hr => by
    obtain ⟨h1, ⟨g, hg, p⟩, _⟩ := (hRm r).mp hr
    exact ⟨h1, g, fun z => ((hRm g).mp z).2.2 hg, p⟩
  have hout : ∀ b, b ∉ R → v.getD b 0 = 0 ∨ v.getD b 0 = 1 := fun b hb => by
    by_cases c : b ∈ G
    · exact .inr (hv.goal b c)
    · by_cases d : Come w G b
      · have : ¬ b < w.length := fun z => hb ((hRm b).mpr ⟨z, d, c⟩)
        obtain ⟨g, hg, p⟩ := d
        cases p with
        | refl _ => exact absurd (hGn _ hg) this
        | step e _ => exact absurd (edge_lt gw e).1 this
      · exact .inl (hv.lost b d)
  have hm : ∀ r, r ∈ R → v.getD r 0 = wsum (w.getD r []) (fun a => v.getD a 0) := fun r hr => by
    obtain ⟨h1, h2, h3⟩ := (hRm r).mp hr
    exact hv.mean r h1 h3 h2
  have u1 := rim gw lv (f := fun b => -1 * v.getD b 0) (fun r hr => by rw [wsum_mul, ← hm r hr]; exact Rat.le_refl) (fun b hb => by
    show -1 * v.getD b 0 ≤ 0
    rcases hout b hb with z | z <;> grind)
  have u2 := rim gw lv (f := fun b => v.getD b 0 + -1) (fun r hr => by
    have gs := (good_at gw (lv r hr).1).2
    rw [wsum_add, wsum_const, gs.sum, ← hm r hr, Rat.one_mul]
    exact Rat.le_refl) (fun b hb => by
    show v.getD b 0 + -1 ≤ 0
    rcases hout b hb with z | z <;> grind)
  intro b
  have h1 := u1 b
  have h2 := u2 b
  exact ⟨by grind, by grind⟩
theorem Chances.harm {w : Walk} {G : List Nat} {v : List Rat} (hv : Chances w G v) (gw : GoodWk w) {r : Nat} (hr : r < w.length) (hg : r ∉ G) : wsum (w.getD r []) (fun a => v.getD a 0) = v.getD r 0 := by
  by_cases c : Come w G r
  · exact (hv.mean r hr hg c).symm
  · rw [hv.lost r c]
    have : wsum (w.getD r []) (fun a => v.getD a 0) = wsum (w.getD r []) (fun _ => 0) := wsum_congr _ fun q hq => hv.lost q.1 fun ⟨g, hg2, p⟩ => c ⟨g, hg2, .step ⟨q, hq, rfl⟩ p⟩
    rw [this, wsum_const, Rat.mul_zero]
end LW
end

section
set_option Elab.async false
set_option linter.all false
set_option maxRecDepth 100000
set_option maxHeartbeats 2000000
set_option exponentiation.threshold 100000
set_option autoImplicit false
/-! PMO: choices: what a way makes of values, all picks, chances by picks. -/
namespace LW
open PySem hiding run
open L2 hiding bin
open DL
/-! ### values -/
theorem map_inj {α : Type} {f : α → D} (h : ∀ a b, f a = f b → a = b) : ∀ {xs ys : List α}, xs.map f = ys.map f → xs = ys
  | [], [], _ => rfl
  | [], y :: ys, e => by cases e
  | x :: xs, [], e => by cases e
  | x :: xs, y :: ys, e => by
    rw [List.map_cons, List.map_cons] at e
    injection e with e1 e2
    rw [h x y e1, map_inj h e2]
theorem vecD_inj {u v : List Rat} (h : vecD u = vecD v) : u = v := by
  injection h with h
  exact map_inj (fun a b e => fr_inj e) h
theorem ok_vec_inj {u v : List Rat} (h : (Res.ok (vecD u) : Res D) = .ok (vecD v)) : u = v := by
  injection h with h
  exact vecD_inj h
theorem lt_iff (a b : Rat) : (a.num * b.den < b.num * a.den) ↔ a < b := by
  have ha : 0 < a.den := Nat.pos_of_ne_zero a.den_nz
  have hb : 0 < b.den := Nat.pos_of_ne_zero b.den_nz
  exact Rat.lt_iff a b |>.symm
theorem below_of {f : List D → Res D} {N : Nat} (a b : Rat) {n m : Nat} (hf : f = run 2 (gRet (bin (bin (bin (rd 0) (kc (.int 0)) dIx) (bin (rd 1) (kc (.int 1)) dIx) dMul) (bin (bin (rd 1) (kc (.int 0)) dIx) (bin (rd 0) (kc (.int 1)) dIx) dMul) dLt))) (ha : Sz n a) (hb : Sz m b) (h : n + m ≤ 900000) (hn : 0 < n) (hm : 0 < m) : f [fr a, fr b] = .ok (.bool (decide (a < b))) := by
  subst hf
  have q0 : rd 0 [some (fr a), some (fr b)] = .ok (fr a) := rfl
  have q1 : rd 1 [some (fr a), some (fr b)] = .ok (fr b) := rfl
  refine run_rt (gRet_ok (bin_ok (rm (r0 q0) (r1 q1) ha.1 (natAbs_den b hb.2)) (rm (r0 q1) (r1 q0) hb.1 (natAbs_den a ha.2)) ?_))
  rw [lt_ii]
  congr 2
  exact decide_eq_decide.mpr (lt_iff a b)
theorem below_ok (a b : Rat) {n m : Nat} (ha : Sz n a) (hb : Sz m b) (h : n + m ≤ 900000 := by omega) (hn : 0 < n := by omega) (hm : 0 < m := by omega) : m_below [fr a, fr b] = .ok (.bool (decide (a < b))) := below_of (N := 0) a b rfl ha hb h hn hm
theorem law_below_ok (a b : Rat) {n m : Nat} (ha : Sz n a) (hb : Sz m b) (h : n + m ≤ 900000 := by omega) (hn : 0 < n := by omega) (hm : 0 < m := by omega) : m_law_below [fr a, fr b] = .ok (.bool (decide (a < b))) := below_of (N := 0) a b rfl ha hb h hn hm
abbrev val (v : List Rat) : Nat → Rat := fun a => v.getD a 0
theorem wsum_sz {n b : Nat} {s : Spread} (gs : GoodSp n s) {v : List Rat} (hv : v.length = n) (hz : ∀ q, q ∈ v → Sz b q) (hb : 0 < b) : ∀ {l : Spread}, (∀ p, p ∈ l → p ∈ s) → Sz (1 + (b + 16) * l.length) (wsum l (val v))
  | [], _ => Sz.zero (by omega)
  | p :: l, h => by
    have hp := h p List.mem_cons_self
    have hg := getD_ok (l := v) (j := p.1) (by rw [hv]; exact (gs.mem p hp).1)
    have ih := wsum_sz gs hv hz hb (l := l) fun q m => h q (List.mem_cons_of_mem _ m)
    have e : wsum (p :: l) (val v) = p.2 * v.getD p.1 0 + wsum l (val v) := by
      unfold wsum
      rw [List.map_cons, List.sum_cons]
    rw [e, List.length_cons]
    refine (((gs.sz hp).mul (hz _ hg.2)).add ih).mono ?_
    rw [Nat.mul_succ]
    omega
theorem made_of_ok {n b : Nat} {s : Spread} (gs : GoodSp n s) {v : List Rat} (hv : v.length = n) (hz : ∀ q, q ∈ v → Sz b q) (hb : 0 < b) (hb2 : b ≤ 1200) : m_made_of [spreadD s, vecD v] = .ok (fr (wsum s (val v))) := by
  have few := gs.few
  have hcm := comp_ok (vs := [2, 3]) (tg := .tp [2, 3]) (fi := itS (rd 0)) (ft := yes) (fe := callD 2 m_times (aCons (rd 3) (aCons (bin (rd 1) (rd 2) dIx) aNil))) (ρ := [some (spreadD s), some (vecD v), none, none]) prD (fun _ => true) (fun p => fr (p.2 * v.getD p.1 0)) s (line_small (by omega)) (itS_tuple rfl) (fun p hp => by
    have hg := getD_ok (l := v) (j := p.1) (by rw [hv]; exact (gs.mem p hp).1)
    refine ⟨[some (spreadD s), some (vecD v), some (.int p.1), some (fr p.2)], rfl, rfl, fun _ => ?_⟩
    exact (call2 rfl (bin_ok rfl rfl (ix_vec hg.1))).trans (times_ok ((gs.sz hp).mono (by omega)) ((hz _ hg.2).mono (by omega))))
  rw [filter_yes] at hcm
  have hs := summed_ok (v := s.map fun p => p.2 * v.getD p.1 0) fun pre x post e => by
    obtain ⟨p1, p2, hs, e1, e2⟩ := List.map_eq_append_iff.mp e
    obtain ⟨a, p3, hs2, e3, e4⟩ := List.map_eq_cons_iff.mp e2
    subst e1 e3
    have hl : p1.length ≤ 2 := by
      have := congrArg List.length hs
      rw [hs2, List.length_append, List.length_cons] at this
      omega
    have ha : a ∈ s := by rw [hs, hs2]; exact List.mem_append_right _ List.mem_cons_self
    have hg := getD_ok (l := v) (j := a.1) (by rw [hv]; exact (gs.mem a ha).1)
    constructor
    · have := wsum_sz gs hv hz hb (l := p1) fun q m => by rw [hs]; exact List.mem_append_left _ m
      refine Sz.mono this ?_
      have := Nat.mul_le_mul_left (b + 16) hl
      omega
    · exact ((gs.sz ha).mul (hz _ hg.2)).mono (by omega)
  unfold vecD at hs
  rw [List.map_map] at hs
  exact run_rt (gRet_ok ((call1 hcm).trans hs))
theorem need_rooms_gen {wd : D} {n : Nat} (hw : dLen wd = some (.int n)) {G : List Nat} (hG : G.Pairwise (· < ·)) (hGn : ∀ g, g ∈ G → g < n) : m_need_rooms [wd, intsD G] = .ok .none := by
  have room : ∀ r, r < n → m_need_room [wd, .int (r : Nat)] = .ok .none := fun r h => by
    refine run_nx (ρ := [some wd, some (.int r)]) ?_
    show gIf _ _ gSkip [some wd, some (.int r)] = _
    exact gIf_s (orT_f (notT_ok (b := true) (asB_ok ((call1 rfl).trans (is_whole_ok r)))) (orT_f (asB_ok (bin_ok rfl rfl (lt_f (by omega)))) (asB_ok (bin_ok rfl (un_ok rfl hw) (by rw [ge_ii, decide_eq_false (by omega)])))))
  obtain ⟨ρ1, e1, l, c, hl, h1⟩ := forL_pre (tg := .nm 3) (g := gSeq (gDrop (callD 2 m_need_room (aCons (rd 0) (aCons (rd 3) aNil)))) (gSeq (gIf (asB (bin (rd 3) (rd 2) dLe)) (gRaise ("NoRooms" : PySem.Str)) gSkip) (gSet 2 (rd 3)))) (fun k : Nat => PyData.int k)
    (fun pre ρ => ∃ (l : Int) (c : Option D), (l = -1 ∨ ∃ x, x ∈ pre ∧ l = (x : Nat)) ∧ ρ = [some wd, some (intsD G), some (.int l), c]) G (fun pre k post ρ e hp => by
      obtain ⟨l, c, hl, rfl⟩ := hp
      have hk : k < n := hGn k (by rw [e]; exact List.mem_append_right _ List.mem_cons_self)
      have hlt : l < k := by
        rcases hl with rfl | ⟨x, hx, rfl⟩
        · omega
        · rw [e, List.pairwise_append] at hG
          have := hG.2.2 x hx k List.mem_cons_self
          omega
      refine ⟨[some wd, some (intsD G), some (.int l), some (.int k)], _, rfl, (gSeq_nx (gDrop_ok ((call2 rfl rfl).trans (room k hk)))).trans ((gSeq_nx (gIf_s (asB_ok (bin_ok rfl rfl ?_)))).trans (gSet_ok rfl)), (k : Int), some (.int k), .inr ⟨k, List.mem_append_right _ List.mem_cons_self, rfl⟩, rfl⟩
      rw [le_ii, decide_eq_false (by omega)]) (ρ := [some wd, some (intsD G), some (.int (-1)), none]) ⟨-1, none, .inl rfl, rfl⟩
  refine run_nx (ρ := ρ1) ?_
  show gSeq _ _ [some wd, some (intsD G), none, none] = _
  refine (gSeq_nx (gIf_s (notT_ok (b := true) (asB_ok (un_ok rfl (isi_list _)))))).trans ?_
  refine (gSeq_nx (gSet_ok (neg1 _))).trans ?_
  exact gFor_nx (itS_list rfl) e1
/-! ### the values by picks -/
structure Gls (n : Nat) (G : List Nat) : Prop where
  inc : G.Pairwise (· < ·)
  lt : ∀ g, g ∈ G → g < n
open Classical in
/-- the chances by picks -/
noncomputable def vOf (c : Choice) (G p : List Nat) : List Rat := if h : ∃ v, Chances (walkBy c p) G v ∧ m_chances_of [walkD (walkBy c p), intsD G] = .ok (vecD v) then h.choose else []
section
variable {c : Choice} {G p q : List Nat}
theorem vOf_spec (g : GoodCh c) (hG : Gls c.length G) (hp : Picks c p) : Chances (walkBy c p) G (vOf c G p) ∧ m_chances_of [walkD (walkBy c p), intsD G] = .ok (vecD (vOf c G p)) := by
  have h := chances_of_ok (walkBy_good g hp) hG.inc (fun x hx => by rw [walkBy_len hp]; exact hG.lt x hx)
  unfold vOf
  rw [dif_pos h]
  exact h.choose_spec
theorem vOf_len (g : GoodCh c) (hG : Gls c.length G) (hp : Picks c p) : (vOf c G p).length = c.length := (vOf_spec g hG hp).1.len.trans (walkBy_len hp)
theorem chances_vOf (g : GoodCh c) (hG : Gls c.length G) (hp : Picks c p) : m_chances [walkD (walkBy c p), intsD G] = .ok (vecD (vOf c G p)) := by
  refine run_rt ?_
  show gSeq _ _ [some (walkD (walkBy c p)), some (intsD G)] = _
  exact (gSeq_nx (gDrop_ok ((call2 rfl rfl).trans (need_rooms_ok hG.inc fun x hx => by rw [walkBy_len hp]; exact hG.lt x hx)))).trans (gRet_ok ((call2 rfl rfl).trans (vOf_spec g hG hp).2))
/-- way k of room r -/
abbrev way (c : Choice) (r k : Nat) : Spread := (c.getD r []).getD k []
theorem row_get {r : Nat} (hr : r < c.length) : c[r]? = some (c.getD r []) ∧ c.getD r [] ∈ c := by
  have e : c.getD r [] = c[r] := by rw [List.getD_eq_getElem?_getD, List.getElem?_eq_getElem hr]; rfl
  rw [e]
  exact ⟨List.getElem?_eq_getElem hr, List.getElem_mem hr⟩
theorem way_get {r k : Nat} (g : GoodCh c) (hr : r < c.length) (hk : k < (c.getD r []).length) : (c.getD r [])[k]? = some (way c r k) ∧ GoodSp c.length (way c r k) := by
  have e : way c r k = (c.getD r [])[k] := by unfold way; rw [List.getD_eq_getElem?_getD, List.getElem?_eq_getElem hk]; rfl
  rw [e]
  exact ⟨List.getElem?_eq_getElem hk, (g.row _ (row_get hr).2).2.2 _ (List.getElem_mem hk)⟩
theorem Picks.at (h : Picks c p) {r : Nat} (hr : r < c.length) : p.getD r 0 < (c.getD r []).length ∧ p[r]? = some (p.getD r 0) := by
  have hp : r < p.length := by rw [h.len]; exact hr
  have e : p.getD r 0 = p[r] := by rw [List.getD_eq_getElem?_getD, List.getElem?_eq_getElem hp]; rfl
  rw [e]
  exact ⟨h.lt r p[r] (List.getElem?_eq_getElem hp), List.getElem?_eq_getElem hp⟩
/-- harmony by picks -/
theorem vOf_harm (g : GoodCh c) (hG : Gls c.length G) (hp : Picks c p) {r : Nat} (hr : r < c.length) (hg : r ∉ G) : wsum (way c r (p.getD r 0)) (val (vOf c G p)) = (vOf c G p).getD r 0 := by
  have := (vOf_spec g hG hp).1.harm (walkBy_good g hp) (r := r) (by rw [walkBy_len hp]; exact hr) hg
  rw [walkBy_get hp hr] at this
  exact this
theorem vOf_goal (g : GoodCh c) (hG : Gls c.length G) (hp : Picks c p) {r : Nat} (hg : r ∈ G) : (vOf c G p).getD r 0 = 1 := (vOf_spec g hG hp).1.goal r hg
theorem vOf_bounds (g : GoodCh c) (hG : Gls c.length G) (hp : Picks c p) (b : Nat) : 0 ≤ (vOf c G p).getD b 0 ∧ (vOf c G p).getD b 0 ≤ 1 := (vOf_spec g hG hp).1.bounds (walkBy_good g hp) (fun x hx => by rw [walkBy_len hp]; exact hG.lt x hx) b
theorem vOf_out (g : GoodCh c) (hG : Gls c.length G) (hp : Picks c p) {b : Nat} (hb : ¬ b < c.length) : (vOf c G p).getD b 0 = 0 := by
  rw [List.getD_eq_getElem?_getD, List.getElem?_eq_none (by rw [vOf_len g hG hp]; omega)]
  rfl
theorem vOf_sz (g : GoodCh c) (hG : Gls c.length G) (hp : Picks c p) : ∀ x, x ∈ vOf c G p → Sz 767 x := (vOf_spec g hG hp).1.sz
/-- rooms from which goals can be come to: whoever grows on the way out is no more than nought -/
theorem come_leaves (gw : GoodWk (walkBy c q)) (hq : Picks c q) : Leaves (walkBy c q) ((List.range c.length).filter fun r => decide (r ∉ G) && @decide (Come (walkBy c q) G r) (Classical.propDecidable _)) := fun r hr => by
  obtain ⟨h1, h2⟩ := List.mem_filter.mp hr
  rw [Bool.and_eq_true] at h2
  have hc := @of_decide_eq_true _ (Classical.propDecidable _) h2.2
  obtain ⟨g, hg, p⟩ := hc
  refine ⟨by rw [walkBy_len hq]; exact List.mem_range.mp h1, g, fun z => ?_, p⟩
  have := (List.mem_filter.mp z).2
  rw [Bool.and_eq_true] at this
  exact of_decide_eq_true this.1 hg
/-- f grows along the picks q outside of goals, is nought or less on goals and where no goal is come to: it is so everywhere -/
theorem grow (g : GoodCh c) (hq : Picks c q) {f : Nat → Rat} (h : ∀ r, r < c.length → r ∉ G → Come (walkBy c q) G r → f r ≤ wsum (way c r (q.getD r 0)) f) (hg : ∀ r, r ∈ G → f r ≤ 0) (hl : ∀ r, r < c.length → r ∉ G → ¬ Come (walkBy c q) G r → f r ≤ 0) (ho : ∀ r, ¬ r < c.length → f r ≤ 0) : ∀ r, f r ≤ 0 := by
  have gw := walkBy_good g hq
  refine rim gw (come_leaves (G := G) gw hq) (fun r hr => ?_) fun b hb => ?_
  · obtain ⟨h1, h2⟩ := List.mem_filter.mp hr
    rw [Bool.and_eq_true] at h2
    have h1 := List.mem_range.mp h1
    rw [walkBy_get hq h1]
    exact h r h1 (of_decide_eq_true h2.1) (@of_decide_eq_true _ (Classical.propDecidable _) h2.2)
  · by_cases hn : b < c.length
    · by_cases hbg : b ∈ G
      · exact hg b hbg
      · by_cases hc : Come (walkBy c q) G b
        · exfalso
          exact hb (List.mem_filter.mpr ⟨List.mem_range.mpr hn, by rw [Bool.and_eq_true]; exact ⟨decide_eq_true hbg, @decide_eq_true _ (Classical.propDecidable _) hc⟩⟩)
        · exact hl b hn hbg hc
    · exact ho b hn
theorem wsum_sub (s : Spread) (f g : Nat → Rat) : wsum s (fun b => f b - g b) = wsum s f - wsum s g := by
  have e : wsum s (fun b => f b - g b) = wsum s (fun b => f b + (-1) * g b) := wsum_congr s fun q _ => by grind
  rw [e, wsum_add, wsum_mul]
  grind
end
/-! ### all picks -/
def allP (c : Choice) : List (List Nat) := c.foldl (fun M ws => M.flatMap fun row => (List.range ws.length).map fun k => row ++ [k]) [[]]
theorem allP_snoc (c : Choice) (ws : List Spread) : allP (c ++ [ws]) = (allP c).flatMap fun row => (List.range ws.length).map fun k => row ++ [k] := by
  unfold allP
  rw [List.foldl_append]
  rfl
theorem picks_snoc {c : Choice} {ws : List Spread} {q : List Nat} : Picks (c ++ [ws]) q ↔ ∃ row k, Picks c row ∧ k < ws.length ∧ q = row ++ [k] := by
  have last : (c ++ [ws]).getD c.length [] = ws := by
    rw [List.getD_eq_getElem?_getD, List.getElem?_append_right (Nat.le_refl _), Nat.sub_self]
    rfl
  have left : ∀ i, i < c.length → (c ++ [ws]).getD i [] = c.getD i [] := fun i hi => by
    rw [List.getD_eq_getElem?_getD, List.getElem?_append_left hi, List.getD_eq_getElem?_getD]
  constructor
  · intro h
    have hl := h.len
    rw [List.length_append] at hl
    have hl : q.length = c.length + 1 := hl
    have hne : q ≠ [] := fun z => by rw [z] at hl; simp at hl
    refine ⟨q.dropLast, q.getLast hne, ⟨by rw [List.length_dropLast]; omega, fun i k hk => ?_⟩, ?_, (List.dropLast_concat_getLast hne).symm⟩
    · have hi : i < q.dropLast.length := (List.getElem?_eq_some_iff.mp hk).1
      rw [List.length_dropLast] at hi
      have e : q[i]? = some k := by
        rw [← hk]
        conv => lhs; rw [← List.dropLast_concat_getLast hne]
        rw [List.getElem?_append_left (by rw [List.length_dropLast]; omega)]
      have := h.lt i k e
      rw [left i (by omega)] at this
      exact this
    · have e : q[c.length]? = some (q.getLast hne) := by
        conv => lhs; rw [← List.dropLast_concat_getLast hne]
        have hd : q.dropLast.length = c.length := by rw [List.length_dropLast]; omega
        rw [List.getElem?_append_right (by omega), hd, Nat.sub_self]
        rfl
      have := h.lt c.length _ e
      rw [last] at this
      exact this
  · rintro ⟨row, k, h, hk, rfl⟩
    refine ⟨by rw [List.length_append, List.length_append, h.len]; rfl, fun i x hx => ?_⟩
    by_cases hi : i < row.length
    · rw [List.getElem?_append_left hi] at hx
      rw [left i (by rw [← h.len]; exact hi)]
      exact h.lt i x hx
    · rw [List.getElem?_append_right (by omega)] at hx
      have hi2 : i - row.length = 0 := by
        have := (List.getElem?_eq_some_iff.mp hx).1
        simp at this
        omega
      rw [hi2] at hx
      have hx : x = k := by simpa using hx.symm
      have : i = c.length := by have := h.len; omega
      rw [this, last, hx]
      exact hk
theorem snoc_induct {α : Type} {P : List α → Prop} (h0 : P []) (h1 : ∀ l a, P l → P (l ++ [a])) (l : List α) : P l := by
  have : ∀ n (l : List α), l.length = n → P l := by
    intro n
    induction n with
    | zero => intro l h; rw [List.length_eq_zero_iff.mp h]; exact h0
    | succ n ih =>
      intro l h
      have hne : l ≠ [] := fun z => by rw [z] at h; cases h
      rw [← List.dropLast_concat_getLast hne]
      exact h1 _ _ (ih _ (by rw [List.length_dropLast]; omega))
  exact this _ l rfl
theorem mem_allP (c : Choice) : ∀ q, q ∈ allP c ↔ Picks c q := by
  induction c using snoc_induct with
  | h0 =>
    intro q
    constructor
    · intro h
      have : q = [] := List.mem_singleton.mp h
      rw [this]
      exact ⟨rfl, fun i k h => by simp at h⟩
    · intro h
      have : q = [] := List.length_eq_zero_iff.mp h.len
      rw [this]
      exact List.mem_singleton.mpr rfl
  | h1 c ws ih =>
    intro q
    rw [allP_snoc, List.mem_flatMap, picks_snoc]
    constructor
    · rintro ⟨row, hr, hq⟩
      obtain ⟨k, hk, rfl⟩ := List.mem_map.mp hq
      exact ⟨row, k, (ih row).mp hr, List.mem_range.mp hk, rfl⟩
    · rintro ⟨row, k, hr, hk, rfl⟩
      exact ⟨row, (ih row).mpr hr, List.mem_map.mpr ⟨k, List.mem_range.mpr hk, rfl⟩⟩
theorem flatMap_len {α β : Type} {f : α → List β} {m : Nat} : ∀ {l : List α}, (∀ a, a ∈ l → (f a).length ≤ m) → (l.flatMap f).length ≤ l.length * m
  | [], _ => by simp
  | a :: l, h => by
    rw [List.flatMap_cons, List.length_append, List.length_cons, Nat.succ_mul]
    have h1 := h a List.mem_cons_self
    have h2 := flatMap_len (l := l) fun x m => h x (List.mem_cons_of_mem _ m)
    omega
theorem allP_len {c : Choice} (h : ∀ ws, ws ∈ c → ws.length ≤ 3) : (allP c).length ≤ 3 ^ c.length := by
  revert h
  induction c using snoc_induct with
  | h0 => intro _; decide
  | h1 c ws ih =>
    intro h
    rw [allP_snoc, List.length_append, List.length_singleton, Nat.pow_succ]
    have h1 := flatMap_len (f := fun row : List Nat => (List.range ws.length).map fun k => row ++ [k]) (m := 3) (l := allP c) fun a _ => by
      rw [List.length_map, List.length_range]
      exact h ws (List.mem_append_right _ List.mem_cons_self)
    have h2 := ih fun x m => h x (List.mem_append_left _ m)
    have := Nat.mul_le_mul_right 3 h2
    omega
theorem all_picks_ok {c : Choice} (g : GoodCh c) : m_law_all_picks [choiceD c] = .ok (.list ((allP c).map intsD)) := by
  have hi := g.hi
  have h81 : ∀ pre post : Choice, c = pre ++ post → (allP pre).length ≤ 81 := fun pre post e => by
    have h1 := allP_len (c := pre) fun ws m => (g.row ws (by rw [e]; exact List.mem_append_left _ m)).2.1
    have h2 : pre.length ≤ 4 := by
      have := congrArg List.length e
      rw [List.length_append] at this
      omega
    exact Nat.le_trans h1 (Nat.le_trans (Nat.pow_le_pow_right (by decide) h2) (by decide))
  refine run_rt ?_
  show gSeq _ _ [some (choiceD c), none, none, none, none, none] = _
  refine (gSeq_nx (gSet_ok (d := .list ((allP []).map intsD)) rfl)).trans ?_
  obtain ⟨ρ1, e1, c2, c3, c4, c5, h1⟩ := forL_pre (tg := .nm 2) (g := gSeq (gSet 3 (mkLst aNil)) (gSeq (gFor (.nm 4) (itS (rd 1)) (gFor (.nm 5) (itR1 (un (rd 2) dLen)) (gApp 3 (bin (rd 4) (mkLst (aCons (rd 5) aNil)) dAdd)))) (gSet 1 (rd 3)))) waysD
    (fun pre ρ => ∃ c2 c3 c4 c5, ρ = [some (choiceD c), some (.list ((allP pre).map intsD)), c2, c3, c4, c5]) c (fun pre ws post ρ e hp => by
      obtain ⟨c2, c3, c4, c5, rfl⟩ := hp
      have hm := h81 pre (ws :: post) e
      have hwl := (g.row ws (by rw [e]; exact List.mem_append_right _ List.mem_cons_self)).2.1
      obtain ⟨ρ2, e2, d4, d5, h2⟩ := forL_pre (tg := .nm 4) (g := gFor (.nm 5) (itR1 (un (rd 2) dLen)) (gApp 3 (bin (rd 4) (mkLst (aCons (rd 5) aNil)) dAdd))) intsD
        (fun done ρ => ∃ d4 d5, ρ = [some (choiceD c), some (.list ((allP pre).map intsD)), some (waysD ws), some (.list ((done.flatMap fun row => (List.range ws.length).map fun k => row ++ [k]).map intsD)), d4, d5]) (allP pre) (fun done row rest ρ er hp2 => by
          obtain ⟨d4, d5, rfl⟩ := hp2
          have hdl : done.length ≤ 81 := by
            have := congrArg List.length er
            rw [List.length_append] at this
            omega
          have hrl : row.length ≤ 4 := by
            have hrow := (mem_allP pre row).mp (by rw [er]; exact List.mem_append_right _ List.mem_cons_self)
            have := congrArg List.length e
            rw [List.length_append] at this
            have := hrow.len
            omega
          have hfl : (done.flatMap fun row => (List.range ws.length).map fun k => row ++ [k]).length ≤ 243 := by
            have := flatMap_len (f := fun row : List Nat => (List.range ws.length).map fun k => row ++ [k]) (m := 3) (l := done) fun a _ => by rw [List.length_map, List.length_range]; exact hwl
            omega
          obtain ⟨ρ3, e3, f5, h3⟩ := forL_pre (tg := .nm 5) (g := gApp 3 (bin (rd 4) (mkLst (aCons (rd 5) aNil)) dAdd)) (fun k : Nat => PyData.int k)
            (fun ks ρ => ∃ f5, ρ = [some (choiceD c), some (.list ((allP pre).map intsD)), some (waysD ws), some (.list (((done.flatMap fun row => (List.range ws.length).map fun k => row ++ [k]) ++ ks.map fun k => row ++ [k]).map intsD)), some (intsD row), f5]) (List.range ws.length) (fun ks k kr ρ ek hp3 => by
              obtain ⟨f5, rfl⟩ := hp3
              have hkl : ks.length ≤ 3 := by
                have := congrArg List.length ek
                rw [List.length_range, List.length_append] at this
                omega
              refine ⟨[some (choiceD c), some (.list ((allP pre).map intsD)), some (waysD ws), some (.list (((done.flatMap fun row => (List.range ws.length).map fun k => row ++ [k]) ++ ks.map fun k => row ++ [k]).map intsD)), some (intsD row), some (.int k)], [some (choiceD c), some (.list ((allP pre).map intsD)), some (waysD ws), some (.list (((done.flatMap fun row => (List.range ws.length).map fun k => row ++ [k]) ++ (ks ++ [k]).map fun k => row ++ [k]).map intsD)), some (intsD row), some (.int k)], rfl, ?_, some (.int k), rfl⟩
              refine (gApp_ok (d := intsD (row ++ [k])) (bin_ok rfl (mkLst_ok (aCons_ok rfl rfl) rfl) ?_) rfl ?_).trans ?_
              · refine (add_ll (xs := row.map fun k : Nat => PyData.int k) (ys := [.int k]) (by rw [List.length_map]; show row.length + 1 ≤ 1000; omega)).trans ?_
                unfold intsD
                rw [List.map_append]
                rfl
              · rw [List.length_map, List.length_append, List.length_map]
                omega
              · rw [List.map_append (f := fun k => row ++ [k]), ← List.append_assoc, List.map_append (l₂ := List.map (fun k => row ++ [k]) [k])]
                rfl) (ρ := [some (choiceD c), some (.list ((allP pre).map intsD)), some (waysD ws), some (.list ((done.flatMap fun row => (List.range ws.length).map fun k => row ++ [k]).map intsD)), some (intsD row), d5]) ⟨d5, by rw [List.map_nil, List.append_nil]⟩
          subst h3
          refine ⟨[some (choiceD c), some (.list ((allP pre).map intsD)), some (waysD ws), some (.list ((done.flatMap fun row => (List.range ws.length).map fun k => row ++ [k]).map intsD)), some (intsD row), d5], _, rfl, gFor_nx (itR1_nat (n := ws.length) (un_ok rfl (len_ways ws)) (by omega)) e3, some (intsD row), f5, ?_⟩
          rw [List.flatMap_append, List.flatMap_cons, List.flatMap_nil, List.append_nil])
        (ρ := [some (choiceD c), some (.list ((allP pre).map intsD)), some (waysD ws), some (.list []), c4, c5]) ⟨c4, c5, rfl⟩
      subst h2
      refine ⟨[some (choiceD c), some (.list ((allP pre).map intsD)), some (waysD ws), c3, c4, c5], [some (choiceD c), some (.list ((allP (pre ++ [ws])).map intsD)), some (waysD ws), some (.list ((allP (pre ++ [ws])).map intsD)), d4, d5], rfl, ?_, _, _, _, _, rfl⟩
      rw [allP_snoc]
      refine (gSeq_nx (gSet_ok (d := .list []) rfl)).trans ?_
      exact (gSeq_nx (gFor_nx (itS_list rfl) e2)).trans (gSet_ok rfl))
    (ρ := [some (choiceD c), some (.list ((allP []).map intsD)), none, none, none, none]) ⟨_, _, _, _, rfl⟩
  refine (gSeq_nx (gFor_nx (itS_tuple rfl) e1)).trans ?_
  subst h1
  exact gRet_ok rfl
theorem are_picks_ok {c : Choice} {p : List Nat} (g : GoodCh c) (h : Picks c p) : m_law_are_picks [choiceD c, intsD p] = .ok (.bool true) := by
  have hi := g.hi
  have hne : dNe (.int (p.length : Nat)) (.int (c.length : Nat)) = some (.bool false) := by rw [ne_int, h.len]; simp
  refine run_rt ?_
  show gSeq _ _ [some (choiceD c), some (intsD p), none] = _
  refine (gSeq_nx (gIf_s (orT_f (notT_ok (b := true) (asB_ok (un_ok rfl (isi_list _)))) (asB_ok (bin_ok (un_ok rfl (len_ints p)) (un_ok rfl (len_choice c)) hne))))).trans ?_
  obtain ⟨ρ1, e1, c2, h1⟩ := forL_pre (tg := .nm 2) (g := gIf (orT (notT (asB (callD 1 m_law_whole (aCons (bin (rd 1) (rd 2) dIx) aNil)))) (orT (asB (bin (bin (rd 1) (rd 2) dIx) (kc (.int 0)) dLt)) (asB (bin (bin (rd 1) (rd 2) dIx) (un (bin (rd 0) (rd 2) dIx) dLen) dGe)))) (gRet (kc (.bool false))) gSkip)
    (fun k : Nat => PyData.int k) (fun _ ρ => ∃ c2, ρ = [some (choiceD c), some (intsD p), c2]) (List.range c.length) (fun pre r post ρ e hp => by
      obtain ⟨c2, rfl⟩ := hp
      have hr : r < c.length := by have : r ∈ List.range c.length := (by rw [e]; exact List.mem_append_right _ List.mem_cons_self); exact List.mem_range.mp this
      obtain ⟨h1, h2⟩ := h.at hr
      refine ⟨[some (choiceD c), some (intsD p), some (.int r)], _, rfl, gIf_s (orT_f (notT_ok (b := true) (asB_ok ((call1 (bin_ok rfl rfl (ix_ints h2))).trans (law_whole_ok _)))) (orT_f (asB_ok (bin_ok (bin_ok rfl rfl (ix_ints h2)) rfl (lt_f (by omega)))) (asB_ok (bin_ok (bin_ok rfl rfl (ix_ints h2)) (un_ok (bin_ok rfl rfl (ix_choice (row_get hr).1)) (len_ways _)) (by rw [ge_ii, decide_eq_false (by omega)]))))), _, rfl⟩) (ρ := [some (choiceD c), some (intsD p), none]) ⟨none, rfl⟩
  refine (gSeq_nx (gFor_nx (itR1_nat (n := c.length) (un_ok rfl (len_choice c)) (by omega)) e1)).trans ?_
  exact gRet_ok rfl
end LW
end

section
set_option Elab.async false
set_option linter.all false
set_option maxRecDepth 100000
set_option maxHeartbeats 2000000
set_option exponentiation.threshold 100000
set_option autoImplicit false
/-! PBE: better picks; most: the picks that no others better. -/
namespace LW
open PySem hiding run
open L2 hiding bin
open DL
/-- the scan of a room's ways: (best value, pick) -/
structure Scan (v : List Rat) (ws : List Spread) (v0 : Rat) (k0 K : Nat) (b : Rat) (k : Nat) : Prop where
  or : (b = v0 ∧ k = k0 ∧ ∀ j, j < K → wsum (ws.getD j []) (val v) ≤ v0) ∨ (v0 < b ∧ b = wsum (ws.getD k []) (val v) ∧ k < ws.length)
theorem Scan.start {v : List Rat} {ws : List Spread} {v0 : Rat} {k0 : Nat} : Scan v ws v0 k0 0 v0 k0 := ⟨.inl ⟨rfl, rfl, fun j h => by omega⟩⟩
theorem Scan.keep {v : List Rat} {ws : List Spread} {v0 b : Rat} {k0 K k : Nat} (h : Scan v ws v0 k0 K b k) (hn : ¬ b < wsum (ws.getD K []) (val v)) : Scan v ws v0 k0 (K + 1) b k := by
  rcases h.or with ⟨h1, h2, h3⟩ | h
  · refine ⟨.inl ⟨h1, h2, fun j hj => ?_⟩⟩
    by_cases c : j < K
    · exact h3 j c
    · have : j = K := by omega
      subst this
      rw [h1] at hn
      grind
  · exact ⟨.inr h⟩
theorem Scan.take {v : List Rat} {ws : List Spread} {v0 b : Rat} {k0 K k : Nat} (h : Scan v ws v0 k0 K b k) (hK : K < ws.length) (hl : b < wsum (ws.getD K []) (val v)) : Scan v ws v0 k0 (K + 1) (wsum (ws.getD K []) (val v)) K := by
  refine ⟨.inr ⟨?_, rfl, hK⟩⟩
  rcases h.or with ⟨h1, _, _⟩ | ⟨h1, _, _⟩
  · rw [h1] at hl; exact hl
  · grind
/-- p' is p bettered by the values v -/
structure Better (c : Choice) (G : List Nat) (v : List Rat) (p p' : List Nat) : Prop where
  picks : Picks c p'
  room : ∀ r, r < c.length → (p'.getD r 0 = p.getD r 0 ∧ (r ∈ G ∨ ∀ k, k < (c.getD r []).length → wsum (way c r k) (val v) ≤ v.getD r 0)) ∨ (r ∉ G ∧ v.getD r 0 < wsum (way c r (p'.getD r 0)) (val v))
/-- .. up to room m -/
structure BetterTo (c : Choice) (G : List Nat) (v : List Rat) (p p' : List Nat) (m : Nat) : Prop where
  picks : Picks c p'
  room : ∀ r, r < m → r < c.length → (p'.getD r 0 = p.getD r 0 ∧ (r ∈ G ∨ ∀ k, k < (c.getD r []).length → wsum (way c r k) (val v) ≤ v.getD r 0)) ∨ (r ∉ G ∧ v.getD r 0 < wsum (way c r (p'.getD r 0)) (val v))
  rest : ∀ r, m ≤ r → p'.getD r 0 = p.getD r 0
theorem picks_set {c : Choice} {p : List Nat} (h : Picks c p) {r k : Nat} (hr : r < c.length) (hk : k < (c.getD r []).length) : Picks c (p.set r k) := by
  refine ⟨by rw [List.length_set]; exact h.len, fun i x hx => ?_⟩
  by_cases e : r = i
  · subst e
    rw [List.getElem?_set_self (by rw [h.len]; exact hr)] at hx
    cases hx
    exact hk
  · rw [List.getElem?_set_ne e] at hx
    exact h.lt i x hx
theorem getD_set_self {p : List Nat} {r k : Nat} (h : r < p.length) : (p.set r k).getD r 0 = k := by
  rw [List.getD_eq_getElem?_getD, List.getElem?_set_self h]
  rfl
theorem getD_set_ne {p : List Nat} {r i k : Nat} (h : r ≠ i) : (p.set r k).getD i 0 = p.getD i 0 := by
  rw [List.getD_eq_getElem?_getD, List.getElem?_set_ne h, List.getD_eq_getElem?_getD]
theorem set_ints (p : List Nat) (r k : Nat) : (p.map fun j : Nat => PyData.int j).set r (.int k) = (p.set r k).map fun j : Nat => PyData.int j := by rw [List.map_set]
theorem better_ok {c : Choice} {G p : List Nat} {v : List Rat} (g : GoodCh c) (hp : Picks c p) (hv : v.length = c.length) (hz : ∀ q, q ∈ v → Sz 767 q) : ∃ p', Better c G v p p' ∧ m_better [choiceD c, vecD v, intsD p, intsD G] = .ok (intsD p') := by
  have hi := g.hi
  obtain ⟨ρ1, e1, p', c5, c6, c7, c8, hB, h1⟩ := forL_pre (tg := .nm 5) (g := gSeq (gSet 6 (bin (rd 1) (rd 5) dIx)) (gFor (.nm 7) (itR1 (un (bin (rd 0) (rd 5) dIx) dLen)) (gSeq (gSet 8 (callD 2 m_made_of (aCons (bin (bin (rd 0) (rd 5) dIx) (rd 7) dIx) (aCons (rd 1) aNil)))) (gIf (andT (asB (bin (rd 5) (rd 3) dNotIn)) (asB (callD 2 m_below (aCons (rd 6) (aCons (rd 8) aNil))))) (gSeq (gSet 6 (rd 8)) (gPutL 4 (rd 5) (rd 7))) gSkip))))
    (fun k : Nat => PyData.int k) (fun pre ρ => ∃ p' c5 c6 c7 c8, BetterTo c G v p p' pre.length ∧ ρ = [some (choiceD c), some (vecD v), some (intsD p), some (intsD G), some (intsD p'), c5, c6, c7, c8]) (List.range c.length) (fun pre r post ρ e hp0 => by
      obtain ⟨p', c5, c6, c7, c8, hB, rfl⟩ := hp0
      have hr : r < c.length := by have : r ∈ List.range c.length := (by rw [e]; exact List.mem_append_right _ List.mem_cons_self); exact List.mem_range.mp this
      have hpr : pre.length = r := by
        have h1 : (List.range c.length)[pre.length]? = some r := by rw [e, List.getElem?_append_right (Nat.le_refl _), Nat.sub_self]; rfl
        have hlt := (List.getElem?_eq_some_iff.mp h1).1
        rw [List.length_range] at hlt
        rw [List.getElem?_range hlt] at h1
        exact Option.some.inj h1
      have hg := getD_ok (l := v) (j := r) (by rw [hv]; exact hr)
      obtain ⟨hrow, hrm⟩ := row_get hr
      obtain ⟨w1, w2, _⟩ := g.row _ hrm
      have hp'l : p'.length = c.length := hB.picks.len
      have erow : ∀ ρ : Rho, rd 0 ρ = .ok (choiceD c) → rd 5 ρ = .ok (.int r) → bin (rd 0) (rd 5) dIx ρ = .ok (waysD (c.getD r [])) := fun ρ h0 h5 => bin_ok h0 h5 (ix_choice hrow)
      obtain ⟨ρ2, e2, b, k, d7, d8, hS, hT, h2⟩ := forL_pre (tg := .nm 7) (g := gSeq (gSet 8 (callD 2 m_made_of (aCons (bin (bin (rd 0) (rd 5) dIx) (rd 7) dIx) (aCons (rd 1) aNil)))) (gIf (andT (asB (bin (rd 5) (rd 3) dNotIn)) (asB (callD 2 m_below (aCons (rd 6) (aCons (rd 8) aNil))))) (gSeq (gSet 6 (rd 8)) (gPutL 4 (rd 5) (rd 7))) gSkip))
        (fun k : Nat => PyData.int k) (fun ks ρ => ∃ b k d7 d8, ((r ∈ G ∧ k = p'.getD r 0) ∨ (r ∉ G ∧ Scan v (c.getD r []) (v.getD r 0) (p'.getD r 0) ks.length b k)) ∧ (b = v.getD r 0 ∨ ∃ j, j < (c.getD r []).length ∧ b = wsum (way c r j) (val v)) ∧ ρ = [some (choiceD c), some (vecD v), some (intsD p), some (intsD G), some (intsD (p'.set r k)), some (.int r), some (fr b), d7, d8]) (List.range (c.getD r []).length) (fun ks K rest ρ ek hp2 => by
          obtain ⟨b, k, d7, d8, hS, hT, rfl⟩ := hp2
          have hK : K < (c.getD r []).length := by have : K ∈ List.range (c.getD r []).length := (by rw [ek]; exact List.mem_append_right _ List.mem_cons_self); exact List.mem_range.mp this
          have hksK : ks.length = K := by
            have h1 : (List.range (c.getD r []).length)[ks.length]? = some K := by rw [ek, List.getElem?_append_right (Nat.le_refl _), Nat.sub_self]; rfl
            have hlt := (List.getElem?_eq_some_iff.mp h1).1
            rw [List.length_range] at hlt
            rw [List.getElem?_range hlt] at h1
            exact Option.some.inj h1
          obtain ⟨hway, gs⟩ := way_get g hr hK
          have few := gs.few
          have szw : ∀ {s : Spread}, GoodSp c.length s → Sz 2400 (wsum s (val v)) := fun {s} gs => by
            have := wsum_sz gs hv hz (by decide) (l := s) fun q m => m
            refine Sz.mono this ?_
            have := Nat.mul_le_mul_left (767 + 16) gs.few
            omega
          have hbz : Sz 2400 b := by
            rcases hT with rfl | ⟨j, hj, rfl⟩
            · exact (hz _ hg.2).mono (by omega)
            · exact szw (way_get g hr hj).2
          have em : callD 2 m_made_of (aCons (bin (bin (rd 0) (rd 5) dIx) (rd 7) dIx) (aCons (rd 1) aNil)) [some (choiceD c), some (vecD v), some (intsD p), some (intsD G), some (intsD (p'.set r k)), some (.int r), some (fr b), some (.int K), d8] = .ok (fr (wsum (way c r K) (val v))) := (call2 (bin_ok (erow _ rfl rfl) rfl (ix_ways hway)) rfl).trans (made_of_ok gs hv hz (by decide) (by decide))
          have en : asB (bin (rd 5) (rd 3) dNotIn) [some (choiceD c), some (vecD v), some (intsD p), some (intsD G), some (intsD (p'.set r k)), some (.int r), some (fr b), some (.int K), some (fr (wsum (way c r K) (val v)))] = .ok (!decide (r ∈ G)) := asB_ok (bin_ok rfl rfl (notIn_ints G r))
          have eb : asB (callD 2 m_below (aCons (rd 6) (aCons (rd 8) aNil))) [some (choiceD c), some (vecD v), some (intsD p), some (intsD G), some (intsD (p'.set r k)), some (.int r), some (fr b), some (.int K), some (fr (wsum (way c r K) (val v)))] = .ok (decide (b < wsum (way c r K) (val v))) := asB_ok ((call2 rfl rfl).trans (below_ok b _ hbz (szw gs)))
          by_cases hG : r ∈ G
          · rw [decide_eq_true hG] at en
            refine ⟨[some (choiceD c), some (vecD v), some (intsD p), some (intsD G), some (intsD (p'.set r k)), some (.int r), some (fr b), some (.int K), d8], _, rfl, (gSeq_nx (gSet_ok em)).trans (gIf_s (andT_f en)), b, k, some (.int K), some (fr (wsum (way c r K) (val v))), ?_, hT, rfl⟩
            rcases hS with h | ⟨h, _⟩
            · exact .inl h
            · exact absurd hG h
          · rw [decide_eq_false hG] at en
            have hS : Scan v (c.getD r []) (v.getD r 0) (p'.getD r 0) ks.length b k := by
              rcases hS with ⟨h, _⟩ | ⟨_, h⟩
              · exact absurd h hG
              · exact h
            by_cases hb : b < wsum (way c r K) (val v)
            · rw [decide_eq_true hb] at eb
              refine ⟨[some (choiceD c), some (vecD v), some (intsD p), some (intsD G), some (intsD (p'.set r k)), some (.int r), some (fr b), some (.int K), d8], [some (choiceD c), some (vecD v), some (intsD p), some (intsD G), some (intsD (p'.set r K)), some (.int r), some (fr (wsum (way c r K) (val v))), some (.int K), some (fr (wsum (way c r K) (val v)))], rfl, (gSeq_nx (gSet_ok em)).trans ((gIf_t (andT_t en eb)).trans ((gSeq_nx (gSet_ok rfl)).trans ?_)), wsum (way c r K) (val v), K, some (.int K), some (fr (wsum (way c r K) (val v))), .inr ⟨hG, ?_⟩, .inr ⟨K, hK, rfl⟩, rfl⟩
              · refine (gPutL_ok (l := (p'.set r k).map fun j : Nat => PyData.int j) (k := (r : Int)) (d := .int K) rfl rfl rfl (lSet_nat (by rw [List.length_map, List.length_set, hp'l]; exact hr))).trans ?_
                rw [set_ints, List.set_set]
                rfl
              · rw [List.length_append, hksK] at *
                exact hS.take hK hb
            · rw [decide_eq_false hb] at eb
              refine ⟨[some (choiceD c), some (vecD v), some (intsD p), some (intsD G), some (intsD (p'.set r k)), some (.int r), some (fr b), some (.int K), d8], _, rfl, (gSeq_nx (gSet_ok em)).trans (gIf_s (andT_t en eb)), b, k, some (.int K), some (fr (wsum (way c r K) (val v))), .inr ⟨hG, ?_⟩, hT, rfl⟩
              rw [List.length_append, hksK] at *
              exact hS.keep hb) (ρ := [some (choiceD c), some (vecD v), some (intsD p), some (intsD G), some (intsD (p'.set r (p'.getD r 0))), some (.int r), some (fr (v.getD r 0)), c7, c8]) ⟨v.getD r 0, p'.getD r 0, c7, c8, (by
            by_cases hG : r ∈ G
            · exact .inl ⟨hG, rfl⟩
            · exact .inr ⟨hG, .start⟩), .inl rfl, rfl⟩
      have hset : p'.set r (p'.getD r 0) = p' := by
        apply List.ext_getElem?
        intro i
        by_cases c : r = i
        · subst c
          rw [List.getElem?_set_self (by rw [hp'l]; exact hr), (hB.picks.at hr).2]
        · rw [List.getElem?_set_ne c]
      rw [hset] at e2
      subst h2
      have hrest := hB.rest r (by omega)
      refine ⟨[some (choiceD c), some (vecD v), some (intsD p), some (intsD G), some (intsD p'), some (.int r), c6, c7, c8], _, rfl, (gSeq_nx (gSet_ok (bin_ok rfl rfl (ix_vec hg.1)))).trans (gFor_nx (itR1_nat (n := (c.getD r []).length) (un_ok (erow _ rfl rfl) (len_ways _)) (by omega)) e2), p'.set r k, some (.int r), some (fr b), d7, d8, ?_, rfl⟩
      rw [List.length_append, hpr]
      have hk : k < (c.getD r []).length := by
        rcases hS with ⟨_, rfl⟩ | ⟨_, h⟩
        · exact (hB.picks.at hr).1
        · rcases h.or with ⟨_, rfl, _⟩ | ⟨_, _, h⟩
          · exact (hB.picks.at hr).1
          · exact h
      refine ⟨picks_set hB.picks hr hk, fun i h1 h2 => ?_, fun i h1 => ?_⟩
      · by_cases ei : r = i
        · subst ei
          rw [getD_set_self (by rw [hp'l]; exact hr)]
          rcases hS with ⟨hG, rfl⟩ | ⟨hG, h⟩
          · exact .inl ⟨hrest, .inl hG⟩
          · rw [List.length_range] at h
            rcases h.or with ⟨_, rfl, h3⟩ | ⟨h3, h4, _⟩
            · exact .inl ⟨hrest, .inr h3⟩
            · exact .inr ⟨hG, by rw [h4] at h3; exact h3⟩
        · rw [getD_set_ne ei]
          exact hB.room i (by rw [List.length_singleton] at h1; omega) h2
      · rw [List.length_singleton] at h1
        rw [getD_set_ne (by omega)]
        exact hB.rest i (by omega)) (ρ := [some (choiceD c), some (vecD v), some (intsD p), some (intsD G), some (intsD p), none, none, none, none]) ⟨p, none, none, none, none, ⟨hp, fun r h => absurd h (Nat.not_lt_zero r), fun r _ => rfl⟩, rfl⟩
  refine ⟨p', ⟨hB.picks, fun r hr => hB.room r (by rw [List.length_range]; exact hr) hr⟩, run_rt ?_⟩
  show gSeq _ _ [some (choiceD c), some (vecD v), some (intsD p), some (intsD G), none, none, none, none, none] = _
  refine (gSeq_nx (gSet_ok (un_ok rfl (list_ints p)))).trans ?_
  refine (gSeq_nx (gFor_nx (itR1_nat (n := c.length) (un_ok rfl (len_choice c)) (by omega)) e1)).trans ?_
  subst h1
  exact gRet_ok rfl
/-! ### bettered picks are better; none better: none is -/
section
variable {c : Choice} {G p p' q : List Nat}
theorem better_up (g : GoodCh c) (hG : Gls c.length G) (hp : Picks c p) (hB : Better c G (vOf c G p) p p') : ∀ r, (vOf c G p).getD r 0 ≤ (vOf c G p').getD r 0 := by
  have hp' := hB.picks
  have gw' := walkBy_good g hp'
  -- what the new way makes of the old values
  have up : ∀ r, r < c.length → r ∉ G → (vOf c G p).getD r 0 ≤ wsum (way c r (p'.getD r 0)) (val (vOf c G p)) := fun r hr hg => by
    rcases hB.room r hr with ⟨h1, _⟩ | ⟨_, h⟩
    · rw [h1, vOf_harm g hG hp hr hg]
      exact Rat.le_refl
    · grind
  -- where no goal is come to by the new picks, there is nought by the old ones
  have lost : ∀ r, r < c.length → ¬ Come (walkBy c p') G r → (vOf c G p).getD r 0 ≤ 0 := by
    let L := (List.range c.length).filter fun r => @decide (¬ Come (walkBy c p') G r) (Classical.propDecidable _)
    have hL : ∀ r, r ∈ L ↔ r < c.length ∧ ¬ Come (walkBy c p') G r := fun r => by
      show r ∈ List.filter _ _ ↔ _
      rw [List.mem_filter, List.mem_range, @decide_eq_true_iff _ (Classical.propDecidable _)]
    intro r hr hc
    refine Classical.byContradiction fun hpos => ?_
    obtain ⟨t, ht, top⟩ := top_of (fun r => (vOf c G p).getD r 0) L (fun z => by have := (hL r).mpr ⟨hr, hc⟩; rw [z] at this; cases this)
    have htop : 0 < (vOf c G p).getD t 0 := by have := top r ((hL r).mpr ⟨hr, hc⟩); grind
    obtain ⟨ht1, ht2⟩ := (hL t).mp ht
    -- from t, by the old picks: the value stays, the rooms stay in L
    have stay : ∀ a b, Path (walkBy c p) a b → a ∈ L → (vOf c G p).getD a 0 = (vOf c G p).getD t 0 → b ∈ L ∧ (vOf c G p).getD b 0 = (vOf c G p).getD t 0 := by
      intro a b path
      induction path with
      | refl a => exact fun h1 h2 => ⟨h1, h2⟩
      | step ed _ ih =>
        rename_i a b' c' _
        intro h1 h2
        obtain ⟨ha1, ha2⟩ := (hL a).mp h1
        have haG : a ∉ G := fun z => ha2 ⟨a, z, .refl a⟩
        -- the new way of a leads into L alone
        have ups := up a ha1 haG
        obtain ⟨_, gs'⟩ := way_get g ha1 (hp'.at ha1).1
        have succ' : ∀ x, x ∈ way c a (p'.getD a 0) → x.1 ∈ L := fun x hx => by
          refine (hL x.1).mpr ⟨(gs'.mem x hx).1, fun ⟨y, hy, py⟩ => ha2 ⟨y, hy, .step (b := x.1) ⟨x, ?_, rfl⟩ py⟩⟩
          rw [walkBy_get hp' ha1]
          exact hx
        have le' : ∀ x, x ∈ way c a (p'.getD a 0) → (vOf c G p).getD x.1 0 ≤ (vOf c G p).getD t 0 := fun x hx => top x.1 (succ' x hx)
        have eqs := mean_top gs' (f := val (vOf c G p)) (M := (vOf c G p).getD t 0) le' (by rw [← h2]; exact ups)
        -- no gain there: the pick is the old one
        have same : p'.getD a 0 = p.getD a 0 := by
          rcases hB.room a ha1 with ⟨h, _⟩ | ⟨_, h⟩
          · exact h
          · exfalso
            have : wsum (way c a (p'.getD a 0)) (val (vOf c G p)) = (vOf c G p).getD t 0 := by
              rw [wsum_congr (g := fun _ => (vOf c G p).getD t 0) _ eqs, wsum_const, gs'.sum, Rat.one_mul]
            rw [this, h2] at h
            grind
        obtain ⟨x, hx, rfl⟩ := ed
        rw [walkBy_get hp ha1, ← same] at hx
        exact ih (succ' x hx) (eqs x hx)
    have hcome : Come (walkBy c p) G t := Classical.byContradiction fun hc => by
      have := (vOf_spec g hG hp).1.lost t hc
      rw [this] at htop
      exact absurd htop (by decide)
    obtain ⟨y, hy, py⟩ := hcome
    have := (stay t y py ht rfl).1
    exact ((hL y).mp this).2 ⟨y, hy, .refl y⟩
  let f : Nat → Rat := fun r => (vOf c G p).getD r 0 - (vOf c G p').getD r 0
  have key := grow (G := G) g hp' (f := f) (fun r hr hg _ => by
    have e : wsum (way c r (p'.getD r 0)) f = wsum (way c r (p'.getD r 0)) (val (vOf c G p)) - wsum (way c r (p'.getD r 0)) (val (vOf c G p')) := wsum_sub _ _ _
    rw [e, vOf_harm g hG hp' hr hg]
    have := up r hr hg
    show (vOf c G p).getD r 0 - (vOf c G p').getD r 0 ≤ _
    grind) (fun r hg => by
    show (vOf c G p).getD r 0 - (vOf c G p').getD r 0 ≤ 0
    rw [vOf_goal g hG hp hg, vOf_goal g hG hp' hg]
    grind) (fun r hr hg hc => by
    have h1 := lost r hr hc
    have h2 := (vOf_bounds g hG hp' r).1
    show (vOf c G p).getD r 0 - (vOf c G p').getD r 0 ≤ 0
    grind) (fun r hr => by
    show (vOf c G p).getD r 0 - (vOf c G p').getD r 0 ≤ 0
    rw [vOf_out g hG hp hr, vOf_out g hG hp' hr]
    grind)
  intro r
  have := key r
  have e : f r = (vOf c G p).getD r 0 - (vOf c G p').getD r 0 := rfl
  grind
theorem better_more (g : GoodCh c) (hG : Gls c.length G) (hp : Picks c p) (hB : Better c G (vOf c G p) p p') {r : Nat} (hr : r < c.length) (hne : p'.getD r 0 ≠ p.getD r 0) : (vOf c G p).getD r 0 < (vOf c G p').getD r 0 := by
  have hp' := hB.picks
  rcases hB.room r hr with ⟨h, _⟩ | ⟨hg, h⟩
  · exact absurd h hne
  · have up := better_up g hG hp hB
    obtain ⟨_, gs'⟩ := way_get g hr (hp'.at hr).1
    have := wsum_le (way c r (p'.getD r 0)) (val (vOf c G p)) (val (vOf c G p')) (fun q hq => (gs'.mem q hq).2.1) (fun q _ => up q.1)
    rw [vOf_harm g hG hp' hr hg] at this
    grind
/-- no way has more than the room: no picks have -/
theorem best_of (g : GoodCh c) (hG : Gls c.length G) (hp : Picks c p) (hb : ∀ r, r < c.length → r ∉ G → ∀ k, k < (c.getD r []).length → wsum (way c r k) (val (vOf c G p)) ≤ (vOf c G p).getD r 0) (hq : Picks c q) : ∀ r, (vOf c G q).getD r 0 ≤ (vOf c G p).getD r 0 := by
  let f : Nat → Rat := fun r => (vOf c G q).getD r 0 - (vOf c G p).getD r 0
  have key := grow (G := G) g hq (f := f) (fun r hr hg _ => by
    have e : wsum (way c r (q.getD r 0)) f = wsum (way c r (q.getD r 0)) (val (vOf c G q)) - wsum (way c r (q.getD r 0)) (val (vOf c G p)) := wsum_sub _ _ _
    rw [e, vOf_harm g hG hq hr hg]
    have := hb r hr hg _ (hq.at hr).1
    show (vOf c G q).getD r 0 - (vOf c G p).getD r 0 ≤ _
    grind) (fun r hg => by
    show (vOf c G q).getD r 0 - (vOf c G p).getD r 0 ≤ 0
    rw [vOf_goal g hG hp hg, vOf_goal g hG hq hg]
    grind) (fun r hr hg hc => by
    have h1 := (vOf_spec g hG hq).1.lost r hc
    have h2 := (vOf_bounds g hG hp r).1
    show (vOf c G q).getD r 0 - (vOf c G p).getD r 0 ≤ 0
    rw [h1]
    grind) (fun r hr => by
    show (vOf c G q).getD r 0 - (vOf c G p).getD r 0 ≤ 0
    rw [vOf_out g hG hp hr, vOf_out g hG hq hr]
    grind)
  intro r
  have := key r
  have e : f r = (vOf c G q).getD r 0 - (vOf c G p).getD r 0 := rfl
  grind
theorem picks_ext (hp : Picks c p) (hq : Picks c q) (h : ∀ r, r < c.length → p.getD r 0 = q.getD r 0) : p = q := by
  apply List.ext_getElem?
  intro i
  by_cases hi : i < c.length
  · rw [(hp.at hi).2, (hq.at hi).2, h i hi]
  · rw [List.getElem?_eq_none (by rw [hp.len]; omega), List.getElem?_eq_none (by rw [hq.len]; omega)]
/-- how much together -/
noncomputable def sumOf (c : Choice) (G p : List Nat) : Rat := S c.length fun r => (vOf c G p).getD r 0
theorem S_le {n : Nat} {f h : Nat → Rat} (e : ∀ j, j < n → f j ≤ h j) : S n f ≤ S n h := by
  induction n with
  | zero => exact Rat.le_refl
  | succ n ih =>
    have h1 := ih fun j hj => e j (by omega)
    have h2 := e n (by omega)
    show S n f + f n ≤ S n h + h n
    grind
theorem S_lt {n r : Nat} {f h : Nat → Rat} (e : ∀ j, j < n → f j ≤ h j) (hr : r < n) (hl : f r < h r) : S n f < S n h := by
  induction n with
  | zero => omega
  | succ n ih =>
    have h2 := e n (by omega)
    show S n f + f n < S n h + h n
    by_cases c : r = n
    · subst c
      have h1 := S_le (n := r) (f := f) (h := h) fun j hj => e j (by omega)
      grind
    · have h1 := ih (fun j hj => e j (by omega)) (by omega)
      grind
theorem better_sum (g : GoodCh c) (hG : Gls c.length G) (hp : Picks c p) (hB : Better c G (vOf c G p) p p') (hne : p' ≠ p) : sumOf c G p < sumOf c G p' := by
  obtain ⟨r, hr⟩ : ∃ r, ¬ (r < c.length → p'.getD r 0 = p.getD r 0) := Classical.byContradiction fun z => hne (picks_ext hB.picks hp fun r hr => Classical.byContradiction fun y => z ⟨r, fun x => y (x hr)⟩)
  obtain ⟨hr1, hr2⟩ := Classical.not_imp.mp hr
  exact S_lt (fun j _ => better_up g hG hp hB j) hr1 (better_more g hG hp hB hr1 hr2)
/-- how many picks have more together -/
noncomputable def moreThan (c : Choice) (F : List Nat → Rat) (p : List Nat) : Nat := ((allP c).filter fun q => decide (F p < F q)).length
theorem moreThan_lt {F : List Nat → Rat} {p q : List Nat} (hq : Picks c q) (h : F p < F q) : moreThan c F q < moreThan c F p := by
  unfold moreThan
  have key : ∀ (l : List (List Nat)), ((l.filter fun x => decide (F q < F x)).length ≤ (l.filter fun x => decide (F p < F x)).length) ∧ (q ∈ l → (l.filter fun x => decide (F q < F x)).length < (l.filter fun x => decide (F p < F x)).length) := by
    intro l
    induction l with
    | nil => exact ⟨Nat.le_refl _, fun z => by cases z⟩
    | cons a l ih =>
      obtain ⟨i1, i2⟩ := ih
      by_cases c1 : F q < F a
      · have c2 : F p < F a := by grind
        rw [List.filter_cons_of_pos (p := fun x => decide (F q < F x)) (decide_eq_true c1), List.filter_cons_of_pos (p := fun x => decide (F p < F x)) (decide_eq_true c2), List.length_cons, List.length_cons]
        refine ⟨by omega, fun m => ?_⟩
        rcases List.mem_cons.mp m with rfl | m
        · exact absurd c1 (by grind)
        · have := i2 m; omega
      · rw [List.filter_cons_of_neg (p := fun x => decide (F q < F x)) (by rw [decide_eq_true_iff]; exact c1)]
        by_cases c2 : F p < F a
        · rw [List.filter_cons_of_pos (p := fun x => decide (F p < F x)) (decide_eq_true c2), List.length_cons]
          exact ⟨by omega, fun m => by omega⟩
        · rw [List.filter_cons_of_neg (p := fun x => decide (F p < F x)) (by rw [decide_eq_true_iff]; exact c2)]
          refine ⟨i1, fun m => ?_⟩
          rcases List.mem_cons.mp m with rfl | m
          · exact absurd h c2
          · exact i2 m
  exact (key (allP c)).2 ((mem_allP c q).mpr hq)
/-- what most tells -/
structure Most (c : Choice) (G p : List Nat) : Prop where
  picks : Picks c p
  best : ∀ r, r < c.length → r ∉ G → ∀ k, k < (c.getD r []).length → wsum (way c r k) (val (vOf c G p)) ≤ (vOf c G p).getD r 0
theorem most_of (hp : Picks c p) (hB : Better c G (vOf c G p) p p) (hpB : ∀ r, r < c.length → r ∉ G → ¬ (vOf c G p).getD r 0 < wsum (way c r (p.getD r 0)) (val (vOf c G p))) : Most c G p := ⟨hp, fun r hr hg k hk => by
  rcases hB.room r hr with ⟨_, h⟩ | ⟨_, h⟩
  · rcases h with h | h
    · exact absurd h hg
    · exact h k hk
  · exact absurd h (hpB r hr hg)⟩
theorem ne_ints2 (p q : List Nat) : dNe (intsD p) (intsD q) = some (.bool (!decide (p = q))) := ne_ints p q
theorem zeros_picks (g : GoodCh c) : Picks c (List.replicate c.length 0) := ⟨List.length_replicate, fun i k h => by
  obtain ⟨h1, h2⟩ := List.getElem?_eq_some_iff.mp h
  rw [List.length_replicate] at h1
  rw [List.getElem_replicate] at h2
  subst h2
  have := (g.row _ (row_get h1).2).1
  omega⟩
theorem most_ok (g : GoodCh c) (hG : Gls c.length G) : ∃ p, Most c G p ∧ m_most [choiceD c, intsD G] = .ok (.tuple [vecD (vOf c G p), intsD p]) := by
  have hi := g.hi
  have hz := zeros_picks g
  have ec : ∀ (p : List Nat), Picks c p → ∀ ρ : Rho, rd 0 ρ = .ok (choiceD c) → rd 1 ρ = .ok (intsD G) → rd 2 ρ = .ok (intsD p) → callD 2 m_chances_of (aCons (callD 2 m_walk_by (aCons (rd 0) (aCons (rd 2) aNil))) (aCons (rd 1) aNil)) ρ = .ok (vecD (vOf c G p)) := fun p hp ρ h0 h1 h2 =>
    (call2 ((call2 h0 h2).trans (walk_by_ok g hp)) h1).trans (vOf_spec g hG hp).2
  have eb : ∀ (p : List Nat), Picks c p → ∃ p', Better c G (vOf c G p) p p' ∧ ∀ ρ : Rho, rd 0 ρ = .ok (choiceD c) → rd 1 ρ = .ok (intsD G) → rd 2 ρ = .ok (intsD p) → rd 3 ρ = .ok (vecD (vOf c G p)) → callD 4 m_better (aCons (rd 0) (aCons (rd 3) (aCons (rd 2) (aCons (rd 1) aNil)))) ρ = .ok (intsD p') := fun p hp => by
    obtain ⟨p', hB, e⟩ := better_ok (G := G) g hp (vOf_len g hG hp) (vOf_sz g hG hp)
    exact ⟨p', hB, fun ρ h0 h1 h2 h3 => (call4 h0 h3 h2 h1).trans e⟩
  obtain ⟨p0', hB0, e0⟩ := eb _ hz
  obtain ⟨ρ1, ew, p, hM, h1⟩ := gWh_fall (T := List Nat × List Nat) (c := asB (bin (rd 4) (rd 2) dNe)) (g := gSeq (gSet 2 (rd 4)) (gSeq (gSet 3 (callD 2 m_chances_of (aCons (callD 2 m_walk_by (aCons (rd 0) (aCons (rd 2) aNil))) (aCons (rd 1) aNil)))) (gSet 4 (callD 4 m_better (aCons (rd 0) (aCons (rd 3) (aCons (rd 2) (aCons (rd 1) aNil)))))))) 
    (fun s ρ => Picks c s.1 ∧ Better c G (vOf c G s.1) s.1 s.2 ∧ ρ = [some (choiceD c), some (intsD G), some (intsD s.1), some (vecD (vOf c G s.1)), some (intsD s.2), none]) (fun s => moreThan c (sumOf c G) s.1)
    (fun ρ => ∃ p, Most c G p ∧ ρ = [some (choiceD c), some (intsD G), some (intsD p), some (vecD (vOf c G p)), some (intsD p), none]) (fun s ρ hI => by
      obtain ⟨p, p'⟩ := s
      obtain ⟨hp, hB, rfl⟩ := hI
      have et : asB (bin (rd 4) (rd 2) dNe) [some (choiceD c), some (intsD G), some (intsD p), some (vecD (vOf c G p)), some (intsD p'), none] = .ok (!decide (p' = p)) := asB_ok (bin_ok rfl rfl (ne_ints2 p' p))
      by_cases hpp : p' = p
      · subst hpp
        rw [decide_eq_true rfl] at et
        refine .inl ⟨et, p', most_of hp hB fun r hr hg => ?_, rfl⟩
        rw [vOf_harm g hG hp hr hg]
        grind
      · rw [decide_eq_false hpp] at et
        obtain ⟨p2, hB2, e2⟩ := eb p' hB.picks
        refine .inr ⟨et, (p', p2), [some (choiceD c), some (intsD G), some (intsD p'), some (vecD (vOf c G p')), some (intsD p2), none], ?_, ⟨hB.picks, hB2, rfl⟩, moreThan_lt hB.picks (better_sum g hG hp hB hpp)⟩
        refine (gSeq_nx (gSet_ok rfl)).trans ?_
        refine (gSeq_nx (gSet_ok (ec p' hB.picks _ rfl rfl rfl))).trans ?_
        exact gSet_ok (e2 _ rfl rfl rfl rfl)) (List.replicate c.length 0, p0') _ ⟨hz, hB0, rfl⟩
  refine ⟨p, hM, run_rt ?_⟩
  show gSeq _ _ [some (choiceD c), some (intsD G), none, none, none, none] = _
  refine (gSeq_nx (gDrop_ok ((call2 rfl rfl).trans (need_rooms_gen (len_choice c) hG.inc hG.lt)))).trans ?_
  have hzz : comp [5] (.nm 5) (itS (rd 0)) yes (kc (.int 0)) [some (choiceD c), some (intsD G), none, none, none, none] = .ok (intsD (List.replicate c.length 0)) := by
    rw [comp_const (enc := waysD) (l := c) (d := .int 0) (fe := kc (.int 0)) (.inl rfl) (line_small (by omega)) (fun ρ => rfl)]
    unfold intsD
    rw [List.map_replicate]
    rfl
  refine (gSeq_nx (gSet_ok hzz)).trans ?_
  refine (gSeq_nx (gSet_ok (ec _ hz _ rfl rfl rfl))).trans ?_
  refine (gSeq_nx (gSet_ok (e0 _ rfl rfl rfl rfl))).trans ?_
  refine (gSeq_nx ew).trans ?_
  subst h1
  exact gRet_ok (mkTup_ok (aCons_ok rfl (aCons_ok rfl rfl)) rfl)
end
end LW
end

section
set_option Elab.async false
set_option linter.all false
set_option maxRecDepth 100000
set_option maxHeartbeats 2000000
set_option exponentiation.threshold 100000
set_option autoImplicit false
/-! PWA: waits. -/
namespace LW
open PySem hiding run
open L2 hiding bin
open DL
theorem law_made_at {n b : Nat} {s : Spread} (gs : GoodSp n s) {ds : List D} {f : Nat → Rat} (hz : ∀ p, p ∈ s → ds[p.1]? = some (fr (f p.1)) ∧ Sz b (f p.1)) (hb : 0 < b) (hb2 : b ≤ 1200) :
    m_law_made [spreadD s, .list ds] = .ok (fr (wsum s f)) ∧ Sz (1 + (b + 16) * s.length) (wsum s f) := by
  obtain ⟨ρ1, e1, c, h1, hsz⟩ := forL_pre (tg := .nm 3) (g := gSet 2 (callD 3 m_law_add (aCons (rd 2) (aCons (bin (rd 3) (kc (.int 1)) dIx) (aCons (bin (rd 1) (bin (rd 3) (kc (.int 0)) dIx) dIx) aNil))))) prD
    (fun pre ρ => ∃ c, ρ = [some (spreadD s), some (.list ds), some (fr (wsum pre f)), c] ∧ Sz (1 + (b + 16) * pre.length) (wsum pre f)) s (fun pre q post ρ e hp => by
      obtain ⟨c, rfl, ha⟩ := hp
      have hq : q ∈ s := by rw [e]; exact List.mem_append_right _ List.mem_cons_self
      have hpre : pre.length ≤ 2 := by
        have h1 := congrArg List.length e
        rw [List.length_append, List.length_cons] at h1
        have := gs.few
        omega
      obtain ⟨hg1, hg2⟩ := hz q hq
      have hl : 1 + (b + 16) * pre.length ≤ 2500 := by
        have := Nat.mul_le_mul_left (b + 16) hpre
        omega
      refine ⟨[some (spreadD s), some (.list ds), some (fr (wsum pre f)), some (prD q)], _, rfl, gSet_ok ((call3 rfl (bin_ok rfl rfl (atI1 _ _ _)) (bin_ok rfl (bin_ok rfl rfl (atI0 _ _)) (ix_list hg1))).trans (law_add_ok (ha.mono hl) ((gs.sz hq).mono (by decide)) (hg2.mono (by omega)))), some (prD q), ?_, ?_⟩
      · rw [wsum_snoc, Rat.mul_comm q.2]
        rfl
      · rw [wsum_snoc, List.length_append]
        refine (ha.add ((gs.sz hq).mul hg2)).mono ?_
        show _ ≤ 1 + (b + 16) * (pre.length + 1)
        rw [Nat.mul_succ]
        omega)
    (ρ := [some (spreadD s), some (.list ds), some (fr 0), none]) ⟨none, rfl, Sz.zero (by omega)⟩
  refine ⟨run_rt ?_, hsz⟩
  show gSeq _ _ [some (spreadD s), some (.list ds), none, none] = _
  refine (gSeq_nx (gSet_ok (mkTup_ok (aCons_ok rfl (aCons_ok rfl rfl)) rfl))).trans ?_
  refine (gSeq_nx (gFor_nx (itS_tuple rfl) e1)).trans ?_
  subst h1
  exact gRet_ok rfl
theorem range_set {n r : Nat} (f : Nat → D) (x : D) : ((List.range n).map f).set r x = (List.range n).map fun j => if j = r then x else f j := by
  apply List.ext_getElem?
  intro j
  by_cases h : j < n
  · rw [List.getElem?_set, List.getElem?_map, List.getElem?_map, List.getElem?_range h, List.length_map, List.length_range]
    by_cases c : r = j
    · subst c
      rw [if_pos rfl, if_pos h]
      show some x = some (if r = r then x else f r)
      rw [if_pos rfl]
    · rw [if_neg c]
      show some (f j) = some (if j = r then x else f j)
      rw [if_neg fun z => c z.symm]
  · rw [List.getElem?_eq_none (by rw [List.length_set, List.length_map, List.length_range]; omega), List.getElem?_eq_none (by rw [List.length_map, List.length_range]; omega)]
theorem range_get {n r : Nat} (f : Nat → D) (h : r < n) : ((List.range n).map f)[r]? = some (f r) := by
  rw [List.getElem?_map, List.getElem?_range h]
  rfl
theorem vec_range {n : Nat} {v : List Rat} (h : v.length = n) : v.map fr = (List.range n).map fun r => fr (v.getD r 0) := by
  apply List.ext_getElem?
  intro j
  by_cases hj : j < n
  · rw [range_get _ hj, List.getElem?_map, (getD_ok (l := v) (by rw [h]; exact hj)).1]
    rfl
  · rw [List.getElem?_eq_none (by rw [List.length_map]; omega), List.getElem?_eq_none (by rw [List.length_map, List.length_range]; omega)]
/-- the waits: nothing where goals are not come to for sure -/
noncomputable def waitD (n : Nat) (v made : List Rat) : List D := (List.range n).map fun r => if v.getD r 0 = 1 then fr (made.getD r 0) else .none
structure Waits (w : Walk) (G : List Nat) (v made : List Rat) : Prop where
  goal : ∀ r, r ∈ G → made.getD r 0 = 0
  mean : ∀ r, r < w.length → r ∉ G → v.getD r 0 = 1 → made.getD r 0 = 1 + wsum (w.getD r []) (fun a => made.getD a 0)
  sz : ∀ r, Sz 767 (made.getD r 0)
theorem waits_ok {w : Walk} {G : List Nat} (gw : GoodWk w) (hG : G.Pairwise (· < ·)) (hGn : ∀ g, g ∈ G → g < w.length) {v : List Rat} (hv : Chances w G v) (ev : m_chances_of [walkD w, intsD G] = .ok (vecD v)) :
    ∃ made, Waits w G v made ∧ m_waits [walkD w, intsD G] = .ok (.list (waitD w.length v made)) := by
  have hw8 := gw.hi
  have hvl := hv.len
  generalize hR : (List.range w.length).filter (fun r => decide (v.getD r 0 = 1) && !decide (r ∈ G)) = R
  have hRm : ∀ a, a ∈ R ↔ a < w.length ∧ v.getD a 0 = 1 ∧ a ∉ G := fun a => by
    rw [← hR, List.mem_filter, List.mem_range, Bool.and_eq_true]
    simp
  have ndR : R.Nodup := by rw [← hR]; exact List.nodup_range.filter _
  have hcome : ∀ r, r ∈ R → Come w G r := fun r hr => Classical.byContradiction fun z => by
    have h1 := hv.lost r z
    have h2 := ((hRm r).mp hr).2.1
    rw [h1] at h2
    exact absurd h2 (by decide)
  have lv : Leaves w R := fun r hr => by
    obtain ⟨g, hg, p⟩ := hcome r hr
    exact ⟨((hRm r).mp hr).1, g, fun z => ((hRm g).mp z).2.2 hg, p⟩
  have hR7 : R.length ≤ 7 := by
    cases hRe : R with
    | nil => exact Nat.zero_le _
    | cons a l =>
      obtain ⟨g, hg, _⟩ := hcome a (by rw [hRe]; exact List.mem_cons_self)
      have nd2 : (g :: R).Nodup := List.nodup_cons.mpr ⟨fun z => ((hRm g).mp z).2.2 hg, ndR⟩
      have := nd2.length_le_of_subset (l₂ := List.range w.length) fun a m => List.mem_range.mpr (by
        rcases List.mem_cons.mp m with rfl | m
        · exact hGn _ hg
        · exact ((hRm a).mp m).1)
      rw [List.length_range, List.length_cons] at this
      rw [← hRe]
      omega
  obtain ⟨made, hml, em, ho, hi, hz⟩ := solved_for_ok gw ndR lv (kn := List.replicate w.length 0) List.length_replicate (g := 1) (.inr rfl)
  have hk0 : ∀ b, (List.replicate w.length (0 : Rat)).getD b 0 = 0 := fun b => by
    rw [List.getD_eq_getElem?_getD, List.getElem?_replicate]
    split <;> rfl
  have hout : ∀ b, b ∉ R → made.getD b 0 = 0 := fun b hb => by rw [ho b hb, hk0]
  have hmb : bb 5 R.length ≤ 767 := Nat.le_trans (bb_mono 5 hR7) (by decide)
  refine ⟨made, ⟨fun r hr => hout r fun z => ((hRm r).mp z).2.2 hr, fun r h1 h2 h3 => ?_, fun r => ?_⟩, run_rt ?_⟩
  · rw [hi r ((hRm r).mpr ⟨h1, h3, h2⟩)]
    congr 1
    refine wsum_congr _ fun q _ => ?_
    by_cases c : q.1 ∈ R
    · rw [if_pos c]
    · rw [if_neg c, hk0, if_neg (by decide), hout _ c]
  · by_cases hr : r < made.length
    · obtain ⟨_, hm⟩ := getD_ok (l := made) hr
      rcases hz _ hm with h | h
      · have := List.eq_of_mem_replicate h
        rw [this]
        exact Sz.zero (by decide)
      · exact h.mono hmb
    · rw [List.getD_eq_getElem?_getD, List.getElem?_eq_none (by omega)]
      exact Sz.zero (by decide)
  show gSeq _ _ [some (walkD w), some (intsD G), none, none, none, none, none] = _
  refine (gSeq_nx (gDrop_ok ((call2 rfl rfl).trans (need_rooms_ok hG hGn)))).trans ?_
  refine (gSeq_nx (gSet_ok ((call2 rfl rfl).trans ev))).trans ?_
  have er := comp_ok (vs := [5]) (tg := .nm 5) (fi := itR1 (un (rd 0) dLen)) (ft := andT (asB (bin (bin (rd 2) (rd 5) dIx) (kc (.tuple [.int 1, .int 1])) dEq)) (asB (bin (rd 5) (rd 1) dNotIn))) (fe := rd 5) (ρ := [some (walkD w), some (intsD G), some (vecD v), none, none, none, none]) (fun k : Nat => PyData.int k) (fun r => decide (v.getD r 0 = 1) && !decide (r ∈ G)) (fun k : Nat => PyData.int k) (List.range w.length) (line_small (by rw [List.length_range]; omega))
    (itR1_nat (n := w.length) (un_ok rfl (len_walk w)) (by omega)) fun r hr => ⟨[some (walkD w), some (intsD G), some (vecD v), none, none, some (.int r), none], rfl, by
      have hg := getD_ok (l := v) (j := r) (by rw [hvl]; exact List.mem_range.mp hr)
      have a1 : asB (bin (bin (rd 2) (rd 5) dIx) (kc (.tuple [.int 1, .int 1])) dEq) [some (walkD w), some (intsD G), some (vecD v), none, none, some (.int r), none] = .ok (decide (v.getD r 0 = 1)) := asB_ok (bin_ok (bin_ok rfl rfl (ix_vec hg.1)) rfl (eq_one _))
      have a2 : asB (bin (rd 5) (rd 1) dNotIn) [some (walkD w), some (intsD G), some (vecD v), none, none, some (.int r), none] = .ok (!decide (r ∈ G)) := asB_ok (bin_ok rfl rfl (notIn_ints G r))
      cases h : decide (v.getD r 0 = 1) with
      | true => rw [h] at a1; rw [Bool.true_and]; exact andT_t a1 a2
      | false => rw [h] at a1; rw [Bool.false_and]; exact andT_f a1, fun _ => rfl⟩
  rw [hR] at er
  refine (gSeq_nx (gSet_ok (d := intsD R) er)).trans ?_
  have ek : comp [6] (.nm 6) (itS (rd 0)) yes (kc (.tuple [.int 0, .int 1])) [some (walkD w), some (intsD G), some (vecD v), some (intsD R), none, none, none] = .ok (vecD (List.replicate w.length 0)) := by
    refine (comp_const (enc := spreadD) (l := w) (.inl rfl) (line_small (by omega)) (fun _ => rfl)).trans ?_
    unfold vecD
    rw [List.map_replicate]
    rfl
  refine (gSeq_nx (gSet_ok ((call4 rfl rfl ek rfl).trans em))).trans ?_
  obtain ⟨ρ1, e1, c5, h1⟩ := forL_pre (tg := .nm 5) (g := gIf (asB (bin (bin (rd 2) (rd 5) dIx) (kc (.tuple [.int 1, .int 1])) dNe)) (gPutL 4 (rd 5) (kc .none)) gSkip) (fun k : Nat => PyData.int k)
    (fun pre ρ => ∃ c5, ρ = [some (walkD w), some (intsD G), some (vecD v), some (intsD R), some (.list ((List.range w.length).map fun r => if r ∈ pre ∧ v.getD r 0 ≠ 1 then PyData.none else fr (made.getD r 0))), c5, none]) (List.range w.length) (fun pre r post ρ e hp => by
      obtain ⟨c5, rfl⟩ := hp
      have hr : r < w.length := by have : r ∈ List.range w.length := (by rw [e]; exact List.mem_append_right _ List.mem_cons_self); exact List.mem_range.mp this
      have hg := getD_ok (l := v) (j := r) (by rw [hvl]; exact hr)
      have et : asB (bin (bin (rd 2) (rd 5) dIx) (kc (.tuple [.int 1, .int 1])) dNe) [some (walkD w), some (intsD G), some (vecD v), some (intsD R), some (.list ((List.range w.length).map fun r => if r ∈ pre ∧ v.getD r 0 ≠ 1 then PyData.none else fr (made.getD r 0))), some (.int r), none] = .ok (!decide (v.getD r 0 = 1)) := asB_ok (bin_ok (bin_ok rfl rfl (ix_vec hg.1)) rfl (ne_fr (v.getD r 0) 1))
      refine ⟨[some (walkD w), some (intsD G), some (vecD v), some (intsD R), some (.list ((List.range w.length).map fun r => if r ∈ pre ∧ v.getD r 0 ≠ 1 then PyData.none else fr (made.getD r 0))), some (.int r), none], [some (walkD w), some (intsD G), some (vecD v), some (intsD R), some (.list ((List.range w.length).map fun j => if j ∈ pre ++ [r] ∧ v.getD j 0 ≠ 1 then PyData.none else fr (made.getD j 0))), some (.int r), none], rfl, ?_, _, rfl⟩
      by_cases c : v.getD r 0 = 1
      · rw [decide_eq_true c] at et
        refine (gIf_s et).trans ?_
        have : (fun j => if j ∈ pre ++ [r] ∧ v.getD j 0 ≠ 1 then PyData.none else fr (made.getD j 0)) = fun j => if j ∈ pre ∧ v.getD j 0 ≠ 1 then PyData.none else fr (made.getD j 0) := by
          funext j
          by_cases d : j = r
          · subst d
            rw [if_neg fun z => z.2 c, if_neg fun z => z.2 c]
          · have : j ∈ pre ++ [r] ↔ j ∈ pre := by rw [List.mem_append, List.mem_singleton]; exact ⟨fun z => z.resolve_right d, .inl⟩
            by_cases d2 : j ∈ pre ∧ v.getD j 0 ≠ 1
            · rw [if_pos d2, if_pos ⟨this.mpr d2.1, d2.2⟩]
            · rw [if_neg d2, if_neg fun z => d2 ⟨this.mp z.1, z.2⟩]
        rw [this]
      · rw [decide_eq_false c] at et
        refine (gIf_t et).trans ?_
        refine (gPutL_ok (k := (r : Int)) (d := .none) rfl rfl rfl (lSet_nat (by rw [List.length_map, List.length_range]; exact hr))).trans ?_
        rw [range_set]
        have : (fun j => if j = r then PyData.none else if j ∈ pre ∧ v.getD j 0 ≠ 1 then PyData.none else fr (made.getD j 0)) = fun j => if j ∈ pre ++ [r] ∧ v.getD j 0 ≠ 1 then PyData.none else fr (made.getD j 0) := by
          funext j
          by_cases d : j = r
          · subst d
            rw [if_pos rfl, if_pos ⟨List.mem_append_right _ List.mem_cons_self, c⟩]
          · rw [if_neg d]
            have : j ∈ pre ++ [r] ↔ j ∈ pre := by rw [List.mem_append, List.mem_singleton]; exact ⟨fun z => z.resolve_right d, .inl⟩
            by_cases d2 : j ∈ pre ∧ v.getD j 0 ≠ 1
            · rw [if_pos d2, if_pos ⟨this.mpr d2.1, d2.2⟩]
            · rw [if_neg d2, if_neg fun z => d2 ⟨this.mp z.1, z.2⟩]
        rw [this]
        rfl) (ρ := [some (walkD w), some (intsD G), some (vecD v), some (intsD R), some (.list (made.map fr)), none, none]) ⟨none, by
      rw [vec_range hml]
      have : (fun r => if r ∈ ([] : List Nat) ∧ v.getD r 0 ≠ 1 then PyData.none else fr (made.getD r 0)) = fun r => fr (made.getD r 0) := funext fun r => if_neg fun z => by cases z.1
      rw [this]⟩
  refine (gSeq_nx (gFor_nx (itR1_nat (n := w.length) (un_ok rfl (len_walk w)) (by omega)) e1)).trans ?_
  subst h1
  refine (gRet_ok rfl).trans ?_
  refine congrArg (fun l => Out.rt (PyData.list l)) ?_
  unfold waitD
  apply List.map_congr_left
  intro r hr
  by_cases c : v.getD r 0 = 1
  · rw [if_pos c, if_neg fun z => z.2 c]
  · rw [if_neg c, if_pos ⟨hr, c⟩]
end LW
end

section
set_option Elab.async false
set_option linter.all false
set_option maxRecDepth 100000
set_option maxHeartbeats 2000000
set_option exponentiation.threshold 100000
set_option autoImplicit false
/-! PCO: costs by a walk. -/
namespace LW
open PySem hiding run
open L2 hiding bin
open DL

abbrev iq (k : Nat) : Rat := ((k : Int) : Rat)
theorem fr_iq (k : Nat) : fr (iq k) = .tuple [.int (k : Int), .int 1] := fr_int k
theorem small_num8 {d : Nat} {v : Rat} (h : Dn d v) (hd : d ≤ 12) (l : -8 ≤ v) (u : v ≤ 8) : ∃ k : Int, v * (d : Rat) = (k : Rat) ∧ k.natAbs < 2 ^ 7 := by
  obtain ⟨k, e⟩ := h
  refine ⟨k, e, ?_⟩
  have d0 : (0 : Rat) ≤ (d : Rat) := Rat.natCast_nonneg
  have d1 : (d : Rat) ≤ 12 := by exact_mod_cast (Rat.natCast_le_natCast (a := d) (b := 12)).mpr hd
  have h1 : v * (d : Rat) ≤ 8 * (d : Rat) := Rat.mul_le_mul_of_nonneg_right u d0
  have h2 : -8 * (d : Rat) ≤ v * (d : Rat) := Rat.mul_le_mul_of_nonneg_right l d0
  have h3 : (k : Rat) ≤ ((96 : Int) : Rat) := by
    have : ((96 : Int) : Rat) = 96 := rfl
    rw [this, ← e]
    grind
  have h4 : ((-96 : Int) : Rat) ≤ (k : Rat) := by
    have : ((-96 : Int) : Rat) = -96 := rfl
    rw [this, ← e]
    grind
  have h5 := Rat.intCast_le_intCast.mp h3
  have h6 := Rat.intCast_le_intCast.mp h4
  omega
abbrev noK : Nat → Bool := fun _ => false
theorem totK_no (R : List Nat) (pre : Spread) : totK R noK pre = 0 := by
  rw [totK_wsum]
  have : wsum pre (fun b => if b ∈ R then 0 else if noK b = true then 1 else 0) = wsum pre (fun _ => 0) := wsum_congr _ fun q _ => by split <;> rfl
  rw [this, wsum_const, Rat.mul_zero]
section
variable {R : List Nat} {i : Nat} {pre : Spread}
theorem iq_bounds {p : Nat} (hp : p ≤ 6) : 0 ≤ iq p ∧ iq p ≤ 6 := by
  have h1 : ((0 : Int) : Rat) ≤ ((p : Int) : Rat) := Rat.intCast_le_intCast.mpr (by omega)
  have h2 : ((p : Int) : Rat) ≤ ((6 : Int) : Rat) := Rat.intCast_le_intCast.mpr (by omega)
  exact ⟨h1, h2⟩
theorem rowC_sz {n p : Nat} {s post : Spread} (gs : GoodSp n s) (e : s = pre ++ post) (hg : p ≤ 6) : RowB 7 (rowAt R noK (iq p) i pre) := by
  obtain ⟨d, d0, d12, hd⟩ := gs.com
  have hp : ∀ q, q ∈ pre → 0 < q.2 := fun q m => (gs.mem q (by rw [e]; exact List.mem_append_left _ m)).2.1
  have hpd : ∀ q, q ∈ pre → Dn d q.2 := fun q m => hd q (by rw [e]; exact List.mem_append_left _ m)
  have hs : (pre.map (·.2)).sum ≤ 1 := by
    have := gs.sum
    rw [e, List.map_append, rsum_append] at this
    have h2 := rsum_nonneg (post.map (·.2)) fun x hx => by
      obtain ⟨q, hq, rfl⟩ := List.mem_map.mp hx
      have := (gs.mem q (by rw [e]; exact List.mem_append_right _ hq)).2.1
      grind
    grind
  have d1 : Dn d 1 := ⟨d, by rw [Rat.one_mul]; rfl⟩
  refine ⟨d, d0, by omega, fun v hv => ?_⟩
  obtain ⟨j, hj, rfl⟩ := List.mem_map.mp hv
  split
  · have ht := part_le pre (fun x => decide (x = R.getD j 0)) hp
    have htd := part_dn pre (fun x => decide (x = R.getD j 0)) hpd
    rw [← tot_part] at ht htd
    have hneg : Dn d (-1 * tot pre (R.getD j 0)) := by
      obtain ⟨k, ek⟩ := htd
      exact ⟨-k, by rw [Rat.intCast_neg, ← ek]; grind⟩
    refine small_num8 ?_ d12 ?_ ?_
    · have : ((if j = i then 1 else 0 : Rat) - tot pre (R.getD j 0)) = (if j = i then 1 else 0) + -1 * tot pre (R.getD j 0) := by grind
      rw [this]
      refine Dn.add ?_ hneg
      split
      · exact d1
      · exact Dn.zero d
    · split <;> grind
    · split <;> grind
  · obtain ⟨b1, b2⟩ := iq_bounds hg
    rw [totK_no, Rat.add_zero]
    refine small_num8 ⟨(p : Int) * d, by rw [Rat.intCast_mul]; rfl⟩ d12 ?_ ?_ <;> grind
theorem rowC_out {g : Rat} {q : Nat × Rat} (hq : q.1 ∉ R) : rowAt R noK g i pre = rowAt R noK g i (pre ++ [q]) := by
  rw [← rowAt_out (kn := noK) hq]
  apply List.ext_getElem?
  intro j
  by_cases c : R.length = j
  · subst c
    rw [List.getElem?_set_self (by rw [rowAt_len]; omega), (getD_ok (l := rowAt R noK g i pre) (j := R.length) (by rw [rowAt_len]; omega)).1]
    congr 1
    have : (if noK q.1 = true then q.2 else 0) = (0 : Rat) := rfl
    rw [this, Rat.add_zero]
  · rw [List.getElem?_set_ne c]
/-- the rows -/
def rowsC (w : Walk) (R P : List Nat) (is : List Nat) : Rows := is.map fun i => rowAt R noK (iq (P.getD (R.getD i 0) 0)) i (w.getD (R.getD i 0) [])
variable {w : Walk} {P : List Nat}
theorem rowsC_cell {i j : Nat} (hi : i < R.length) (hj : j < R.length + 1) : cell (rowsC w R P (List.range R.length)) i j = if j < R.length then (if j = i then 1 else 0) - tot (w.getD (R.getD i 0) []) (R.getD j 0) else iq (P.getD (R.getD i 0) 0) := by
  have e : (rowsC w R P (List.range R.length)).getD i [] = rowAt R noK (iq (P.getD (R.getD i 0) 0)) i (w.getD (R.getD i 0) []) := by
    unfold rowsC
    rw [List.getD_eq_getElem?_getD, List.getElem?_map, List.getElem?_range hi]
    rfl
  show ((rowsC w R P (List.range R.length)).getD i []).getD j 0 = _
  rw [e, rowAt_getD hj, totK_no, Rat.add_zero]
theorem rowsC_same {i j : Nat} (hi : i < R.length) (hj : j < R.length) : cell (rowsC w R P (List.range R.length)) i j = cell (rowsOf w R noK 0 (List.range R.length)) i j := by
  rw [rowsC_cell hi (by omega), rowsOf_cell hi (by omega), if_pos hj, if_pos hj]
theorem rowsC_dot (nd : R.Nodup) (X : Nat → Rat) {i : Nat} (hi : i < R.length) : S R.length (fun j => cell (rowsC w R P (List.range R.length)) i j * X j) = X i - wsum (w.getD (R.getD i 0) []) (atR R X) := by
  rw [← rowsOf_dot (kn := noK) (g := 0) nd X hi]
  exact S_congr fun j hj => by rw [rowsC_same hi hj]
theorem rowsC_firm (gw : GoodWk w) (nd : R.Nodup) (lv : Leaves w R) : Firm R.length (cell (rowsC w R P (List.range R.length))) := by
  intro X x0 hn i hi
  refine rowsOf_firm (kn := noK) (g := 0) gw nd lv X x0 (fun i hi => ?_) i hi
  refine Eq.trans ?_ (hn i hi)
  have e : ∀ A : Nat → Nat → Rat, S (R.length + 1) (fun j => A i j * X j) = S R.length (fun j => A i j * X j) + A i R.length * X R.length := fun A => rfl
  rw [e, e, x0, Rat.mul_zero, Rat.mul_zero]
  congr 1
  exact S_congr fun j hj => by rw [rowsC_same hi hj]
theorem rowsC_shape (gw : GoodWk w) (lv : ∀ r, r ∈ R → r < w.length) (hg : ∀ r, P.getD r 0 ≤ 6) : Shape R.length 7 (rowsC w R P (List.range R.length)) := by
  refine ⟨by unfold rowsC; rw [List.length_map, List.length_range], fun r hr => ?_, fun r hr => ?_⟩
  · obtain ⟨i, _, rfl⟩ := List.mem_map.mp hr
    exact rowAt_len
  · obtain ⟨i, hi, rfl⟩ := List.mem_map.mp hr
    have hi := List.mem_range.mp hi
    exact rowC_sz (good_at gw (lv _ (getD_pos (pos_get hi)).2.2)).2 (List.append_nil _).symm (hg _)
end
theorem bb8c {m : Nat} (h : m ≤ 8) : 3 * bb 7 (m - 1) ≤ 9000 := by
  have := bb_mono 7 (show m - 1 ≤ 7 by omega)
  have e : bb 7 7 = 1023 := rfl
  omega
theorem zip_irY (xs : List Nat) (ys : List Rat) : zipD (xs.map fun k : Nat => PyData.int k) (ys.map fr) = (List.zip xs ys).map fun p => PyData.tuple [.int p.1, fr p.2] := zip_ir xs ys
/-- the costs of the rooms R by a walk, P paid in each room; others have none -/
theorem costs_by_ok {w : Walk} (gw : GoodWk w) {R : List Nat} (nd : R.Nodup) (lv : Leaves w R) {P : List Nat} (hP : P.length = w.length) (hg : ∀ r, P.getD r 0 ≤ 6) :
    ∃ made : List Rat, made.length = w.length ∧ m_costs_by [walkD w, intsD P, intsD R] = .ok (vecD made) ∧ (∀ b, b ∉ R → made.getD b 0 = 0) ∧
      (∀ r, r ∈ R → made.getD r 0 = iq (P.getD r 0) + wsum (w.getD r []) (val made)) ∧ ∀ q, q ∈ made → Sz (bb 7 R.length) q := by
  have hw8 := gw.hi
  have hRn : ∀ r, r ∈ R → r < w.length := fun r m => (lv r m).1
  have hR8 : R.length ≤ w.length := by
    have := nd.length_le_of_subset (l₂ := List.range w.length) fun a m => List.mem_range.mpr (hRn a m)
    rwa [List.length_range] at this
  -- the rows
  obtain ⟨ρ1, e1, c4, c5, c6, c7, h1⟩ := forL_pre (tg := .nm 4) (g := gSeq (gSet 5 (bin (comp [6] (.nm 6) (itS (rd 2)) yes (kc (.tuple [.int 0, .int 1]))) (mkLst (aCons (mkTup (aCons (bin (rd 1) (rd 4) dIx) (aCons (kc (.int 1)) aNil))) aNil)) dCat)) (gSeq (gPutL 5 (idx (rd 2) (rd 4)) (kc (.tuple [.int 1, .int 1]))) (gSeq (gFor (.tp [6, 7]) (itS (bin (rd 0) (rd 4) dIx)) (gIf (asB (bin (rd 6) (rd 2) dIn)) (gPutL 5 (idx (rd 2) (rd 6)) (callD 2 m_less (aCons (bin (rd 5) (idx (rd 2) (rd 6)) dIx) (aCons (rd 7) aNil)))) gSkip)) (gApp 3 (rd 5)))))
    (fun k : Nat => PyData.int k) (fun pre ρ => ∃ c4 c5 c6 c7, ρ = [some (walkD w), some (intsD P), some (intsD R), some (matD (rowsC w R P (List.range pre.length))), c4, c5, c6, c7, none, none, none]) R (fun pre r post ρ e hp => by
      obtain ⟨c4, c5, c6, c7, rfl⟩ := hp
      have hpos : R[pre.length]? = some r := by rw [e, List.getElem?_append_right (Nat.le_refl _), Nat.sub_self]; rfl
      obtain ⟨egd, hil, hrm⟩ := getD_pos hpos
      have hrn := hRn r hrm
      generalize hi : pre.length = i at hpos egd hil
      obtain ⟨hwr, gs⟩ := good_at gw hrn
      have hPr : P[r]? = some (P.getD r 0) := by
        rw [List.getD_eq_getElem?_getD, List.getElem?_eq_getElem (by rw [hP]; exact hrn)]
        rfl
      generalize hgp : P.getD r 0 = gp at hPr
      have hg6 : gp ≤ 6 := by rw [← hgp]; exact hg r
      refine ⟨[some (walkD w), some (intsD P), some (intsD R), some (matD (rowsC w R P (List.range i))), some (.int r), c5, c6, c7, none, none, none], ?_⟩
      obtain ⟨ρ2, e2, d6, d7, h2⟩ := forL_pre (tg := .tp [6, 7]) (g := gIf (asB (bin (rd 6) (rd 2) dIn)) (gPutL 5 (idx (rd 2) (rd 6)) (callD 2 m_less (aCons (bin (rd 5) (idx (rd 2) (rd 6)) dIx) (aCons (rd 7) aNil)))) gSkip)
        prD (fun p1 ρ => ∃ d6 d7, ρ = [some (walkD w), some (intsD P), some (intsD R), some (matD (rowsC w R P (List.range i))), some (.int r), some (vecD (rowAt R noK (iq gp) i p1)), d6, d7, none, none, none]) (w.getD r []) (fun p1 q p2 ρ e3 hp => by
          obtain ⟨d6, d7, rfl⟩ := hp
          have hq : q ∈ w.getD r [] := by rw [e3]; exact List.mem_append_right _ List.mem_cons_self
          have hqn := (gs.mem q hq).1
          have hqz : Sz 15 q.2 := gs.sz hq
          have hrz : RowB 7 (rowAt R noK (iq gp) i p1) := rowC_sz gs e3 hg6
          refine ⟨[some (walkD w), some (intsD P), some (intsD R), some (matD (rowsC w R P (List.range i))), some (.int r), some (vecD (rowAt R noK (iq gp) i p1)), some (.int q.1), some (fr q.2), none, none, none], [some (walkD w), some (intsD P), some (intsD R), some (matD (rowsC w R P (List.range i))), some (.int r), some (vecD (rowAt R noK (iq gp) i (p1 ++ [q]))), some (.int q.1), some (fr q.2), none, none, none], rfl, ?_, _, _, rfl⟩
          by_cases c : q.1 ∈ R
          · obtain ⟨k, hkl, ek⟩ := List.mem_iff_getElem.mp c
            have hk2 : R[k]? = some q.1 := by rw [List.getElem?_eq_getElem hkl, ek]
            have hgd := getD_ok (l := rowAt R noK (iq gp) i p1) (j := k) (by rw [rowAt_len]; omega)
            refine (gIf_t (asB_ok (bin_ok rfl rfl (by rw [in_ints, decide_eq_true c])))).trans ((gPutL_ok (k := (k : Int)) (d := fr ((rowAt R noK (iq gp) i p1).getD k 0 - q.2)) ((call2 (bin_ok rfl (idx_ok nd rfl rfl hk2) (ix_vec hgd.1)) rfl).trans (lessG (hrz.sz hgd.2) hqz ?_)) (idx_ok nd rfl rfl hk2) rfl (put_vec (by rw [rowAt_len]; omega))).trans ?_)
            · exact Nat.lt_of_lt_of_le (mul_lt (hrz.sz hgd.2).2 hqz.2) (Nat.pow_le_pow_right (by decide) (by decide))
            · rw [rowAt_in nd hk2]
              rfl
          · refine (gIf_s (asB_ok (bin_ok rfl rfl (by rw [in_ints, decide_eq_false c])))).trans ?_
            rw [← rowC_out c])
        (ρ := [some (walkD w), some (intsD P), some (intsD R), some (matD (rowsC w R P (List.range i))), some (.int r), some (vecD (rowAt R noK (iq gp) i [])), c6, c7, none, none, none]) ⟨c6, c7, rfl⟩
      refine ⟨[some (walkD w), some (intsD P), some (intsD R), some (matD (rowsC w R P (List.range (i + 1)))), some (.int r), some (vecD (rowAt R noK (iq gp) i (w.getD r []))), d6, d7, none, none, none], rfl, ?_, _, _, _, _, by rw [List.length_append, hi]; rfl⟩
      have e3 := comp_const (i := 2) (vs := [6]) (f := rd 2) (fe := kc (.tuple [.int 0, .int 1])) (d := .tuple [.int 0, .int 1]) (enc := fun k : Nat => PyData.int k) (l := R) (ρ := [some (walkD w), some (intsD P), some (intsD R), some (matD (rowsC w R P (List.range i))), some (.int r), c5, c6, c7, none, none, none]) (.inr rfl) (line_small (by omega)) (fun _ => rfl)
      have e3 : comp [6] (.nm 6) (itS (rd 2)) yes (kc (.tuple [.int 0, .int 1])) [some (walkD w), some (intsD P), some (intsD R), some (matD (rowsC w R P (List.range i))), some (.int r), c5, c6, c7, none, none, none] = .ok (.list (List.replicate R.length (.tuple [.int 0, .int 1]))) :=
        comp_const (enc := fun k : Nat => PyData.int k) (l := R) (.inr rfl) (line_small (by omega)) (fun _ => rfl)
      refine (gSeq_nx (gSet_ok (bin_ok e3 (mkLst_ok (l := [fr (iq gp)]) (aCons_ok (mkTup_ok (l := [.int gp, .int 1]) (aCons_ok (bin_ok rfl rfl (ix_ints hPr)) (aCons_ok rfl rfl)) rfl) rfl) rfl) (cat_ll (by rw [List.length_replicate, List.length_singleton]; omega))))).trans ?_
      have e4 : (List.replicate R.length (PyData.tuple [.int 0, .int 1]) ++ [fr (iq gp)]) = (List.replicate R.length (0 : Rat) ++ [iq gp]).map fr := by
        rw [List.map_append, List.map_replicate]
        rfl
      have e6 : lSet (List.replicate R.length (PyData.tuple [.int 0, .int 1]) ++ [fr (iq gp)]) (i : Int) (.tuple [.int 1, .int 1]) = some ((rowAt R noK (iq gp) i []).map fr) := by
        rw [e4, ← rowAt_nil hil, ← set_vec, lSet_nat (by rw [List.length_map, List.length_append, List.length_replicate, List.length_singleton]; omega)]
        rfl
      refine (gSeq_nx (gPutL_ok (k := (i : Int)) rfl (idx_ok nd rfl rfl hpos) rfl e6)).trans ?_
      refine (gSeq_nx (gFor_nx (itS_tuple (bin_ok rfl rfl (ix_walk hwr))) e2)).trans ?_
      subst h2
      refine (gApp_ok rfl rfl (by unfold rowsC; rw [List.length_map, List.length_map, List.length_range]; omega)).trans ?_
      have e7 : matD (rowsC w R P (List.range (i + 1))) = .list ((rowsC w R P (List.range i)).map vecD ++ [vecD (rowAt R noK (iq gp) i (w.getD r []))]) := by
        unfold matD rowsC
        rw [List.range_succ, List.map_append, List.map_append, List.map_cons, List.map_nil, egd, hgp]
        rfl
      rw [e7]
      rfl)
    (ρ := [some (walkD w), some (intsD P), some (intsD R), some (.list []), none, none, none, none, none, none, none]) ⟨_, _, _, _, rfl⟩
  have sh := rowsC_shape gw hRn hg
  obtain ⟨x, hx, ex, sx, zx⟩ := solved_ok sh (by decide) (bb8c (by omega)) (by omega) (rowsC_firm (P := P) gw nd lv)
  have hzip : ∀ p, p ∈ List.zip R x → p.1 < w.length := fun p m => hRn _ (List.of_mem_zip m).1
  have hkeys : (List.zip R x).map (·.1) = R := List.map_fst_zip (by omega)
  have hk : (List.replicate w.length (0 : Rat)).length = w.length := List.length_replicate
  obtain ⟨f1, f2, f3, f4⟩ := fill (List.replicate w.length 0) hk (List.zip R x) (by rw [hkeys]; exact nd) hzip
  have hk0 : ∀ b, (List.replicate w.length (0 : Rat)).getD b 0 = 0 := fun b => by
    rw [List.getD_eq_getElem?_getD, List.getElem?_replicate]
    split <;> rfl
  generalize hmade : (List.zip R x).foldl (fun m p => m.set p.1 p.2) (List.replicate w.length 0) = made at f1 f2 f3 f4
  have hout : ∀ b, b ∉ R → made.getD b 0 = 0 := fun b hb => by rw [f3 b (by rw [hkeys]; exact hb), hk0]
  have hval : ∀ j, j < R.length → made.getD (R.getD j 0) 0 = x.getD j 0 := by
    intro j hj
    have hz : (List.zip R x)[j]? = some (R.getD j 0, x.getD j 0) := List.getElem?_zip_eq_some.mpr ⟨pos_get hj, (getD_ok (by omega)).1⟩
    exact f2 _ (List.mem_of_getElem? hz)
  have hatR : ∀ b, atR R (fun j => x.getD j 0) b = made.getD b 0 := by
    intro b
    by_cases hb : b ∈ R
    · obtain ⟨j, hj, ej⟩ := List.mem_iff_getElem.mp hb
      have hp : R[j]? = some b := by rw [List.getElem?_eq_getElem hj, ej]
      rw [atR_in nd _ hp, ← hval j hj, (getD_pos hp).1]
    · rw [atR_out _ hb, hout b hb]
  refine ⟨made, f1, run_rt ?_, hout, fun r hr => ?_, fun q hq => ?_⟩
  · show gSeq _ _ [some (walkD w), some (intsD P), some (intsD R), none, none, none, none, none, none, none, none] = _
    refine (gSeq_nx (gSet_ok (mkLst_ok rfl rfl))).trans ?_
    refine (gSeq_nx (gFor_nx (itS_list rfl) e1)).trans ?_
    subst h1
    have e8 : comp [10] (.nm 10) (itS (rd 0)) yes (kc (.tuple [.int 0, .int 1])) [some (walkD w), some (intsD P), some (intsD R), some (matD (rowsC w R P (List.range R.length))), c4, c5, c6, c7, none, none, none] = .ok (vecD (List.replicate w.length 0)) := by
      refine (comp_const (enc := spreadD) (l := w) (.inl rfl) (line_small (by omega)) (fun _ => rfl)).trans ?_
      unfold vecD
      rw [List.map_replicate]
      rfl
    refine (gSeq_nx (gSet_ok e8)).trans ?_
    obtain ⟨ρ2, e2, a4, a9, h2⟩ := forL_pre (tg := .tp [4, 9]) (g := gPutL 8 (rd 4) (rd 9)) (fun p : Nat × Rat => PyData.tuple [.int p.1, fr p.2])
      (fun pre ρ => ∃ a4 a9, ρ = [some (walkD w), some (intsD P), some (intsD R), some (matD (rowsC w R P (List.range R.length))), a4, c5, c6, c7, some (vecD (pre.foldl (fun m p => m.set p.1 p.2) (List.replicate w.length 0))), a9, none]) (List.zip R x) (fun pre p post ρ e hp => by
        obtain ⟨a4, a9, rfl⟩ := hp
        have hpn : p.1 < w.length := hzip p (by rw [e]; exact List.mem_append_right _ List.mem_cons_self)
        have hlen : ∀ (l : List (Nat × Rat)) (k : List Rat), (l.foldl (fun m p => m.set p.1 p.2) k).length = k.length := by
          intro l
          induction l with
          | nil => intro k; rfl
          | cons a r ih => intro k; exact (ih _).trans List.length_set
        refine ⟨[some (walkD w), some (intsD P), some (intsD R), some (matD (rowsC w R P (List.range R.length))), some (.int p.1), c5, c6, c7, some (vecD (pre.foldl (fun m p => m.set p.1 p.2) (List.replicate w.length 0))), some (fr p.2), none], _, rfl, gPutL_ok rfl rfl rfl (put_vec (by rw [hlen, hk]; exact hpn)), some (.int p.1), some (fr p.2), ?_⟩
        rw [List.foldl_append]
        rfl)
      (ρ := [some (walkD w), some (intsD P), some (intsD R), some (matD (rowsC w R P (List.range R.length))), c4, c5, c6, c7, some (vecD (List.replicate w.length 0)), none, none]) ⟨c4, none, rfl⟩
    refine (gSeq_nx (gFor_nx ((itZ_list (xs := R.map fun k : Nat => PyData.int k) (ys := x.map fr) rfl ((call1 rfl).trans ex)).trans (by rw [zip_ir])) e2)).trans ?_
    subst h2
    rw [hmade]
    exact gRet_ok rfl
  · obtain ⟨j, hj, ej⟩ := List.mem_iff_getElem.mp hr
    have hp : R[j]? = some r := by rw [List.getElem?_eq_getElem hj, ej]
    have h1 := sx j hj
    rw [rowsC_dot nd (fun j => x.getD j 0) hj, rowsC_cell hj (by omega), if_neg (Nat.lt_irrefl _), (getD_pos hp).1] at h1
    have h2 := hval j hj
    rw [(getD_pos hp).1] at h2
    have h3 : wsum (w.getD r []) (val made) = wsum (w.getD r []) (atR R (fun j => x.getD j 0)) := wsum_congr _ fun q _ => (hatR q.1).symm
    rw [h3, h2]
    have h1' : x.getD j 0 - wsum (w.getD r []) (atR R (fun j => x.getD j 0)) = iq (P.getD r 0) := h1
    grind
  · rcases f4 q hq with h | h
    · rw [List.eq_of_mem_replicate h]
      exact Sz.zero (Nat.lt_of_lt_of_le (by decide) (bb_mono 7 (Nat.zero_le R.length)))
    · obtain ⟨p, hp, rfl⟩ := List.mem_map.mp h
      exact zx _ (List.of_mem_zip hp).2
end LW
end

section
set_option Elab.async false
set_option linter.all false
set_option maxRecDepth 100000
set_option maxHeartbeats 2000000
set_option exponentiation.threshold 100000
set_option autoImplicit false
/-! PCP: costs by picks; cheaper picks. -/
namespace LW
open PySem hiding run
open L2 hiding bin
open DL

/-! ### costs -/
abbrev Costs := List (List Nat)
def costsD (C : Costs) : D := .list (C.map intsD)
structure GoodCo (c : Choice) (C : Costs) : Prop where
  len : C.length = c.length
  row : ∀ r, r < c.length → (C.getD r []).length = (c.getD r []).length
  cost : ∀ row, row ∈ C → ∀ k, k ∈ row → 1 ≤ k ∧ k ≤ 6
def cst (C : Costs) (r k : Nat) : Nat := (C.getD r []).getD k 0
section
variable {c : Choice} {C : Costs} {G R p : List Nat}
theorem crow_get (gc : GoodCo c C) {r : Nat} (hr : r < c.length) : C[r]? = some (C.getD r []) ∧ C.getD r [] ∈ C := by
  have hl : r < C.length := by rw [gc.len]; exact hr
  have e : C.getD r [] = C[r] := by rw [List.getD_eq_getElem?_getD, List.getElem?_eq_getElem hl]; rfl
  rw [e]
  exact ⟨List.getElem?_eq_getElem hl, List.getElem_mem hl⟩
theorem cst_get (gc : GoodCo c C) {r k : Nat} (hr : r < c.length) (hk : k < (c.getD r []).length) : (C.getD r [])[k]? = some (cst C r k) ∧ 1 ≤ cst C r k ∧ cst C r k ≤ 6 := by
  have hl : k < (C.getD r []).length := by rw [gc.row r hr]; exact hk
  have e : cst C r k = (C.getD r [])[k] := by unfold cst; rw [List.getD_eq_getElem?_getD, List.getElem?_eq_getElem hl]; rfl
  rw [e]
  exact ⟨List.getElem?_eq_getElem hl, gc.cost _ (crow_get gc hr).2 _ (List.getElem_mem hl)⟩
theorem ix_costs (gc : GoodCo c C) {r : Nat} (hr : r < c.length) : dIx (costsD C) (.int r) = some (intsD (C.getD r [])) := ix_list (by rw [List.getElem?_map, (crow_get gc hr).1]; rfl)
theorem len_costs (C : Costs) : dLen (costsD C) = some (.int C.length) := by
  show dLen (.list (C.map intsD)) = _
  rw [len_list, List.length_map]
/-- what is paid by the picks -/
def paidBy (C : Costs) (p : List Nat) : List Nat := (List.zip C p).map fun q => q.1.getD q.2 0
theorem paidBy_len (gc : GoodCo c C) (hp : Picks c p) : (paidBy C p).length = c.length := by
  unfold paidBy
  rw [List.length_map, List.length_zip, gc.len, hp.len, Nat.min_self]
theorem paidBy_get (gc : GoodCo c C) (hp : Picks c p) {r : Nat} (hr : r < c.length) : (paidBy C p).getD r 0 = cst C r (p.getD r 0) := by
  have h1 := (crow_get gc hr).1
  have h2 := (hp.at hr).2
  have hz : (List.zip C p)[r]? = some (C.getD r [], p.getD r 0) := List.getElem?_zip_eq_some.mpr ⟨h1, h2⟩
  unfold paidBy
  rw [List.getD_eq_getElem?_getD, List.getElem?_map, hz]
  rfl
theorem paidBy_le (gc : GoodCo c C) (hp : Picks c p) (r : Nat) : (paidBy C p).getD r 0 ≤ 6 := by
  by_cases hr : r < c.length
  · rw [paidBy_get gc hp hr]
    exact (cst_get gc hr (hp.at hr).1).2.2
  · rw [List.getD_eq_getElem?_getD, List.getElem?_eq_none (by rw [paidBy_len gc hp]; omega)]
    exact Nat.zero_le _
/-- what way k of room r costs by the values V -/
noncomputable def wcost (c : Choice) (C : Costs) (V : List Rat) (r k : Nat) : Rat := iq (cst C r k) + wsum (way c r k) (val V)
/-- a way that leads to R, G alone -/
def lies (c : Choice) (R G : List Nat) (r k : Nat) : Bool := (way c r k).all fun q => decide (q.1 ∈ R) || decide (q.1 ∈ G)
theorem lies_mem {r k : Nat} (h : lies c R G r k = true) {q : Nat × Rat} (hq : q ∈ way c r k) : q.1 ∈ R ∨ q.1 ∈ G := by
  have := List.all_eq_true.mp h q hq
  rw [Bool.or_eq_true, decide_eq_true_iff, decide_eq_true_iff] at this
  exact this
theorem lies_of {r k : Nat} (h : ∀ q, q ∈ way c r k → q.1 ∈ R ∨ q.1 ∈ G) : lies c R G r k = true := List.all_eq_true.mpr fun q hq => by
  rw [Bool.or_eq_true, decide_eq_true_iff, decide_eq_true_iff]
  exact h q hq
structure Vals (c : Choice) (C : Costs) (R p : List Nat) (V : List Rat) : Prop where
  len : V.length = c.length
  out : ∀ b, b ∉ R → V.getD b 0 = 0
  mean : ∀ r, r ∈ R → V.getD r 0 = wcost c C V r (p.getD r 0)
  sz : ∀ q, q ∈ V → Sz 127 q
theorem values_by_ok (g : GoodCh c) (gc : GoodCo c C) (nd : R.Nodup) (hp : Picks c p) (lv : Leaves (walkBy c p) R) : ∃ V, Vals c C R p V ∧ m_values_by [choiceD c, costsD C, intsD p, intsD R] = .ok (vecD V) := by
  have gw := walkBy_good g hp
  have hi := g.hi
  have hwl := walkBy_len hp
  obtain ⟨V, h1, h2, h3, h4, h5⟩ := costs_by_ok gw nd lv (P := paidBy C p) (by rw [paidBy_len gc hp, hwl]) (paidBy_le gc hp)
  have hRn : ∀ r, r ∈ R → r < c.length := fun r m => by have := (lv r m).1; rw [hwl] at this; exact this
  have hR4 : R.length ≤ 4 := by
    have := nd.length_le_of_subset (l₂ := List.range c.length) fun a m => List.mem_range.mpr (hRn a m)
    rw [List.length_range] at this
    omega
  refine ⟨V, ⟨h1.trans hwl, h3, fun r hr => ?_, fun q hq => (h5 q hq).mono (Nat.le_trans (bb_mono 7 hR4) (by decide))⟩, run_rt ?_⟩
  · rw [h4 r hr, paidBy_get gc hp (hRn r hr), walkBy_get hp (hRn r hr)]
    rfl
  · show gSeq _ _ [some (choiceD c), some (costsD C), some (intsD p), some (intsD R), none, none, none] = _
    have hc := comp_ok (vs := [5, 6]) (tg := .tp [5, 6]) (fi := itY (rd 1) (rd 2)) (ft := yes) (fe := bin (rd 5) (rd 6) dIx) (ρ := [some (choiceD c), some (costsD C), some (intsD p), some (intsD R), none, none, none])
      (fun q : List Nat × Nat => PyData.tuple [intsD q.1, .int q.2]) (fun _ => true) (fun q => PyData.int (q.1.getD q.2 0 : Nat)) (List.zip C p) (line_small (by rw [List.length_zip, gc.len]; omega)) ((itZ_list (xs := C.map intsD) (ys := p.map fun k : Nat => PyData.int k) rfl rfl).trans (by
        unfold zipD
        rw [List.zipWith_map, List.zip_eq_zipWith, List.map_zipWith])) fun q hq => by
      obtain ⟨i, hi, e⟩ := List.mem_iff_getElem.mp hq
      rw [List.length_zip, gc.len, hp.len, Nat.min_self] at hi
      have hz : (List.zip C p)[i]? = some (C.getD i [], p.getD i 0) := List.getElem?_zip_eq_some.mpr ⟨(crow_get gc hi).1, (hp.at hi).2⟩
      have e2 : q = (C.getD i [], p.getD i 0) := by
        have hil : i < (List.zip C p).length := by rw [List.length_zip, gc.len, hp.len, Nat.min_self]; exact hi
        rw [List.getElem?_eq_getElem hil, e] at hz
        exact Option.some.inj hz
      subst e2
      exact ⟨[some (choiceD c), some (costsD C), some (intsD p), some (intsD R), none, some (intsD (C.getD i [])), some (.int (p.getD i 0 : Nat))], rfl, rfl, fun _ => bin_ok rfl rfl (ix_ints (cst_get gc hi (hp.at hi).1).1)⟩
    rw [filter_yes] at hc
    have e : (List.zip C p).map (fun q => PyData.int (q.1.getD q.2 0 : Nat)) = (paidBy C p).map fun k : Nat => PyData.int k := by
      unfold paidBy
      rw [List.map_map]
      rfl
    rw [e] at hc
    exact (gSeq_nx (gSet_ok hc)).trans (gRet_ok ((call3 ((call2 rfl rfl).trans (walk_by_ok g hp)) rfl rfl).trans h2))
open Classical in
/-- the costs by picks -/
noncomputable def cOf (c : Choice) (C : Costs) (R p : List Nat) : List Rat := if h : ∃ V, Vals c C R p V ∧ m_values_by [choiceD c, costsD C, intsD p, intsD R] = .ok (vecD V) then h.choose else []
theorem cOf_spec (g : GoodCh c) (gc : GoodCo c C) (nd : R.Nodup) (hp : Picks c p) (lv : Leaves (walkBy c p) R) : Vals c C R p (cOf c C R p) ∧ m_values_by [choiceD c, costsD C, intsD p, intsD R] = .ok (vecD (cOf c C R p)) := by
  have h := values_by_ok g gc nd hp lv
  unfold cOf
  rw [dif_pos h]
  exact h.choose_spec

/-! ### cheaper -/
theorem orV_ok {f h : Ex} {ρ : Rho} {a b : Bool} (e : f ρ = .ok (.bool a)) (k : h ρ = .ok (.bool b)) : orV f h ρ = .ok (.bool (a || b)) := by
  unfold orV
  rw [e]
  cases a with
  | true => rfl
  | false => exact k
theorem lies_in_ok {n : Nat} {s : Spread} (gs : GoodSp n s) : m_lies_in [spreadD s, intsD R, intsD G] = .ok (.bool (s.all fun q => decide (q.1 ∈ R) || decide (q.1 ∈ G))) := by
  refine run_rt ?_
  show gRet _ [some (spreadD s), some (intsD R), some (intsD G), none, none] = _
  have hc := comp_ok (vs := [3, 4]) (tg := .tp [3, 4]) (fi := itS (rd 0)) (ft := yes) (fe := orV (bin (rd 3) (rd 1) dIn) (bin (rd 3) (rd 2) dIn)) (ρ := [some (spreadD s), some (intsD R), some (intsD G), none, none])
    prD (fun _ => true) (fun q => PyData.bool (decide (q.1 ∈ R) || decide (q.1 ∈ G))) s (line_small (by have := gs.few; omega)) (itS_tuple rfl) fun q hq => ⟨[some (spreadD s), some (intsD R), some (intsD G), some (.int q.1), some (fr q.2)], rfl, rfl, fun _ => orV_ok (bin_ok rfl rfl (in_ints R q.1)) (bin_ok rfl rfl (in_ints G q.1))⟩
  rw [filter_yes] at hc
  refine gRet_ok (un_ok hc ?_)
  have := all_bools0 (s.map fun q => decide (q.1 ∈ R) || decide (q.1 ∈ G))
  rw [List.map_map, List.all_map] at this
  exact this
/-- the scan of a room's ways -/
structure ScanC (c : Choice) (C : Costs) (R G : List Nat) (V : List Rat) (r : Nat) (v0 : Rat) (k0 K : Nat) (b : Rat) (k : Nat) : Prop where
  or : (b = v0 ∧ k = k0 ∧ ∀ j, j < K → lies c R G r j = true → v0 ≤ wcost c C V r j) ∨ (b < v0 ∧ b = wcost c C V r k ∧ lies c R G r k = true ∧ k < (c.getD r []).length)
theorem ScanC.keep {V : List Rat} {r K k : Nat} {v0 b : Rat} {k0 : Nat} (h : ScanC c C R G V r v0 k0 K b k) (hn : lies c R G r K = true → ¬ wcost c C V r K < b) : ScanC c C R G V r v0 k0 (K + 1) b k := by
  rcases h.or with ⟨h1, h2, h3⟩ | h
  · refine ⟨.inl ⟨h1, h2, fun j hj hl => ?_⟩⟩
    by_cases d : j < K
    · exact h3 j d hl
    · have : j = K := by omega
      subst this
      have := hn hl
      rw [h1] at this
      grind
  · exact ⟨.inr h⟩
theorem ScanC.take {V : List Rat} {r K k : Nat} {v0 b : Rat} {k0 : Nat} (h : ScanC c C R G V r v0 k0 K b k) (hK : K < (c.getD r []).length) (hl : lies c R G r K = true) (hlt : wcost c C V r K < b) : ScanC c C R G V r v0 k0 (K + 1) (wcost c C V r K) K := by
  refine ⟨.inr ⟨?_, rfl, hl, hK⟩⟩
  rcases h.or with ⟨h1, _, _⟩ | ⟨h1, _, _⟩
  · rw [h1] at hlt; exact hlt
  · grind
/-- p' is p made cheaper by the values V -/
structure Cheap (c : Choice) (C : Costs) (R G : List Nat) (V : List Rat) (p p' : List Nat) : Prop where
  picks : Picks c p'
  room : ∀ r, r ∈ R → (p'.getD r 0 = p.getD r 0 ∧ ∀ k, k < (c.getD r []).length → lies c R G r k = true → V.getD r 0 ≤ wcost c C V r k) ∨ (lies c R G r (p'.getD r 0) = true ∧ wcost c C V r (p'.getD r 0) < V.getD r 0)
  rest : ∀ r, r ∉ R → p'.getD r 0 = p.getD r 0
structure CheapTo (c : Choice) (C : Costs) (R G : List Nat) (V : List Rat) (p p' done : List Nat) : Prop where
  picks : Picks c p'
  room : ∀ r, r ∈ done → (p'.getD r 0 = p.getD r 0 ∧ ∀ k, k < (c.getD r []).length → lies c R G r k = true → V.getD r 0 ≤ wcost c C V r k) ∨ (lies c R G r (p'.getD r 0) = true ∧ wcost c C V r (p'.getD r 0) < V.getD r 0)
  rest : ∀ r, r ∉ done → p'.getD r 0 = p.getD r 0
theorem sz_iq {k : Nat} (h : k ≤ 6) : Sz 3 (iq k) := by
  refine ⟨?_, ?_⟩
  · show ((k : Int) : Rat).num.natAbs < 8
    rw [Rat.num_intCast]
    omega
  · show ((k : Int) : Rat).den < 8
    rw [Rat.den_intCast]
    decide
theorem wcost_sz (g : GoodCh c) (gc : GoodCo c C) {V : List Rat} (hV : V.length = c.length) (hz : ∀ q, q ∈ V → Sz 127 q) {r k : Nat} (hr : r < c.length) (hk : k < (c.getD r []).length) : Sz 500 (wcost c C V r k) := by
  have gs := (way_get g hr hk).2
  have h1 := wsum_sz gs hV hz (by decide) (l := way c r k) fun q m => m
  have h2 := Nat.mul_le_mul_left (127 + 16) gs.few
  exact ((sz_iq (cst_get gc hr hk).2.2).add h1).mono (by omega)
theorem cheaper_ok (g : GoodCh c) (gc : GoodCo c C) (hR : R.Nodup) (hRn : ∀ r, r ∈ R → r < c.length) (hp : Picks c p) {V : List Rat} (hV : V.length = c.length) (hz : ∀ q, q ∈ V → Sz 127 q) : ∃ p', Cheap c C R G V p p' ∧ m_cheaper [choiceD c, costsD C, intsD G, intsD R, vecD V, intsD p] = .ok (intsD p') := by
  have hi := g.hi
  obtain ⟨ρ1, e1, p', c7, c8, c9, c10, hB, h1⟩ := forL_pre (tg := .nm 7) (g := gSeq (gSet 8 (bin (rd 4) (rd 7) dIx)) (gFor (.nm 9) (itR1 (un (bin (rd 0) (rd 7) dIx) dLen)) (gIf (asB (callD 3 m_lies_in (aCons (bin (bin (rd 0) (rd 7) dIx) (rd 9) dIx) (aCons (rd 3) (aCons (rd 2) aNil))))) (gSeq (gSet 10 (callD 2 m_plus (aCons (mkTup (aCons (bin (bin (rd 1) (rd 7) dIx) (rd 9) dIx) (aCons (kc (.int 1)) aNil))) (aCons (callD 2 m_made_of (aCons (bin (bin (rd 0) (rd 7) dIx) (rd 9) dIx) (aCons (rd 4) aNil))) aNil)))) (gIf (asB (callD 2 m_below (aCons (rd 10) (aCons (rd 8) aNil)))) (gSeq (gSet 8 (rd 10)) (gPutL 6 (rd 7) (rd 9))) gSkip)) gSkip)))
    (fun k : Nat => PyData.int k) (fun pre ρ => ∃ p' c7 c8 c9 c10, CheapTo c C R G V p p' pre ∧ ρ = [some (choiceD c), some (costsD C), some (intsD G), some (intsD R), some (vecD V), some (intsD p), some (intsD p'), c7, c8, c9, c10]) R (fun pre r post ρ e hp0 => by
      obtain ⟨p', c7, c8, c9, c10, hB, rfl⟩ := hp0
      have hrR : r ∈ R := by rw [e]; exact List.mem_append_right _ List.mem_cons_self
      have hr : r < c.length := hRn r hrR
      have hnp : r ∉ pre := fun m => by
        rw [e, List.nodup_append] at hR
        exact hR.2.2 r m r List.mem_cons_self rfl
      have hg := getD_ok (l := V) (j := r) (by rw [hV]; exact hr)
      obtain ⟨hrow, hrm⟩ := row_get hr
      obtain ⟨w1, w2, _⟩ := g.row _ hrm
      have hp'l : p'.length = c.length := hB.picks.len
      have erow : ∀ ρ : Rho, rd 0 ρ = .ok (choiceD c) → rd 7 ρ = .ok (.int r) → bin (rd 0) (rd 7) dIx ρ = .ok (waysD (c.getD r [])) := fun ρ h0 h7 => bin_ok h0 h7 (ix_choice hrow)
      obtain ⟨ρ2, e2, b, k, d9, d10, hS, hbz, hkl, h2⟩ := forL_pre (tg := .nm 9) (g := gIf (asB (callD 3 m_lies_in (aCons (bin (bin (rd 0) (rd 7) dIx) (rd 9) dIx) (aCons (rd 3) (aCons (rd 2) aNil))))) (gSeq (gSet 10 (callD 2 m_plus (aCons (mkTup (aCons (bin (bin (rd 1) (rd 7) dIx) (rd 9) dIx) (aCons (kc (.int 1)) aNil))) (aCons (callD 2 m_made_of (aCons (bin (bin (rd 0) (rd 7) dIx) (rd 9) dIx) (aCons (rd 4) aNil))) aNil)))) (gIf (asB (callD 2 m_below (aCons (rd 10) (aCons (rd 8) aNil)))) (gSeq (gSet 8 (rd 10)) (gPutL 6 (rd 7) (rd 9))) gSkip)) gSkip)
        (fun k : Nat => PyData.int k) (fun ks ρ => ∃ b k d9 d10, ScanC c C R G V r (V.getD r 0) (p'.getD r 0) ks.length b k ∧ Sz 500 b ∧ k < (c.getD r []).length ∧ ρ = [some (choiceD c), some (costsD C), some (intsD G), some (intsD R), some (vecD V), some (intsD p), some (intsD (p'.set r k)), some (.int r), some (fr b), d9, d10]) (List.range (c.getD r []).length) (fun ks K rest ρ ek hp2 => by
          obtain ⟨b, k, d9, d10, hS, hbz, hkl, rfl⟩ := hp2
          have hK : K < (c.getD r []).length := by have : K ∈ List.range (c.getD r []).length := (by rw [ek]; exact List.mem_append_right _ List.mem_cons_self); exact List.mem_range.mp this
          have hksK : ks.length = K := by
            have h1 : (List.range (c.getD r []).length)[ks.length]? = some K := by rw [ek, List.getElem?_append_right (Nat.le_refl _), Nat.sub_self]; rfl
            have hlt := (List.getElem?_eq_some_iff.mp h1).1
            rw [List.length_range] at hlt
            rw [List.getElem?_range hlt] at h1
            exact Option.some.inj h1
          obtain ⟨hway, gs⟩ := way_get g hr hK
          have e9 : (ks ++ [K]).length = K + 1 := by rw [List.length_append, hksK]; rfl
          rw [hksK] at hS
          have ez : ∀ x10 : Option D, asB (callD 3 m_lies_in (aCons (bin (bin (rd 0) (rd 7) dIx) (rd 9) dIx) (aCons (rd 3) (aCons (rd 2) aNil)))) [some (choiceD c), some (costsD C), some (intsD G), some (intsD R), some (vecD V), some (intsD p), some (intsD (p'.set r k)), some (.int r), some (fr b), some (.int K), x10] = .ok (lies c R G r K) := fun x10 => asB_ok ((call3 (bin_ok (erow _ rfl rfl) rfl (ix_ways hway)) rfl rfl).trans (lies_in_ok gs))
          have em : callD 2 m_plus (aCons (mkTup (aCons (bin (bin (rd 1) (rd 7) dIx) (rd 9) dIx) (aCons (kc (.int 1)) aNil))) (aCons (callD 2 m_made_of (aCons (bin (bin (rd 0) (rd 7) dIx) (rd 9) dIx) (aCons (rd 4) aNil))) aNil)) [some (choiceD c), some (costsD C), some (intsD G), some (intsD R), some (vecD V), some (intsD p), some (intsD (p'.set r k)), some (.int r), some (fr b), some (.int K), d10] = .ok (fr (wcost c C V r K)) := by
            have h1 := wsum_sz gs hV hz (by decide) (l := way c r K) fun q m => m
            have h2 := Nat.mul_le_mul_left (127 + 16) gs.few
            obtain ⟨q1, q2, q3⟩ := cst_get gc hr hK
            exact (call2 (mkTup_ok (l := [.int (cst C r K), .int 1]) (aCons_ok (bin_ok (bin_ok rfl rfl (ix_costs gc hr)) rfl (ix_ints q1)) (aCons_ok rfl rfl)) rfl) ((call2 (bin_ok (erow _ rfl rfl) rfl (ix_ways hway)) rfl).trans (made_of_ok gs hV hz (by decide) (by decide)))).trans (plus_ok (a := iq (cst C r K)) ((sz_iq q3).mono (by decide)) (h1.mono (by omega)))
          have hcz := wcost_sz g gc hV hz hr hK
          have eb : asB (callD 2 m_below (aCons (rd 10) (aCons (rd 8) aNil))) [some (choiceD c), some (costsD C), some (intsD G), some (intsD R), some (vecD V), some (intsD p), some (intsD (p'.set r k)), some (.int r), some (fr b), some (.int K), some (fr (wcost c C V r K))] = .ok (decide (wcost c C V r K < b)) := asB_ok ((call2 rfl rfl).trans (below_ok _ b hcz hbz))
          have ez := ez d10
          cases hl : lies c R G r K with
          | false =>
            rw [hl] at ez
            refine ⟨[some (choiceD c), some (costsD C), some (intsD G), some (intsD R), some (vecD V), some (intsD p), some (intsD (p'.set r k)), some (.int r), some (fr b), some (.int K), d10], _, rfl, gIf_s ez, b, k, _, _, ?_, hbz, hkl, rfl⟩
            rw [e9]
            exact hS.keep fun z => by rw [hl] at z; cases z
          | true =>
            rw [hl] at ez
            by_cases hb : wcost c C V r K < b
            · rw [decide_eq_true hb] at eb
              refine ⟨[some (choiceD c), some (costsD C), some (intsD G), some (intsD R), some (vecD V), some (intsD p), some (intsD (p'.set r k)), some (.int r), some (fr b), some (.int K), d10], [some (choiceD c), some (costsD C), some (intsD G), some (intsD R), some (vecD V), some (intsD p), some (intsD (p'.set r K)), some (.int r), some (fr (wcost c C V r K)), some (.int K), some (fr (wcost c C V r K))], rfl, (gIf_t ez).trans ((gSeq_nx (gSet_ok em)).trans ((gIf_t eb).trans ((gSeq_nx (gSet_ok rfl)).trans ?_))), wcost c C V r K, K, some (.int K), some (fr (wcost c C V r K)), ?_, hcz, hK, rfl⟩
              · refine (gPutL_ok (l := (p'.set r k).map fun j : Nat => PyData.int j) (k := (r : Int)) (d := .int K) rfl rfl rfl (lSet_nat (by rw [List.length_map, List.length_set, hp'l]; exact hr))).trans ?_
                rw [set_ints, List.set_set]
                rfl
              · rw [e9]
                exact hS.take hK hl hb
            · rw [decide_eq_false hb] at eb
              refine ⟨[some (choiceD c), some (costsD C), some (intsD G), some (intsD R), some (vecD V), some (intsD p), some (intsD (p'.set r k)), some (.int r), some (fr b), some (.int K), d10], _, rfl, (gIf_t ez).trans ((gSeq_nx (gSet_ok em)).trans (gIf_s eb)), b, k, _, _, ?_, hbz, hkl, rfl⟩
              rw [e9]
              exact hS.keep fun _ => hb) (ρ := [some (choiceD c), some (costsD C), some (intsD G), some (intsD R), some (vecD V), some (intsD p), some (intsD (p'.set r (p'.getD r 0))), some (.int r), some (fr (V.getD r 0)), c9, c10]) ⟨V.getD r 0, p'.getD r 0, c9, c10, ⟨.inl ⟨rfl, rfl, fun j h => absurd h (Nat.not_lt_zero j)⟩⟩, (hz _ hg.2).mono (by decide), (hB.picks.at hr).1, rfl⟩
      have hset : p'.set r (p'.getD r 0) = p' := by
        apply List.ext_getElem?
        intro i
        by_cases c : r = i
        · subst c
          rw [List.getElem?_set_self (by rw [hp'l]; exact hr), (hB.picks.at hr).2]
        · rw [List.getElem?_set_ne c]
      rw [hset] at e2
      subst h2
      have hrest := hB.rest r hnp
      refine ⟨[some (choiceD c), some (costsD C), some (intsD G), some (intsD R), some (vecD V), some (intsD p), some (intsD p'), some (.int r), c8, c9, c10], _, rfl, (gSeq_nx (gSet_ok (bin_ok rfl rfl (ix_vec hg.1)))).trans (gFor_nx (itR1_nat (n := (c.getD r []).length) (un_ok (erow _ rfl rfl) (len_ways _)) (by omega)) e2), p'.set r k, some (.int r), some (fr b), d9, d10, ?_, rfl⟩
      refine ⟨picks_set hB.picks hr hkl, fun i h1 => ?_, fun i h1 => ?_⟩
      · by_cases ei : r = i
        · subst ei
          rw [getD_set_self (by rw [hp'l]; exact hr)]
          rw [List.length_range] at hS
          rcases hS.or with ⟨_, rfl, h3⟩ | ⟨h3, h4, h5, _⟩
          · exact .inl ⟨hrest, h3⟩
          · exact .inr ⟨h5, by rw [h4] at h3; exact h3⟩
        · rw [getD_set_ne ei]
          refine hB.room i ?_
          rcases List.mem_append.mp h1 with h1 | h1
          · exact h1
          · exact absurd (List.mem_singleton.mp h1).symm ei
      · have ne : r ≠ i := fun z => h1 (by rw [z]; exact List.mem_append_right _ List.mem_cons_self)
        rw [getD_set_ne ne]
        exact hB.rest i fun z => h1 (List.mem_append_left _ z)) (ρ := [some (choiceD c), some (costsD C), some (intsD G), some (intsD R), some (vecD V), some (intsD p), some (intsD p), none, none, none, none]) ⟨p, none, none, none, none, ⟨hp, (fun r h => by cases h), fun r _ => rfl⟩, rfl⟩
  refine ⟨p', ⟨hB.picks, hB.room, hB.rest⟩, run_rt ?_⟩
  show gSeq _ _ [some (choiceD c), some (costsD C), some (intsD G), some (intsD R), some (vecD V), some (intsD p), none, none, none, none, none] = _
  refine (gSeq_nx (gSet_ok (un_ok rfl (list_ints p)))).trans ?_
  refine (gSeq_nx (gFor_nx (itS_list rfl) e1)).trans ?_
  subst h1
  exact gRet_ok rfl
end
end LW
end

section
set_option Elab.async false
set_option linter.all false
set_option maxRecDepth 100000
set_option maxHeartbeats 2000000
set_option exponentiation.threshold 100000
set_option autoImplicit false
/-! PCQ: cheaper picks cost less, and still come to goals. -/
namespace LW
open PySem hiding run
open L2 hiding bin
open DL

/-- rooms that are no goals and come to goals for sure -/
def sureR (c : Choice) (G : List Nat) (v : List Rat) : List Nat := (List.range c.length).filter fun r => decide (v.getD r 0 = 1) && !decide (r ∈ G)
theorem mem_sure {c : Choice} {G : List Nat} {v : List Rat} {a : Nat} : a ∈ sureR c G v ↔ a < c.length ∧ v.getD a 0 = 1 ∧ a ∉ G := by
  unfold sureR
  rw [List.mem_filter, List.mem_range, Bool.and_eq_true]
  simp
theorem sure_nodup (c : Choice) (G : List Nat) (v : List Rat) : (sureR c G v).Nodup := List.nodup_range.filter _
structure Fit (c : Choice) (R G p : List Nat) : Prop where
  picks : Picks c p
  shut : ∀ r, r ∈ R → lies c R G r (p.getD r 0) = true
  lv : Leaves (walkBy c p) R
section
variable {c : Choice} {C : Costs} {G R p p' q : List Nat}
theorem Fit.lt (f : Fit c R G p) {r : Nat} (hr : r ∈ R) : r < c.length := by
  have := (f.lv r hr).1
  rw [walkBy_len f.picks] at this
  exact this
theorem sure_shut (g : GoodCh c) (hG : Gls c.length G) (hp : Picks c p) {r : Nat} (hr : r ∈ sureR c G (vOf c G p)) : lies c (sureR c G (vOf c G p)) G r (p.getD r 0) = true := by
  obtain ⟨h1, h2, h3⟩ := mem_sure.mp hr
  have gs := (way_get g h1 (hp.at h1).1).2
  have top := mean_top gs (f := val (vOf c G p)) (M := 1) (fun q _ => (vOf_bounds g hG hp q.1).2) (by rw [vOf_harm g hG hp h1 h3, h2]; exact Rat.le_refl)
  refine lies_of fun q hq => ?_
  by_cases d : q.1 ∈ G
  · exact .inr d
  · exact .inl (mem_sure.mpr ⟨(gs.mem q hq).1, top q hq, d⟩)
theorem sure_leaves (g : GoodCh c) (hG : Gls c.length G) (hp : Picks c p) : Leaves (walkBy c p) (sureR c G (vOf c G p)) := fun r hr => by
  obtain ⟨h1, h2, h3⟩ := mem_sure.mp hr
  have hc : Come (walkBy c p) G r := Classical.byContradiction fun z => by
    have := (vOf_spec g hG hp).1.lost r z
    rw [this] at h2
    exact absurd h2 (by decide)
  obtain ⟨y, hy, path⟩ := hc
  exact ⟨by rw [walkBy_len hp]; exact h1, y, fun z => (mem_sure.mp z).2.2 hy, path⟩
theorem fit_start (g : GoodCh c) (hG : Gls c.length G) (hM : Most c G p) : Fit c (sureR c G (vOf c G p)) G p := ⟨hM.picks, fun r hr => sure_shut g hG hM.picks hr, sure_leaves g hG hM.picks⟩
theorem iq_one {k : Nat} (h : 1 ≤ k) : 1 ≤ iq k := by
  have h1 : ((1 : Int) : Rat) ≤ ((k : Int) : Rat) := Rat.intCast_le_intCast.mpr (by omega)
  exact h1
/-- the new way costs no more -/
theorem cheap_le {V : List Rat} (hV : Vals c C R p V) (hB : Cheap c C R G V p p') {r : Nat} (hr : r ∈ R) : wcost c C V r (p'.getD r 0) ≤ V.getD r 0 := by
  rcases hB.room r hr with ⟨h, _⟩ | ⟨_, h⟩
  · rw [h, ← hV.mean r hr]
    exact Rat.le_refl
  · exact Rat.le_of_lt h
theorem fit_cheap (g : GoodCh c) (gc : GoodCo c C) (hRG : ∀ r, r ∈ R → r ∉ G) (f : Fit c R G p) {V : List Rat} (hV : Vals c C R p V) (hB : Cheap c C R G V p p') : Fit c R G p' := by
  have hp' := hB.picks
  have shut : ∀ r, r ∈ R → lies c R G r (p'.getD r 0) = true := fun r hr => by
    rcases hB.room r hr with ⟨h, _⟩ | ⟨h, _⟩
    · rw [h]; exact f.shut r hr
    · exact h
  refine ⟨hp', shut, fun r hr => ?_⟩
  have hc : Come (walkBy c p') G r := Classical.byContradiction fun hno => by
    let L := R.filter fun r => @decide (¬ Come (walkBy c p') G r) (Classical.propDecidable _)
    have hL : ∀ r, r ∈ L ↔ r ∈ R ∧ ¬ Come (walkBy c p') G r := fun r => by
      show r ∈ List.filter _ _ ↔ _
      rw [List.mem_filter, @decide_eq_true_iff _ (Classical.propDecidable _)]
    obtain ⟨t, ht, top⟩ := top_of (fun r => -1 * V.getD r 0) L (fun z => by have := (hL r).mpr ⟨hr, hno⟩; rw [z] at this; cases this)
    obtain ⟨ht1, ht2⟩ := (hL t).mp ht
    have htn := f.lt ht1
    have gs := (way_get g htn (hp'.at htn).1).2
    have succ : ∀ x, x ∈ way c t (p'.getD t 0) → x.1 ∈ L := fun x hx => by
      have ed : Edge (walkBy c p') t x.1 := ⟨x, by rw [walkBy_get hp' htn]; exact hx, rfl⟩
      rcases lies_mem (shut t ht1) hx with h | h
      · exact (hL x.1).mpr ⟨h, fun ⟨y, hy, py⟩ => ht2 ⟨y, hy, .step ed py⟩⟩
      · exact absurd ⟨x.1, h, .step ed (.refl _)⟩ ht2
    have h1 := wsum_le (way c t (p'.getD t 0)) (fun _ => V.getD t 0) (val V) (fun q hq => (gs.mem q hq).2.1) (fun q hq => by
      have := top q.1 (succ q hq)
      show V.getD t 0 ≤ V.getD q.1 0
      grind)
    rw [wsum_const, gs.sum, Rat.one_mul] at h1
    have h2 := cheap_le hV hB ht1
    unfold wcost at h2
    have h3 := iq_one (cst_get gc htn (hp'.at htn).1).2.1
    grind
  obtain ⟨y, hy, path⟩ := hc
  exact ⟨by rw [walkBy_len hp']; exact f.lt hr, y, fun z => hRG y z hy, path⟩
theorem cheap_down (g : GoodCh c) (f' : Fit c R G p') {V V' : List Rat} (hV : Vals c C R p V) (hV' : Vals c C R p' V') (hB : Cheap c C R G V p p') : ∀ r, V'.getD r 0 ≤ V.getD r 0 := by
  have hp' := f'.picks
  have gw := walkBy_good g hp'
  have key := rim gw f'.lv (f := fun r => V'.getD r 0 - V.getD r 0) (fun r hr => by
    have e : wsum ((walkBy c p').getD r []) (fun r => V'.getD r 0 - V.getD r 0) = wsum (way c r (p'.getD r 0)) (val V') - wsum (way c r (p'.getD r 0)) (val V) := by
      rw [walkBy_get hp' (f'.lt hr)]
      exact wsum_sub _ _ _
    rw [e]
    have h1 := cheap_le hV hB hr
    have h2 := hV'.mean r hr
    unfold wcost at h1 h2
    show V'.getD r 0 - V.getD r 0 ≤ _
    grind) (fun b hb => by
    show V'.getD b 0 - V.getD b 0 ≤ 0
    rw [hV'.out b hb, hV.out b hb]
    grind)
  intro r
  have := key r
  grind
theorem cheap_less (g : GoodCh c) (f' : Fit c R G p') {V V' : List Rat} (hV : Vals c C R p V) (hV' : Vals c C R p' V') (hB : Cheap c C R G V p p') {r : Nat} (hr : r ∈ R) (hne : p'.getD r 0 ≠ p.getD r 0) : V'.getD r 0 < V.getD r 0 := by
  have hp' := f'.picks
  rcases hB.room r hr with ⟨h, _⟩ | ⟨_, h⟩
  · exact absurd h hne
  · have gs := (way_get g (f'.lt hr) (hp'.at (f'.lt hr)).1).2
    have h1 := wsum_le (way c r (p'.getD r 0)) (val V') (val V) (fun q hq => (gs.mem q hq).2.1) (fun q _ => cheap_down g f' hV hV' hB q.1)
    have h2 := hV'.mean r hr
    unfold wcost at h h2
    grind
noncomputable def lessOf (c : Choice) (C : Costs) (R p : List Nat) : Rat := -1 * S c.length fun r => (cOf c C R p).getD r 0
theorem cheap_sum (g : GoodCh c) (gc : GoodCo c C) (nd : R.Nodup) (f : Fit c R G p) (f' : Fit c R G p') (hB : Cheap c C R G (cOf c C R p) p p') (hne : p' ≠ p) : lessOf c C R p < lessOf c C R p' := by
  have hV := (cOf_spec g gc nd f.picks f.lv).1
  have hV' := (cOf_spec g gc nd f'.picks f'.lv).1
  obtain ⟨r, hr⟩ : ∃ r, ¬ (r < c.length → p'.getD r 0 = p.getD r 0) := Classical.byContradiction fun z => hne (picks_ext hB.picks f.picks fun r hr => Classical.byContradiction fun y => z ⟨r, fun x => y (x hr)⟩)
  obtain ⟨hr1, hr2⟩ := Classical.not_imp.mp hr
  have hrR : r ∈ R := Classical.byContradiction fun z => hr2 (hB.rest r z)
  have := S_lt (f := fun r => (cOf c C R p').getD r 0) (h := fun r => (cOf c C R p).getD r 0) (fun j _ => cheap_down g f' hV hV' hB j) hr1 (cheap_less g f' hV hV' hB hrR hr2)
  unfold lessOf
  grind
/-- no way costs less -/
theorem cheap_best {V : List Rat} (hV : Vals c C R p V) (hB : Cheap c C R G V p p) {r : Nat} (hr : r ∈ R) : ∀ k, k < (c.getD r []).length → lies c R G r k = true → V.getD r 0 ≤ wcost c C V r k := by
  rcases hB.room r hr with ⟨_, h⟩ | ⟨_, h⟩
  · exact h
  · rw [← hV.mean r hr] at h
    exact absurd h (by grind)
/-! ### the picks that are told -/
def finP (c : Choice) (R p : List Nat) : List Nat := (List.range c.length).map fun r => if r ∈ R then p.getD r 0 else 0
theorem finP_get {r : Nat} (h : r < c.length) : (finP c R p)[r]? = some (if r ∈ R then p.getD r 0 else 0) := by
  unfold finP
  rw [List.getElem?_map, List.getElem?_range h]
  rfl
theorem finP_getD {r : Nat} (h : r < c.length) : (finP c R p).getD r 0 = if r ∈ R then p.getD r 0 else 0 := by
  rw [List.getD_eq_getElem?_getD, finP_get h]
  rfl
theorem finP_picks (g : GoodCh c) (hp : Picks c p) : Picks c (finP c R p) := ⟨by unfold finP; rw [List.length_map, List.length_range], fun i k h => by
  have hi : i < c.length := by
    have := (List.getElem?_eq_some_iff.mp h).1
    unfold finP at this
    rwa [List.length_map, List.length_range] at this
  rw [finP_get hi] at h
  cases h
  split
  · exact (hp.at hi).1
  · have := (g.row _ (row_get hi).2).1
    omega⟩
theorem leaves_same {w w' : Walk} (lv : Leaves w R) (hl : w'.length = w.length) (h : ∀ r, r ∈ R → w'.getD r [] = w.getD r []) : Leaves w' R := fun r hr => by
  obtain ⟨h1, b, hb, path⟩ := lv r hr
  have key : ∀ a b, Path w a b → b ∉ R → ∃ b', b' ∉ R ∧ Path w' a b' := by
    intro a b path
    induction path with
    | refl a => exact fun hb => ⟨a, hb, .refl a⟩
    | step ed _ ih =>
      rename_i a b' c' _
      intro hb
      by_cases d : a ∈ R
      · obtain ⟨y, hy, py⟩ := ih hb
        obtain ⟨x, hx, e⟩ := ed
        exact ⟨y, hy, .step ⟨x, by rw [h a d]; exact hx, e⟩ py⟩
      · exact ⟨a, d, .refl a⟩
  obtain ⟨b', hb', p'⟩ := key r b path hb
  exact ⟨by rw [hl]; exact h1, b', hb', p'⟩
theorem final_sure (g : GoodCh c) (hG : Gls c.length G) (f : Fit c R G p) {r : Nat} (hr : r ∈ R ∨ r ∈ G) : (vOf c G (finP c R p)).getD r 0 = 1 := by
  have hq := finP_picks (R := R) g f.picks
  have gw := walkBy_good g hq
  by_cases hg : r ∈ G
  · exact vOf_goal g hG hq hg
  have hr : r ∈ R := hr.resolve_right hg
  have hway : ∀ a, a ∈ R → way c a ((finP c R p).getD a 0) = way c a (p.getD a 0) := fun a ha => by rw [finP_getD (f.lt ha), if_pos ha]
  have lv : Leaves (walkBy c (finP c R p)) R := leaves_same f.lv (by rw [walkBy_len hq, walkBy_len f.picks]) fun a ha => by
    rw [walkBy_get hq (f.lt ha), walkBy_get f.picks (f.lt ha)]
    exact hway a ha
  have key := rim gw lv (f := fun b => if b ∈ R ∨ b ∈ G then 1 - (vOf c G (finP c R p)).getD b 0 else 0) (fun a ha => by
    rw [walkBy_get hq (f.lt ha)]
    show (if a ∈ R ∨ a ∈ G then _ else _) ≤ _
    rw [if_pos (.inl ha)]
    by_cases hag : a ∈ G
    · rw [vOf_goal g hG hq hag]
      have gs := (way_get g (f.lt ha) (hq.at (f.lt ha)).1).2
      have := wsum_le (way c a ((finP c R p).getD a 0)) (fun _ => 0) (fun b => if b ∈ R ∨ b ∈ G then 1 - (vOf c G (finP c R p)).getD b 0 else 0) (fun q hq => (gs.mem q hq).2.1) (fun q _ => by
        show (0 : Rat) ≤ if q.1 ∈ R ∨ q.1 ∈ G then _ else _
        split
        · have := (vOf_bounds g hG hq q.1).2
          grind
        · exact Rat.le_refl)
      rw [wsum_const, Rat.mul_zero] at this
      have e : (1 : Rat) - 1 = 0 := by grind
      rw [e]
      exact this
    · have gs := (way_get g (f.lt ha) (hq.at (f.lt ha)).1).2
      have e1 : wsum (way c a ((finP c R p).getD a 0)) (fun b => if b ∈ R ∨ b ∈ G then 1 - (vOf c G (finP c R p)).getD b 0 else 0) = wsum (way c a ((finP c R p).getD a 0)) (fun b => (fun _ => 1) b - (val (vOf c G (finP c R p))) b) := wsum_congr _ fun x hx => by
        rw [hway a ha] at hx
        rw [if_pos (lies_mem (f.shut a ha) hx)]
      have e2 := wsum_sub (way c a ((finP c R p).getD a 0)) (fun _ => 1) (val (vOf c G (finP c R p)))
      rw [wsum_const, gs.sum, Rat.one_mul, vOf_harm g hG hq (f.lt ha) hag] at e2
      have e3 := e1.trans e2
      rw [e3]
      exact Rat.le_refl) (fun b hb => by
    show (if b ∈ R ∨ b ∈ G then _ else _) ≤ _
    split
    · rename_i h
      rw [vOf_goal g hG hq (h.resolve_left hb)]
      grind
    · exact Rat.le_refl) r
  have key : (if r ∈ R ∨ r ∈ G then 1 - (vOf c G (finP c R p)).getD r 0 else 0) ≤ 0 := key
  rw [if_pos (.inl hr)] at key
  have := (vOf_bounds g hG hq r).2
  grind
/-- where all costs are one: waits by any picks are no less -/
theorem waits_more (g : GoodCh c) (hG : Gls c.length G) (hM : Most c G q) (alike : ∀ r k, r < c.length → k < (c.getD r []).length → cst C r k = 1) {V : List Rat} (hV : Vals c C (sureR c G (vOf c G q)) p V)
    (hb : ∀ r, r ∈ sureR c G (vOf c G q) → ∀ k, k < (c.getD r []).length → lies c (sureR c G (vOf c G q)) G r k = true → V.getD r 0 ≤ wcost c C V r k) {o : List Nat} (ho : Picks c o) {made : List Rat} (hW : Waits (walkBy c o) G (vOf c G o) made) {r : Nat} (hr : r < c.length) (h1 : (vOf c G o).getD r 0 = 1) : V.getD r 0 ≤ made.getD r 0 := by
  have gw := walkBy_good g ho
  have up : ∀ a, (vOf c G o).getD a 0 = 1 → (vOf c G q).getD a 0 = 1 := fun a ha => by
    have h1 := best_of g hG hM.picks hM.best ho a
    have h2 := (vOf_bounds g hG hM.picks a).2
    grind
  have sub : ∀ a, a ∈ sureR c G (vOf c G o) → a ∈ sureR c G (vOf c G q) := fun a ha => by
    obtain ⟨h1, h2, h3⟩ := mem_sure.mp ha
    exact mem_sure.mpr ⟨h1, up a h2, h3⟩
  have key := rim gw (sure_leaves g hG ho) (f := fun b => if b ∈ sureR c G (vOf c G o) then V.getD b 0 - made.getD b 0 else 0) (fun a ha => by
    obtain ⟨ha1, ha2, ha3⟩ := mem_sure.mp ha
    rw [walkBy_get ho ha1]
    show (if a ∈ sureR c G (vOf c G o) then _ else _) ≤ _
    rw [if_pos ha]
    have hl := sure_shut g hG ho ha
    have hl2 : lies c (sureR c G (vOf c G q)) G a (o.getD a 0) = true := lies_of fun x hx => (lies_mem hl hx).imp (sub x.1) id
    have e1 := hb a (sub a ha) _ (ho.at ha1).1 hl2
    unfold wcost at e1
    rw [alike a _ ha1 (ho.at ha1).1] at e1
    have e2 := hW.mean a (by rw [walkBy_len ho]; exact ha1) ha3 ha2
    rw [walkBy_get ho ha1] at e2
    have e3 : wsum (way c a (o.getD a 0)) (fun b => if b ∈ sureR c G (vOf c G o) then V.getD b 0 - made.getD b 0 else 0) = wsum (way c a (o.getD a 0)) (fun b => (val V) b - (fun b => made.getD b 0) b) := wsum_congr _ fun x hx => by
      rcases lies_mem hl hx with h | h
      · rw [if_pos h]
      · have n1 : x.1 ∉ sureR c G (vOf c G o) := fun z => (mem_sure.mp z).2.2 h
        have n2 : x.1 ∉ sureR c G (vOf c G q) := fun z => (mem_sure.mp z).2.2 h
        rw [if_neg n1]
        show (0 : Rat) = V.getD x.1 0 - made.getD x.1 0
        rw [hV.out _ n2, hW.goal _ h]
        grind
    have e4 := wsum_sub (way c a (o.getD a 0)) (val V) (fun b => made.getD b 0)
    have e5 : iq 1 = 1 := rfl
    rw [e5] at e1
    rw [e3, e4]
    have e2' : made.getD a 0 = 1 + wsum (way c a (o.getD a 0)) (fun b => made.getD b 0) := e2
    grind) (fun b hb => by
    show (if b ∈ sureR c G (vOf c G o) then _ else _) ≤ _
    rw [if_neg hb]
    exact Rat.le_refl) r
  by_cases hg : r ∈ G
  · rw [hV.out r fun z => (mem_sure.mp z).2.2 hg, hW.goal r hg]
    exact Rat.le_refl
  · have hm : r ∈ sureR c G (vOf c G o) := mem_sure.mpr ⟨hr, h1, hg⟩
    have key : (if r ∈ sureR c G (vOf c G o) then V.getD r 0 - made.getD r 0 else 0) ≤ 0 := key
    rw [if_pos hm] at key
    grind
/-! ### lent -/
theorem dryA_map {α : Type} {f : α → D} (h : ∀ a, dryB (f a) = true) : ∀ l : List α, dryA (l.map f) = true
  | [] => rfl
  | a :: l => by
    show (dryB (f a) && dryA (l.map f)) = true
    rw [h a, dryA_map h l]
    rfl
theorem dry_vec (v : List Rat) : dryL (vecD v) = true := dryA_map (fun q => by kernel_rfl) v
theorem dry_ints (l : List Nat) : dryL (intsD l) = true := dryA_map (fun q => rfl) l
theorem lendE_ok {l : List Nat} {f : Ex} {ρ : Rho} {d : D} (h : allIn l ρ = true) (e : f ρ = .ok d) (hd : dryL d = true) : lendE l f ρ = .ok d := by
  unfold lendE
  rw [if_pos h, e]
  show (if dryL d = true then Res.ok d else .bad) = _
  rw [if_pos hd]
theorem need_costs_ok (g : GoodCh c) (gc : GoodCo c C) : m_need_costs [choiceD c, costsD C] = .ok .none := by
  have hi := g.hi
  have hne : ∀ n : Nat, dNe (.int (n : Nat)) (.int (n : Nat)) = some (.bool false) := fun n => by rw [ne_int]; simp
  obtain ⟨ρ1, e1, x2, x3, x4, h1⟩ := forL_pre (tg := .tp [2, 3]) (g := gSeq (gIf (orT (notT (asB (un (rd 3) (dIsi "list")))) (asB (bin (un (rd 3) dLen) (un (rd 2) dLen) dNe))) (gRaise ("NoCosts" : PySem.Str)) gSkip) (gFor (.nm 4) (itS (rd 3)) (gIf (orT (notT (asB (callD 1 m_is_whole (aCons (rd 4) aNil)))) (asB (bin (rd 4) (kc (.int 1)) dLt))) (gRaise ("NoCosts" : PySem.Str)) gSkip)))
    (fun q : List Spread × List Nat => PyData.tuple [waysD q.1, intsD q.2]) (fun _ ρ => ∃ x2 x3 x4, ρ = [some (choiceD c), some (costsD C), x2, x3, x4]) (List.zip c C) (fun pre q post ρ e hp => by
      obtain ⟨x2, x3, x4, rfl⟩ := hp
      have hq : q ∈ List.zip c C := by rw [e]; exact List.mem_append_right _ List.mem_cons_self
      obtain ⟨i, hi, eq⟩ := List.mem_iff_getElem.mp hq
      rw [List.length_zip, gc.len, Nat.min_self] at hi
      have hz : (List.zip c C)[i]? = some (c.getD i [], C.getD i []) := List.getElem?_zip_eq_some.mpr ⟨(row_get hi).1, (crow_get gc hi).1⟩
      have e2 : q = (c.getD i [], C.getD i []) := by
        have hil : i < (List.zip c C).length := by rw [List.length_zip, gc.len, Nat.min_self]; exact hi
        rw [List.getElem?_eq_getElem hil, eq] at hz
        exact Option.some.inj hz
      subst e2
      have hl := gc.row i hi
      obtain ⟨ρ2, f2, y4, h2⟩ := forL_pre (tg := .nm 4) (g := gIf (orT (notT (asB (callD 1 m_is_whole (aCons (rd 4) aNil)))) (asB (bin (rd 4) (kc (.int 1)) dLt))) (gRaise ("NoCosts" : PySem.Str)) gSkip) (fun k : Nat => PyData.int k)
        (fun _ ρ => ∃ y4, ρ = [some (choiceD c), some (costsD C), some (waysD (c.getD i [])), some (intsD (C.getD i [])), y4]) (C.getD i []) (fun pre k post ρ e3 hp => by
          obtain ⟨y4, rfl⟩ := hp
          have hk := gc.cost _ (crow_get gc hi).2 k (by rw [e3]; exact List.mem_append_right _ List.mem_cons_self)
          exact ⟨[some (choiceD c), some (costsD C), some (waysD (c.getD i [])), some (intsD (C.getD i [])), some (.int k)], _, rfl, gIf_s (orT_f (notT_ok (b := true) (asB_ok ((call1 rfl).trans (is_whole_ok _)))) (asB_ok (bin_ok rfl rfl (lt_f (by omega))))), _, rfl⟩) (ρ := [some (choiceD c), some (costsD C), some (waysD (c.getD i [])), some (intsD (C.getD i [])), x4]) ⟨_, rfl⟩
      subst h2
      refine ⟨[some (choiceD c), some (costsD C), some (waysD (c.getD i [])), some (intsD (C.getD i [])), x4], _, rfl, (gSeq_nx (gIf_s (orT_f (notT_ok (b := true) (asB_ok (un_ok rfl (isi_list _)))) (asB_ok (bin_ok (un_ok rfl (len_ints _)) (un_ok rfl (len_ways _)) (by rw [hl]; exact hne _)))))).trans (gFor_nx (itS_list rfl) f2), _, _, _, rfl⟩) (ρ := [some (choiceD c), some (costsD C), none, none, none]) ⟨_, _, _, rfl⟩
  subst h1
  refine run_nx (ρ := [some (choiceD c), some (costsD C), x2, x3, x4]) ?_
  show gSeq _ _ [some (choiceD c), some (costsD C), none, none, none] = _
  refine (gSeq_nx (gIf_s (orT_f (notT_ok (b := true) (asB_ok (un_ok rfl (isi_list _)))) (asB_ok (bin_ok (un_ok rfl (len_costs C)) (un_ok rfl (len_choice c)) (by rw [gc.len]; exact hne _)))))).trans ?_
  exact gFor_nx ((itY_tl (xs := c.map waysD) (ys := C.map intsD) rfl rfl).trans (by
    unfold zipD
    rw [List.zipWith_map, List.zip_eq_zipWith, List.map_zipWith])) e1
end
end LW
end

section
set_option Elab.async false
set_option linter.all false
set_option maxRecDepth 100000
namespace LW
open PySem L2 DL

noncomputable def g_c_most : Gx :=
  (gSeq (gDrop (callD 2 m_need_rooms (aCons (rd 0) (aCons (rd 1) aNil)))) (gSeq (gSet 2 (comp [5] (.nm 5) (itS (rd 0)) yes (kc (.int 0)))) (gSeq (gSet 3 (lendE [2] (callD 2 m_chances_of (aCons (callD 2 m_walk_by (aCons (rd 0) (aCons (rd 2) aNil))) (aCons (rd 1) aNil))))) (gSeq (gSet 4 (lendE [2] (callD 4 m_better (aCons (rd 0) (aCons (rd 3) (aCons (rd 2) (aCons (rd 1) aNil))))))) (gSeq (gWh (asB (bin (rd 4) (rd 2) dNe)) (gSeq (gMove 2 4) (gSeq (gSet 3 (lendE [2] (callD 2 m_chances_of (aCons (callD 2 m_walk_by (aCons (rd 0) (aCons (rd 2) aNil))) (aCons (rd 1) aNil))))) (gSet 4 (lendE [2] (callD 4 m_better (aCons (rd 0) (aCons (rd 3) (aCons (rd 2) (aCons (rd 1) aNil)))))))))) (gRet (mkTup (aCons (rd 3) (aCons (rd 2) aNil)))))))))
noncomputable def m_c_most : List D → Res D := run 6 g_c_most

noncomputable def g_least_costs : Gx :=
  (gSeq (gDrop (callD 2 m_need_costs (aCons (rd 0) (aCons (rd 1) aNil)))) (gSeq (gDrop (callD 2 m_need_rooms (aCons (rd 0) (aCons (rd 2) aNil)))) (gSeq (gUn (.tp [3, 4]) (callD 2 m_c_most (aCons (rd 0) (aCons (rd 2) aNil)))) (gSeq (gSet 5 (comp [8] (.nm 8) (itR1 (un (rd 0) dLen)) (andT (asB (bin (bin (rd 3) (rd 8) dIx) (kc (.tuple [.int 1, .int 1])) dEq)) (asB (bin (rd 8) (rd 2) dNotIn))) (rd 8))) (gSeq (gSet 6 (lendE [4] (callD 4 m_values_by (aCons (rd 0) (aCons (rd 1) (aCons (rd 4) (aCons (rd 5) aNil))))))) (gSeq (gSet 7 (lendE [6, 4] (callD 6 m_cheaper (aCons (rd 0) (aCons (rd 1) (aCons (rd 2) (aCons (rd 5) (aCons (rd 6) (aCons (rd 4) aNil))))))))) (gSeq (gWh (asB (bin (rd 7) (rd 4) dNe)) (gSeq (gMove 4 7) (gSeq (gSet 6 (lendE [4] (callD 4 m_values_by (aCons (rd 0) (aCons (rd 1) (aCons (rd 4) (aCons (rd 5) aNil))))))) (gSet 7 (lendE [6, 4] (callD 6 m_cheaper (aCons (rd 0) (aCons (rd 1) (aCons (rd 2) (aCons (rd 5) (aCons (rd 6) (aCons (rd 4) aNil)))))))))))) (gSeq (gFor (.nm 8) (itR1 (un (rd 0) dLen)) (gSeq (gIf (asB (bin (rd 8) (rd 5) dNotIn)) (gPutL 4 (rd 8) (kc (.int 0))) gSkip) (gIf (asB (bin (bin (rd 3) (rd 8) dIx) (kc (.tuple [.int 1, .int 1])) dNe)) (gPutL 6 (rd 8) (kc .none)) gSkip))) (gRet (mkTup (aCons (rd 6) (aCons (rd 4) aNil))))))))))))
noncomputable def m_least_costs : List D → Res D := run 9 g_least_costs

noncomputable def g_law : Gx :=
  (gSeq (gSet 1 (callD 2 m_law_choice (aCons (rd 0) (aCons (kc (.int 0)) aNil)))) (gSeq (gSet 2 (callD 3 m_law_goals (aCons (rd 0) (aCons (kc (.int 110)) (aCons (un (rd 1) dLen) aNil))))) (gSeq (gSet 3 (mkLst aNil)) (gSeq (gFor (.nm 4) (itR1 (un (rd 1) dLen)) (gApp 3 (comp [12] (.nm 12) (itR1 (un (bin (rd 1) (rd 4) dIx) dLen)) yes (bin (kc (.int 1)) (callD 3 m_law_mixed (aCons (rd 0) (aCons (bin (bin (kc (.int 114)) (bin (kc (.int 3)) (rd 4) dMul) dAdd) (rd 12) dAdd) (aCons (kc (.int 6)) aNil)))) dAdd)))) (gSeq (gSet 5 (bin (callD 3 m_law_mixed (aCons (rd 0) (aCons (kc (.int 130)) (aCons (kc (.int 2)) aNil)))) (kc (.int 1)) dEq)) (gSeq (gIf (asB (rd 5)) (gSet 3 (comp [13] (.nm 13) (itS (rd 3)) yes (comp [14] (.nm 14) (itS (rd 13)) yes (kc (.int 1))))) gSkip) (gSeq (gSet 6 (comp [13] (.nm 13) (itS (rd 3)) yes (un (rd 13) dList))) (gSeq (gSet 7 (callD 3 m_least_costs (aCons (rd 1) (aCons (rd 6) (aCons (un (rd 2) dList) aNil))))) (gSeq (gIf (orT (asB (bin (rd 6) (rd 3) dNe)) (orT (notT (asB (un (rd 7) (dIsi "tuple")))) (orT (asB (bin (un (rd 7) dLen) (kc (.int 2)) dNe)) (notT (asB (callD 2 m_law_are_picks (aCons (rd 1) (aCons (bin (rd 7) (kc (.int 1)) dIx) aNil)))))))) (gRet (kc (.bool false))) gSkip) (gSeq (gSet 8 (bin (callD 2 m_c_most (aCons (rd 1) (aCons (un (rd 2) dList) aNil))) (kc (.int 0)) dIx)) (gSeq (gFor (.nm 4) (itR1 (un (rd 1) dLen)) (gIf (asB (bin (bin (bin (bin (rd 7) (kc (.int 0)) dIx) (rd 4) dIx) (kc .none) dIs) (bin (bin (rd 8) (rd 4) dIx) (mkTup (aCons (kc (.int 1)) (aCons (kc (.int 1)) aNil))) dNe) dNe)) (gRet (kc (.bool false))) gSkip)) (gSeq (gIf (notT (asB (callD 5 m_law_walked (aCons (rd 1) (aCons (rd 3) (aCons (rd 2) (aCons (bin (rd 7) (kc (.int 0)) dIx) (aCons (bin (rd 7) (kc (.int 1)) dIx) aNil)))))))) (gRet (kc (.bool false))) gSkip) (gSeq (gSet 9 (callD 2 m_chances (aCons (callD 2 m_picked (aCons (rd 1) (aCons (un (bin (rd 7) (kc (.int 1)) dIx) dList) aNil))) (aCons (un (rd 2) dList) aNil)))) (gSeq (gIf (asB (bin (comp [4] (.nm 4) (itR1 (un (rd 1) dLen)) (andT (asB (bin (bin (rd 8) (rd 4) dIx) (mkTup (aCons (kc (.int 1)) (aCons (kc (.int 1)) aNil))) dEq)) (asB (bin (bin (rd 9) (rd 4) dIx) (mkTup (aCons (kc (.int 1)) (aCons (kc (.int 1)) aNil))) dNe))) (rd 4)) (mkLst aNil) dNe)) (gRet (kc (.bool false))) gSkip) (gSeq (gFor (.nm 10) (itS (bin (callD 1 m_law_all_picks (aCons (rd 1) aNil)) (un (rd 5) dInt) dMul)) (gSeq (gSet 11 (callD 2 m_waits (aCons (callD 2 m_picked (aCons (rd 1) (aCons (rd 10) aNil))) (aCons (un (rd 2) dList) aNil)))) (gFor (.nm 4) (itR1 (un (rd 1) dLen)) (gIf (andT (asB (bin (bin (rd 11) (rd 4) dIx) (kc .none) dIsNot)) (asB (callD 2 m_law_below (aCons (bin (rd 11) (rd 4) dIx) (aCons (bin (bin (rd 7) (kc (.int 0)) dIx) (rd 4) dIx) aNil))))) (gRet (kc (.bool false))) gSkip)))) (gRet (kc (.bool true))))))))))))))))))
noncomputable def m_law : List D → Res D := run 15 g_law

end LW
end

section
set_option Elab.async false
set_option linter.all false
set_option maxRecDepth 100000
set_option maxHeartbeats 2000000
set_option exponentiation.threshold 100000
set_option autoImplicit false
/-! P14: least costs, and the plain law of k14. -/
namespace LW
open PySem hiding run
open L2 hiding bin
open DL

section
variable {c : Choice} {C : Costs} {G : List Nat}
theorem most_okT (g : GoodCh c) (hG : Gls c.length G) : ∃ p, Most c G p ∧ m_c_most [choiceD c, intsD G] = .ok (.tuple [vecD (vOf c G p), intsD p]) := by
  have hi := g.hi
  have hz := zeros_picks g
  have ec : ∀ (p : List Nat), Picks c p → ∀ ρ : Rho, rd 0 ρ = .ok (choiceD c) → rd 1 ρ = .ok (intsD G) → rd 2 ρ = .ok (intsD p) → allIn [2] ρ = true → lendE [2] (callD 2 m_chances_of (aCons (callD 2 m_walk_by (aCons (rd 0) (aCons (rd 2) aNil))) (aCons (rd 1) aNil))) ρ = .ok (vecD (vOf c G p)) := fun p hp ρ h0 h1 h2 ha =>
    lendE_ok ha ((call2 ((call2 h0 h2).trans (walk_by_ok g hp)) h1).trans (vOf_spec g hG hp).2) (dry_vec _)
  have eb : ∀ (p : List Nat), Picks c p → ∃ p', Better c G (vOf c G p) p p' ∧ ∀ ρ : Rho, rd 0 ρ = .ok (choiceD c) → rd 1 ρ = .ok (intsD G) → rd 2 ρ = .ok (intsD p) → rd 3 ρ = .ok (vecD (vOf c G p)) → allIn [2] ρ = true → lendE [2] (callD 4 m_better (aCons (rd 0) (aCons (rd 3) (aCons (rd 2) (aCons (rd 1) aNil))))) ρ = .ok (intsD p') := fun p hp => by
    obtain ⟨p', hB, e⟩ := better_ok (G := G) g hp (vOf_len g hG hp) (vOf_sz g hG hp)
    exact ⟨p', hB, fun ρ h0 h1 h2 h3 ha => lendE_ok ha ((call4 h0 h3 h2 h1).trans e) (dry_ints _)⟩
  obtain ⟨p0', hB0, e0⟩ := eb _ hz
  obtain ⟨ρ1, ew, p, hM, h1⟩ := gWh_fall (T := List Nat × List Nat) (c := asB (bin (rd 4) (rd 2) dNe)) (g := gSeq (gMove 2 4) (gSeq (gSet 3 (lendE [2] (callD 2 m_chances_of (aCons (callD 2 m_walk_by (aCons (rd 0) (aCons (rd 2) aNil))) (aCons (rd 1) aNil))))) (gSet 4 (lendE [2] (callD 4 m_better (aCons (rd 0) (aCons (rd 3) (aCons (rd 2) (aCons (rd 1) aNil)))))))))
    (fun s ρ => Picks c s.1 ∧ Better c G (vOf c G s.1) s.1 s.2 ∧ ρ = [some (choiceD c), some (intsD G), some (intsD s.1), some (vecD (vOf c G s.1)), some (intsD s.2), none]) (fun s => moreThan c (sumOf c G) s.1)
    (fun ρ => ∃ p, Most c G p ∧ ρ = [some (choiceD c), some (intsD G), some (intsD p), some (vecD (vOf c G p)), some (intsD p), none]) (fun s ρ hI => by
      obtain ⟨p, p'⟩ := s
      obtain ⟨hp, hB, rfl⟩ := hI
      have et : asB (bin (rd 4) (rd 2) dNe) [some (choiceD c), some (intsD G), some (intsD p), some (vecD (vOf c G p)), some (intsD p'), none] = .ok (!decide (p' = p)) := asB_ok (bin_ok rfl rfl (ne_ints2 p' p))
      by_cases hpp : p' = p
      · subst hpp
        rw [decide_eq_true rfl] at et
        refine .inl ⟨et, p', most_of hp hB fun r hr hg => ?_, rfl⟩
        rw [vOf_harm g hG hp hr hg]
        grind
      · rw [decide_eq_false hpp] at et
        obtain ⟨p2, hB2, e2⟩ := eb p' hB.picks
        refine .inr ⟨et, (p', p2), [some (choiceD c), some (intsD G), some (intsD p'), some (vecD (vOf c G p')), some (intsD p2), none], ?_, ⟨hB.picks, hB2, rfl⟩, moreThan_lt hB.picks (better_sum g hG hp hB hpp)⟩
        refine (gSeq_nx (ρ' := [some (choiceD c), some (intsD G), some (intsD p'), some (vecD (vOf c G p)), none, none]) rfl).trans ?_
        refine (gSeq_nx (gSet_ok (ec p' hB.picks _ rfl rfl rfl rfl))).trans ?_
        exact gSet_ok (e2 _ rfl rfl rfl rfl rfl)) (List.replicate c.length 0, p0') _ ⟨hz, hB0, rfl⟩
  refine ⟨p, hM, run_rt ?_⟩
  show gSeq _ _ [some (choiceD c), some (intsD G), none, none, none, none] = _
  refine (gSeq_nx (gDrop_ok ((call2 rfl rfl).trans (need_rooms_gen (len_choice c) hG.inc hG.lt)))).trans ?_
  have hzz : comp [5] (.nm 5) (itS (rd 0)) yes (kc (.int 0)) [some (choiceD c), some (intsD G), none, none, none, none] = .ok (intsD (List.replicate c.length 0)) := by
    rw [comp_const (enc := waysD) (l := c) (d := .int 0) (fe := kc (.int 0)) (.inl rfl) (line_small (by omega)) (fun ρ => rfl)]
    unfold intsD
    rw [List.map_replicate]
    rfl
  refine (gSeq_nx (gSet_ok hzz)).trans ?_
  refine (gSeq_nx (gSet_ok (ec _ hz _ rfl rfl rfl rfl))).trans ?_
  refine (gSeq_nx (gSet_ok (e0 _ rfl rfl rfl rfl rfl))).trans ?_
  refine (gSeq_nx ew).trans ?_
  subst h1
  exact gRet_ok (mkTup_ok (aCons_ok rfl (aCons_ok rfl rfl)) rfl)
theorem ints_range {n : Nat} {p : List Nat} (h : p.length = n) : (p.map fun k : Nat => PyData.int k) = (List.range n).map fun r => PyData.int (p.getD r 0 : Nat) := by
  apply List.ext_getElem?
  intro j
  by_cases hj : j < n
  · rw [range_get _ hj, List.getElem?_map]
    have : p[j]? = some (p.getD j 0) := by rw [List.getD_eq_getElem?_getD, List.getElem?_eq_getElem (by rw [h]; exact hj)]; rfl
    rw [this]
    rfl
  · rw [List.getElem?_eq_none (by rw [List.length_map]; omega), List.getElem?_eq_none (by rw [List.length_map, List.length_range]; omega)]
theorem set_if {n r : Nat} (h : r < n) (f : Nat → D) (x : D) (pre : List Nat) (P : Nat → Prop) [DecidablePred P] (hP : P r) :
    lSet ((List.range n).map fun j => if j ∈ pre ∧ P j then x else f j) (r : Int) x = some ((List.range n).map fun j => if j ∈ pre ++ [r] ∧ P j then x else f j) := by
  rw [lSet_nat (by rw [List.length_map, List.length_range]; exact h), range_set]
  congr 1
  refine List.map_congr_left fun j _ => ?_
  by_cases d : j = r
  · subst d
    rw [if_pos rfl, if_pos ⟨List.mem_append_right _ List.mem_cons_self, hP⟩]
  · rw [if_neg d]
    have : j ∈ pre ++ [r] ↔ j ∈ pre := by rw [List.mem_append, List.mem_singleton]; exact ⟨fun z => z.resolve_right d, .inl⟩
    by_cases d2 : j ∈ pre ∧ P j
    · rw [if_pos d2, if_pos ⟨this.mpr d2.1, d2.2⟩]
    · rw [if_neg d2, if_neg fun z => d2 ⟨this.mp z.1, z.2⟩]
theorem keep_if {n r : Nat} (f : Nat → D) (x : D) (pre : List Nat) (P : Nat → Prop) [DecidablePred P] (hP : ¬ P r) :
    ((List.range n).map fun j => if j ∈ pre ∧ P j then x else f j) = (List.range n).map fun j => if j ∈ pre ++ [r] ∧ P j then x else f j := by
  refine List.map_congr_left fun j _ => ?_
  by_cases d : j = r
  · subst d
    rw [if_neg fun z => hP z.2, if_neg fun z => hP z.2]
  · have : j ∈ pre ++ [r] ↔ j ∈ pre := by rw [List.mem_append, List.mem_singleton]; exact ⟨fun z => z.resolve_right d, .inl⟩
    by_cases d2 : j ∈ pre ∧ P j
    · rw [if_pos d2, if_pos ⟨this.mpr d2.1, d2.2⟩]
    · rw [if_neg d2, if_neg fun z => d2 ⟨this.mp z.1, z.2⟩]
/-- what least_costs tells -/
structure Least14 (c : Choice) (C : Costs) (G q p : List Nat) (V : List Rat) : Prop where
  fit : Fit c (sureR c G (vOf c G q)) G p
  vals : Vals c C (sureR c G (vOf c G q)) p V
  best : ∀ r, r ∈ sureR c G (vOf c G q) → ∀ k, k < (c.getD r []).length → lies c (sureR c G (vOf c G q)) G r k = true → V.getD r 0 ≤ wcost c C V r k
theorem least_costs_ok (g : GoodCh c) (hG : Gls c.length G) (gc : GoodCo c C) {q : List Nat} (hM : Most c G q) (em : m_c_most [choiceD c, intsD G] = .ok (.tuple [vecD (vOf c G q), intsD q])) :
    ∃ p V, Least14 c C G q p V ∧ m_least_costs [choiceD c, costsD C, intsD G] = .ok (.tuple [.list (waitD c.length (vOf c G q) V), intsD (finP c (sureR c G (vOf c G q)) p)]) := by
  have hi := g.hi
  have hvl := vOf_len g hG hM.picks
  have nd := sure_nodup c G (vOf c G q)
  have f0 := fit_start g hG hM
  generalize hR : sureR c G (vOf c G q) = R at nd f0
  have hRn : ∀ r, r ∈ R → r < c.length := fun r hr => by rw [← hR] at hr; exact (mem_sure.mp hr).1
  have hRG : ∀ r, r ∈ R → r ∉ G := fun r hr => by rw [← hR] at hr; exact (mem_sure.mp hr).2.2
  have ev : ∀ (p : List Nat), Fit c R G p → ∀ ρ : Rho, rd 0 ρ = .ok (choiceD c) → rd 1 ρ = .ok (costsD C) → rd 4 ρ = .ok (intsD p) → rd 5 ρ = .ok (intsD R) → allIn [4] ρ = true → lendE [4] (callD 4 m_values_by (aCons (rd 0) (aCons (rd 1) (aCons (rd 4) (aCons (rd 5) aNil))))) ρ = .ok (vecD (cOf c C R p)) := fun p f ρ h0 h1 h4 h5 ha =>
    lendE_ok ha ((call4 h0 h1 h4 h5).trans (cOf_spec g gc nd f.picks f.lv).2) (dry_vec _)
  have eb : ∀ (p : List Nat), Fit c R G p → ∃ p', Cheap c C R G (cOf c C R p) p p' ∧ ∀ ρ : Rho, rd 0 ρ = .ok (choiceD c) → rd 1 ρ = .ok (costsD C) → rd 2 ρ = .ok (intsD G) → rd 5 ρ = .ok (intsD R) → rd 6 ρ = .ok (vecD (cOf c C R p)) → rd 4 ρ = .ok (intsD p) → allIn [6, 4] ρ = true → lendE [6, 4] (callD 6 m_cheaper (aCons (rd 0) (aCons (rd 1) (aCons (rd 2) (aCons (rd 5) (aCons (rd 6) (aCons (rd 4) aNil))))))) ρ = .ok (intsD p') := fun p f => by
    have hV := (cOf_spec g gc nd f.picks f.lv).1
    obtain ⟨p', hB, e⟩ := cheaper_ok (G := G) g gc nd hRn f.picks hV.len hV.sz
    refine ⟨p', hB, fun ρ h0 h1 h2 h5 h6 h4 ha => lendE_ok ha ?_ (dry_ints _)⟩
    unfold callD aCons aNil
    rw [h0, h1, h2, h5, h6, h4]
    exact e
  obtain ⟨p0', hB0, e0⟩ := eb q f0
  obtain ⟨ρ1, ew, p, fp, hBp, h1⟩ := gWh_fall (T := List Nat × List Nat) (c := asB (bin (rd 7) (rd 4) dNe)) (g := gSeq (gMove 4 7) (gSeq (gSet 6 (lendE [4] (callD 4 m_values_by (aCons (rd 0) (aCons (rd 1) (aCons (rd 4) (aCons (rd 5) aNil))))))) (gSet 7 (lendE [6, 4] (callD 6 m_cheaper (aCons (rd 0) (aCons (rd 1) (aCons (rd 2) (aCons (rd 5) (aCons (rd 6) (aCons (rd 4) aNil))))))))))) 
    (fun s ρ => Fit c R G s.1 ∧ Cheap c C R G (cOf c C R s.1) s.1 s.2 ∧ ρ = [some (choiceD c), some (costsD C), some (intsD G), some (vecD (vOf c G q)), some (intsD s.1), some (intsD R), some (vecD (cOf c C R s.1)), some (intsD s.2), none]) (fun s => moreThan c (lessOf c C R) s.1)
    (fun ρ => ∃ p, Fit c R G p ∧ Cheap c C R G (cOf c C R p) p p ∧ ρ = [some (choiceD c), some (costsD C), some (intsD G), some (vecD (vOf c G q)), some (intsD p), some (intsD R), some (vecD (cOf c C R p)), some (intsD p), none]) (fun s ρ hI => by
      obtain ⟨p, p'⟩ := s
      obtain ⟨f, hB, rfl⟩ := hI
      have et : asB (bin (rd 7) (rd 4) dNe) [some (choiceD c), some (costsD C), some (intsD G), some (vecD (vOf c G q)), some (intsD p), some (intsD R), some (vecD (cOf c C R p)), some (intsD p'), none] = .ok (!decide (p' = p)) := asB_ok (bin_ok rfl rfl (ne_ints2 p' p))
      by_cases hpp : p' = p
      · subst hpp
        rw [decide_eq_true rfl] at et
        exact .inl ⟨et, p', f, hB, rfl⟩
      · rw [decide_eq_false hpp] at et
        have f' := fit_cheap g gc hRG f (cOf_spec g gc nd f.picks f.lv).1 hB
        obtain ⟨p2, hB2, e2⟩ := eb p' f'
        refine .inr ⟨et, (p', p2), [some (choiceD c), some (costsD C), some (intsD G), some (vecD (vOf c G q)), some (intsD p'), some (intsD R), some (vecD (cOf c C R p')), some (intsD p2), none], ?_, ⟨f', hB2, rfl⟩, moreThan_lt hB.picks (cheap_sum g gc nd f f' hB hpp)⟩
        refine (gSeq_nx (ρ' := [some (choiceD c), some (costsD C), some (intsD G), some (vecD (vOf c G q)), some (intsD p'), some (intsD R), some (vecD (cOf c C R p)), none, none]) rfl).trans ?_
        refine (gSeq_nx (gSet_ok (ev p' f' _ rfl rfl rfl rfl rfl))).trans ?_
        exact gSet_ok (e2 _ rfl rfl rfl rfl rfl rfl rfl)) (q, p0') [some (choiceD c), some (costsD C), some (intsD G), some (vecD (vOf c G q)), some (intsD q), some (intsD R), some (vecD (cOf c C R q)), some (intsD p0'), none] ⟨f0, hB0, rfl⟩
  have hV := (cOf_spec g gc nd fp.picks fp.lv).1
  refine ⟨p, cOf c C R p, ?_, run_rt ?_⟩
  · subst hR
    exact ⟨fp, hV, fun r hr => cheap_best hV hBp hr⟩
  show gSeq _ _ [some (choiceD c), some (costsD C), some (intsD G), none, none, none, none, none, none] = _
  refine (gSeq_nx (gDrop_ok ((call2 rfl rfl).trans (need_costs_ok g gc)))).trans ?_
  refine (gSeq_nx (gDrop_ok ((call2 rfl rfl).trans (need_rooms_gen (len_choice c) hG.inc hG.lt)))).trans ?_
  have eu : gUn (.tp [3, 4]) (callD 2 m_c_most (aCons (rd 0) (aCons (rd 2) aNil))) [some (choiceD c), some (costsD C), some (intsD G), none, none, none, none, none, none] = .nx [some (choiceD c), some (costsD C), some (intsD G), some (vecD (vOf c G q)), some (intsD q), none, none, none, none] := by
    unfold gUn
    rw [(call2 rfl rfl).trans em]
    rfl
  refine (gSeq_nx eu).trans ?_
  have er := comp_ok (vs := [8]) (tg := .nm 8) (fi := itR1 (un (rd 0) dLen)) (ft := andT (asB (bin (bin (rd 3) (rd 8) dIx) (kc (.tuple [.int 1, .int 1])) dEq)) (asB (bin (rd 8) (rd 2) dNotIn))) (fe := rd 8) (ρ := [some (choiceD c), some (costsD C), some (intsD G), some (vecD (vOf c G q)), some (intsD q), none, none, none, none]) (fun k : Nat => PyData.int k) (fun r => decide ((vOf c G q).getD r 0 = 1) && !decide (r ∈ G)) (fun k : Nat => PyData.int k) (List.range c.length) (line_small (by rw [List.length_range]; omega))
    (itR1_nat (n := c.length) (un_ok rfl (len_choice c)) (by omega)) fun r hr => ⟨[some (choiceD c), some (costsD C), some (intsD G), some (vecD (vOf c G q)), some (intsD q), none, none, none, some (.int r)], rfl, by
      have hg := getD_ok (l := vOf c G q) (j := r) (by rw [hvl]; exact List.mem_range.mp hr)
      have a1 : asB (bin (bin (rd 3) (rd 8) dIx) (kc (.tuple [.int 1, .int 1])) dEq) [some (choiceD c), some (costsD C), some (intsD G), some (vecD (vOf c G q)), some (intsD q), none, none, none, some (.int r)] = .ok (decide ((vOf c G q).getD r 0 = 1)) := asB_ok (bin_ok (bin_ok rfl rfl (ix_vec hg.1)) rfl (eq_one _))
      have a2 : asB (bin (rd 8) (rd 2) dNotIn) [some (choiceD c), some (costsD C), some (intsD G), some (vecD (vOf c G q)), some (intsD q), none, none, none, some (.int r)] = .ok (!decide (r ∈ G)) := asB_ok (bin_ok rfl rfl (notIn_ints G r))
      cases h : decide ((vOf c G q).getD r 0 = 1) with
      | true => rw [h] at a1; rw [Bool.true_and]; exact andT_t a1 a2
      | false => rw [h] at a1; rw [Bool.false_and]; exact andT_f a1, fun _ => rfl⟩
  have hR2 : (List.range c.length).filter (fun r => decide ((vOf c G q).getD r 0 = 1) && !decide (r ∈ G)) = R := hR
  rw [hR2] at er
  refine (gSeq_nx (gSet_ok (d := intsD R) er)).trans ?_
  refine (gSeq_nx (gSet_ok (ev q f0 _ rfl rfl rfl rfl rfl))).trans ?_
  refine (gSeq_nx (gSet_ok (e0 _ rfl rfl rfl rfl rfl rfl rfl))).trans ?_
  refine (gSeq_nx ew).trans ?_
  subst h1
  have hnr : ∀ r, r < c.length → (r ∉ R ↔ ¬ r ∈ R) := fun _ _ => Iff.rfl
  obtain ⟨ρ1, e1, c8, h1⟩ := forL_pre (tg := .nm 8) (g := gSeq (gIf (asB (bin (rd 8) (rd 5) dNotIn)) (gPutL 4 (rd 8) (kc (.int 0))) gSkip) (gIf (asB (bin (bin (rd 3) (rd 8) dIx) (kc (.tuple [.int 1, .int 1])) dNe)) (gPutL 6 (rd 8) (kc .none)) gSkip)) (fun k : Nat => PyData.int k)
    (fun pre ρ => ∃ c8, ρ = [some (choiceD c), some (costsD C), some (intsD G), some (vecD (vOf c G q)), some (.list ((List.range c.length).map fun j => if j ∈ pre ∧ j ∉ R then PyData.int 0 else PyData.int (p.getD j 0 : Nat))), some (intsD R), some (.list ((List.range c.length).map fun j => if j ∈ pre ∧ (vOf c G q).getD j 0 ≠ 1 then PyData.none else fr ((cOf c C R p).getD j 0))), some (intsD p), c8]) (List.range c.length) (fun pre r post ρ e hp => by
      obtain ⟨c8, rfl⟩ := hp
      have hr : r < c.length := by have : r ∈ List.range c.length := (by rw [e]; exact List.mem_append_right _ List.mem_cons_self); exact List.mem_range.mp this
      have hg := getD_ok (l := vOf c G q) (j := r) (by rw [hvl]; exact hr)
      generalize hP1 : (fun j => if j ∈ pre ∧ j ∉ R then PyData.int 0 else PyData.int (p.getD j 0 : Nat)) = F1
      generalize hP2 : (fun j => if j ∈ pre ∧ (vOf c G q).getD j 0 ≠ 1 then PyData.none else fr ((cOf c C R p).getD j 0)) = F2
      have e1 : gIf (asB (bin (rd 8) (rd 5) dNotIn)) (gPutL 4 (rd 8) (kc (.int 0))) gSkip [some (choiceD c), some (costsD C), some (intsD G), some (vecD (vOf c G q)), some (.list ((List.range c.length).map F1)), some (intsD R), some (.list ((List.range c.length).map F2)), some (intsD p), some (.int r)] = .nx [some (choiceD c), some (costsD C), some (intsD G), some (vecD (vOf c G q)), some (.list ((List.range c.length).map fun j => if j ∈ pre ++ [r] ∧ j ∉ R then PyData.int 0 else PyData.int (p.getD j 0 : Nat))), some (intsD R), some (.list ((List.range c.length).map F2)), some (intsD p), some (.int r)] := by
        have et : asB (bin (rd 8) (rd 5) dNotIn) [some (choiceD c), some (costsD C), some (intsD G), some (vecD (vOf c G q)), some (.list ((List.range c.length).map F1)), some (intsD R), some (.list ((List.range c.length).map F2)), some (intsD p), some (.int r)] = .ok (!decide (r ∈ R)) := asB_ok (bin_ok rfl rfl (notIn_ints R r))
        by_cases d : r ∈ R
        · rw [decide_eq_true d] at et
          refine (gIf_s et).trans ?_
          rw [← hP1, keep_if (r := r) _ _ pre (fun j => j ∉ R) (fun z => z d)]
        · rw [decide_eq_false d] at et
          refine (gIf_t et).trans ?_
          rw [← hP1]
          exact gPutL_ok (k := (r : Int)) (d := .int 0) rfl rfl rfl (set_if hr _ _ pre (fun j => j ∉ R) d)
      have e2 : gIf (asB (bin (bin (rd 3) (rd 8) dIx) (kc (.tuple [.int 1, .int 1])) dNe)) (gPutL 6 (rd 8) (kc .none)) gSkip [some (choiceD c), some (costsD C), some (intsD G), some (vecD (vOf c G q)), some (.list ((List.range c.length).map fun j => if j ∈ pre ++ [r] ∧ j ∉ R then PyData.int 0 else PyData.int (p.getD j 0 : Nat))), some (intsD R), some (.list ((List.range c.length).map F2)), some (intsD p), some (.int r)] = .nx [some (choiceD c), some (costsD C), some (intsD G), some (vecD (vOf c G q)), some (.list ((List.range c.length).map fun j => if j ∈ pre ++ [r] ∧ j ∉ R then PyData.int 0 else PyData.int (p.getD j 0 : Nat))), some (intsD R), some (.list ((List.range c.length).map fun j => if j ∈ pre ++ [r] ∧ (vOf c G q).getD j 0 ≠ 1 then PyData.none else fr ((cOf c C R p).getD j 0))), some (intsD p), some (.int r)] := by
        generalize ((List.range c.length).map fun j => if j ∈ pre ++ [r] ∧ j ∉ R then PyData.int 0 else PyData.int (p.getD j 0 : Nat)) = L1
        have et : asB (bin (bin (rd 3) (rd 8) dIx) (kc (.tuple [.int 1, .int 1])) dNe) [some (choiceD c), some (costsD C), some (intsD G), some (vecD (vOf c G q)), some (.list L1), some (intsD R), some (.list ((List.range c.length).map F2)), some (intsD p), some (.int r)] = .ok (!decide ((vOf c G q).getD r 0 = 1)) := asB_ok (bin_ok (bin_ok rfl rfl (ix_vec hg.1)) rfl (ne_fr ((vOf c G q).getD r 0) 1))
        by_cases d : (vOf c G q).getD r 0 = 1
        · rw [decide_eq_true d] at et
          refine (gIf_s et).trans ?_
          rw [← hP2, keep_if (r := r) _ _ pre (fun j => (vOf c G q).getD j 0 ≠ 1) (fun z => z d)]
        · rw [decide_eq_false d] at et
          refine (gIf_t et).trans ?_
          rw [← hP2]
          exact gPutL_ok (k := (r : Int)) (d := .none) rfl rfl rfl (set_if hr _ _ pre (fun j => (vOf c G q).getD j 0 ≠ 1) d)
      exact ⟨_, _, rfl, (gSeq_nx e1).trans e2, _, rfl⟩) (ρ := [some (choiceD c), some (costsD C), some (intsD G), some (vecD (vOf c G q)), some (intsD p), some (intsD R), some (vecD (cOf c C R p)), some (intsD p), none]) ⟨none, by
      have h1 : (fun j => if j ∈ ([] : List Nat) ∧ j ∉ R then PyData.int 0 else PyData.int (p.getD j 0 : Nat)) = fun j => PyData.int (p.getD j 0 : Nat) := funext fun r => if_neg fun z => by cases z.1
      have h2 : (fun j => if j ∈ ([] : List Nat) ∧ (vOf c G q).getD j 0 ≠ 1 then PyData.none else fr ((cOf c C R p).getD j 0)) = fun j => fr ((cOf c C R p).getD j 0) := funext fun r => if_neg fun z => by cases z.1
      rw [h1, h2, ← vec_range hV.len, ← ints_range fp.picks.len]
      rfl⟩
  refine (gSeq_nx (gFor_nx (itR1_nat (n := c.length) (un_ok rfl (len_choice c)) (by omega)) e1)).trans ?_
  subst h1
  have e4 : ((List.range c.length).map fun j => if j ∈ List.range c.length ∧ j ∉ R then PyData.int 0 else PyData.int (p.getD j 0 : Nat)) = (finP c R p).map fun k : Nat => PyData.int k := by
    unfold finP
    rw [List.map_map]
    refine List.map_congr_left fun j hj => ?_
    show _ = PyData.int ((if j ∈ R then p.getD j 0 else 0 : Nat) : Int)
    by_cases d : j ∈ R
    · rw [if_neg fun z => z.2 d, if_pos d]
    · rw [if_pos ⟨hj, d⟩, if_neg d]
      rfl
  have e6 : ((List.range c.length).map fun j => if j ∈ List.range c.length ∧ (vOf c G q).getD j 0 ≠ 1 then PyData.none else fr ((cOf c C R p).getD j 0)) = waitD c.length (vOf c G q) (cOf c C R p) := by
    unfold waitD
    refine List.map_congr_left fun j hj => ?_
    by_cases d : (vOf c G q).getD j 0 = 1
    · rw [if_neg fun z => z.2 d, if_pos d]
    · rw [if_pos ⟨hj, d⟩, if_neg d]
  rw [e4, e6]
  exact gRet_ok (mkTup_ok (aCons_ok rfl (aCons_ok rfl rfl)) rfl)
/-! ### what the law reckons -/
theorem wait_at {n r : Nat} {v made : List Rat} (h : r < n) : dIx (.list (waitD n v made)) (.int r) = some (if v.getD r 0 = 1 then fr (made.getD r 0) else .none) := ix_list (range_get _ h)
theorem val_sz {n : Nat} {V : List Rat} {m : Nat} (hm : 0 < m) (hz : ∀ q, q ∈ V → Sz m q) (r : Nat) : Sz m (V.getD r 0) := by
  by_cases h : r < V.length
  · exact hz _ (getD_ok (l := V) h).2
  · rw [List.getD_eq_getElem?_getD, List.getElem?_eq_none (by omega)]
    exact Sz.zero hm
theorem iqmul (q : Rat) : q * iq 1 = q := by
  have : iq 1 = 1 := rfl
  rw [this, Rat.mul_one]
theorem law_way_cost_ok {n : Nat} {s : Spread} (gs : GoodSp n s) {v V : List Rat} (hz : ∀ q, q ∈ V → Sz 127 q) {k : Nat} (hk : k ≤ 6) :
    m_law_way_cost [spreadD s, .int (k : Nat), .list (waitD n v V)] = .ok (if s.all (fun q => decide (v.getD q.1 0 = 1)) = true then fr (iq k + wsum s (val V)) else .none) := by
  have few := gs.few
  have hw : ∀ (l : Spread), (∀ q, q ∈ l → q ∈ s) → l.length ≤ 3 → Sz 600 (iq k + wsum l (val V)) := fun l h hl => by
    have h1 : Sz (1 + (127 + 16) * l.length) (wsum l (val V)) := by
      clear hl
      induction l with
      | nil => exact Sz.zero (by omega)
      | cons p l ih =>
        have e : wsum (p :: l) (val V) = p.2 * V.getD p.1 0 + wsum l (val V) := by
          unfold wsum
          rw [List.map_cons, List.sum_cons]
        rw [e, List.length_cons]
        refine (((gs.sz (h p List.mem_cons_self)).mul (val_sz (n := n) (by decide) hz p.1)).add (ih fun q m => h q (List.mem_cons_of_mem _ m))).mono ?_
        rw [Nat.mul_succ]
        omega
    have h2 := Nat.mul_le_mul_left (127 + 16) hl
    exact ((sz_iq hk).add h1).mono (by omega)
  have key : ∀ (post pre : Spread) (c4 : Option D), s = pre ++ post → (∃ c4', (if post.all (fun q => decide (v.getD q.1 0 = 1)) = true then forL (.nm 4) (gSeq (gIf (asB (bin (bin (rd 2) (bin (rd 4) (kc (.int 0)) dIx) dIx) (kc .none) dIs)) (gRet (kc .none)) gSkip) (gSet 3 (callD 3 m_law_add (aCons (rd 3) (aCons (bin (rd 4) (kc (.int 1)) dIx) (aCons (bin (rd 2) (bin (rd 4) (kc (.int 0)) dIx) dIx) aNil)))))) (post.map prD) [some (spreadD s), some (.int (k : Nat)), some (.list (waitD n v V)), some (fr (iq k + wsum pre (val V))), c4] = .nx [some (spreadD s), some (.int (k : Nat)), some (.list (waitD n v V)), some (fr (iq k + wsum s (val V))), c4'] else forL (.nm 4) (gSeq (gIf (asB (bin (bin (rd 2) (bin (rd 4) (kc (.int 0)) dIx) dIx) (kc .none) dIs)) (gRet (kc .none)) gSkip) (gSet 3 (callD 3 m_law_add (aCons (rd 3) (aCons (bin (rd 4) (kc (.int 1)) dIx) (aCons (bin (rd 2) (bin (rd 4) (kc (.int 0)) dIx) dIx) aNil)))))) (post.map prD) [some (spreadD s), some (.int (k : Nat)), some (.list (waitD n v V)), some (fr (iq k + wsum pre (val V))), c4] = .rt .none)) := by
    intro post
    induction post with
    | nil =>
      intro pre c4 e
      rw [List.append_nil] at e
      subst e
      exact ⟨c4, rfl⟩
    | cons q post ih =>
      intro pre c4 e
      have hq : q ∈ s := by rw [e]; exact List.mem_append_right _ List.mem_cons_self
      have hqn := (gs.mem q hq).1
      have hpl : pre.length ≤ 2 := by
        have := congrArg List.length e
        rw [List.length_append, List.length_cons] at this
        omega
      have ea : ∀ ρ : Rho, rd 2 ρ = .ok (.list (waitD n v V)) → rd 4 ρ = .ok (prD q) → bin (rd 2) (bin (rd 4) (kc (.int 0)) dIx) dIx ρ = .ok (if v.getD q.1 0 = 1 then fr (V.getD q.1 0) else .none) := fun ρ h2 h4 => bin_ok h2 (bin_ok h4 rfl (pair0 q)) (wait_at hqn)
      by_cases d : v.getD q.1 0 = 1
      · obtain ⟨c4', h⟩ := ih (pre ++ [q]) (some (prD q)) (by rw [e, List.append_assoc]; rfl)
        refine ⟨c4', ?_⟩
        have ea1 : bin (rd 2) (bin (rd 4) (kc (.int 0)) dIx) dIx [some (spreadD s), some (.int (k : Nat)), some (.list (waitD n v V)), some (fr (iq k + wsum pre (val V))), some (prD q)] = .ok (fr (V.getD q.1 0)) := by rw [ea _ rfl rfl, if_pos d]
        have e1 : (gSeq (gIf (asB (bin (bin (rd 2) (bin (rd 4) (kc (.int 0)) dIx) dIx) (kc .none) dIs)) (gRet (kc .none)) gSkip) (gSet 3 (callD 3 m_law_add (aCons (rd 3) (aCons (bin (rd 4) (kc (.int 1)) dIx) (aCons (bin (rd 2) (bin (rd 4) (kc (.int 0)) dIx) dIx) aNil)))))) [some (spreadD s), some (.int (k : Nat)), some (.list (waitD n v V)), some (fr (iq k + wsum pre (val V))), some (prD q)] = .nx [some (spreadD s), some (.int (k : Nat)), some (.list (waitD n v V)), some (fr (iq k + wsum (pre ++ [q]) (val V))), some (prD q)] := by
          refine (gSeq_nx (gIf_s (asB_ok (bin_ok ea1 rfl (c := .bool false) rfl)))).trans ?_
          refine (gSet_ok ((call3 rfl (bin_ok rfl rfl (pair1 q)) ea1).trans (law_add_ok ((hw pre (fun x m => by rw [e]; exact List.mem_append_left _ m) (by omega)).mono (by decide)) ((gs.sz hq).mono (by decide)) ((val_sz (n := n) (by decide) hz q.1).mono (by decide))))).trans ?_
          rw [wsum_snoc, Rat.mul_comm (V.getD q.1 0), Rat.add_assoc]
          rfl
        have hall : (q :: post).all (fun q => decide (v.getD q.1 0 = 1)) = post.all (fun q => decide (v.getD q.1 0 = 1)) := by rw [List.all_cons, decide_eq_true d, Bool.true_and]
        have e2 : ∀ c4, forL (.nm 4) (gSeq (gIf (asB (bin (bin (rd 2) (bin (rd 4) (kc (.int 0)) dIx) dIx) (kc .none) dIs)) (gRet (kc .none)) gSkip) (gSet 3 (callD 3 m_law_add (aCons (rd 3) (aCons (bin (rd 4) (kc (.int 1)) dIx) (aCons (bin (rd 2) (bin (rd 4) (kc (.int 0)) dIx) dIx) aNil)))))) ((q :: post).map prD) [some (spreadD s), some (.int (k : Nat)), some (.list (waitD n v V)), some (fr (iq k + wsum pre (val V))), c4] = forL (.nm 4) (gSeq (gIf (asB (bin (bin (rd 2) (bin (rd 4) (kc (.int 0)) dIx) dIx) (kc .none) dIs)) (gRet (kc .none)) gSkip) (gSet 3 (callD 3 m_law_add (aCons (rd 3) (aCons (bin (rd 4) (kc (.int 1)) dIx) (aCons (bin (rd 2) (bin (rd 4) (kc (.int 0)) dIx) dIx) aNil)))))) (post.map prD) [some (spreadD s), some (.int (k : Nat)), some (.list (waitD n v V)), some (fr (iq k + wsum (pre ++ [q]) (val V))), some (prD q)] := fun c4 => by
          show (match (gSeq (gIf (asB (bin (bin (rd 2) (bin (rd 4) (kc (.int 0)) dIx) dIx) (kc .none) dIs)) (gRet (kc .none)) gSkip) (gSet 3 (callD 3 m_law_add (aCons (rd 3) (aCons (bin (rd 4) (kc (.int 1)) dIx) (aCons (bin (rd 2) (bin (rd 4) (kc (.int 0)) dIx) dIx) aNil)))))) [some (spreadD s), some (.int (k : Nat)), some (.list (waitD n v V)), some (fr (iq k + wsum pre (val V))), some (prD q)] with | .nx ρ'' => forL (.nm 4) _ (post.map prD) ρ'' | o => o) = _
          rw [e1]
        rw [hall, e2]
        exact h
      · refine ⟨none, ?_⟩
        have ea1 : bin (rd 2) (bin (rd 4) (kc (.int 0)) dIx) dIx [some (spreadD s), some (.int (k : Nat)), some (.list (waitD n v V)), some (fr (iq k + wsum pre (val V))), some (prD q)] = .ok .none := by rw [ea _ rfl rfl, if_neg d]
        have hall : (q :: post).all (fun q => decide (v.getD q.1 0 = 1)) = false := by rw [List.all_cons, decide_eq_false d, Bool.false_and]
        rw [hall, if_neg (by decide)]
        exact forL_rt (ρ' := [some (spreadD s), some (.int (k : Nat)), some (.list (waitD n v V)), some (fr (iq k + wsum pre (val V))), some (prD q)]) rfl (gSeq_rt ((gIf_t (asB_ok (bin_ok ea1 rfl (c := .bool true) rfl))).trans rfl))
  obtain ⟨c4', h⟩ := key s [] none rfl
  have e0 : iq k + wsum [] (val V) = iq k := by
    have : wsum [] (val V) = 0 := rfl
    rw [this, Rat.add_zero]
  rw [e0] at h
  refine run_rt ?_
  show gSeq _ _ [some (spreadD s), some (.int (k : Nat)), some (.list (waitD n v V)), none, none] = _
  refine (gSeq_nx (gSet_ok (d := fr (iq k)) (mkTup_ok (l := [.int k, .int 1]) (aCons_ok rfl (aCons_ok rfl rfl)) rfl))).trans ?_
  cases ha : s.all (fun q => decide (v.getD q.1 0 = 1)) with
  | true =>
    rw [ha, if_pos rfl] at h
    rw [if_pos rfl]
    exact (gSeq_nx (gFor_nx (itS_tuple rfl) h)).trans (gRet_ok rfl)
  | false =>
    rw [ha, if_neg (by decide)] at h
    rw [if_neg (by decide)]
    exact gSeq_rt (gFor_nx (itS_tuple rfl) h)
theorem lies_sure (g : GoodCh c) (hG : Gls c.length G) {q : List Nat} (hq : Picks c q) {r k : Nat} (hr : r < c.length) (hk : k < (c.getD r []).length) : (way c r k).all (fun x => decide ((vOf c G q).getD x.1 0 = 1)) = lies c (sureR c G (vOf c G q)) G r k := by
  unfold lies
  have gs := (way_get g hr hk).2
  rw [Bool.eq_iff_iff, List.all_eq_true, List.all_eq_true]
  refine forall_congr' fun x => forall_congr' fun hx => ?_
  rw [decide_eq_true_iff, Bool.or_eq_true, decide_eq_true_iff, decide_eq_true_iff]
  constructor
  · intro h
    by_cases d : x.1 ∈ G
    · exact .inr d
    · exact .inl (mem_sure.mpr ⟨(gs.mem x hx).1, h, d⟩)
  · rintro (h | h)
    · exact (mem_sure.mp h).2.1
    · exact vOf_goal g hG hq h
theorem law_walked_ok (g : GoodCh c) (hG : Gls c.length G) (gc : GoodCo c C) {q p : List Nat} {V : List Rat} (hM : Most c G q) (L : Least14 c C G q p V) :
    m_law_walked [choiceD c, costsD C, intsD G, .list (waitD c.length (vOf c G q) V), intsD (finP c (sureR c G (vOf c G q)) p)] = .ok (.bool true) := by
  have hi := g.hi
  have hp := L.fit.picks
  generalize hF : finP c (sureR c G (vOf c G q)) p = F
  obtain ⟨ρ1, e1, y5, y6, h1⟩ := forL_pre (tg := .nm 5) (g := gIf (orT (asB (bin (rd 5) (rd 2) dIn)) (asB (bin (bin (rd 3) (rd 5) dIx) (kc .none) dIs))) (gIf (orT (asB (bin (bin (rd 4) (rd 5) dIx) (kc (.int 0)) dNe)) (andT (asB (bin (bin (rd 3) (rd 5) dIx) (kc .none) dIsNot)) (asB (bin (bin (rd 3) (rd 5) dIx) (mkTup (aCons (kc (.int 0)) (aCons (kc (.int 1)) aNil))) dNe)))) (gRet (kc (.bool false))) gSkip) (gSeq (gSet 6 (comp [7, 8] (.tp [7, 8]) (itY (bin (rd 0) (rd 5) dIx) (bin (rd 1) (rd 5) dIx)) yes (callD 3 m_law_way_cost (aCons (rd 7) (aCons (rd 8) (aCons (rd 3) aNil)))))) (gSeq (gIf (asB (bin (bin (rd 6) (bin (rd 4) (rd 5) dIx) dIx) (bin (rd 3) (rd 5) dIx) dNe)) (gRet (kc (.bool false))) gSkip) (gIf (asB (bin (comp [8] (.nm 8) (itS (rd 6)) (andT (asB (bin (rd 8) (kc .none) dIsNot)) (asB (callD 2 m_law_below (aCons (rd 8) (aCons (bin (rd 3) (rd 5) dIx) aNil))))) (rd 8)) (mkLst aNil) dNe)) (gRet (kc (.bool false))) gSkip))))
    (fun k : Nat => PyData.int k) (fun _ ρ => ∃ y5 y6, ρ = [some (choiceD c), some (costsD C), some (intsD G), some (.list (waitD c.length (vOf c G q) V)), some (intsD F), y5, y6, none, none]) (List.range c.length) (fun pre r post ρ e hp0 => by
      obtain ⟨y5, y6, rfl⟩ := hp0
      have hr : r < c.length := by have : r ∈ List.range c.length := (by rw [e]; exact List.mem_append_right _ List.mem_cons_self); exact List.mem_range.mp this
      obtain ⟨hrow, hrm⟩ := row_get hr
      obtain ⟨w1, w2, _⟩ := g.row _ hrm
      have ea : ∀ ρ : Rho, rd 3 ρ = .ok (.list (waitD c.length (vOf c G q) V)) → rd 5 ρ = .ok (.int r) → bin (rd 3) (rd 5) dIx ρ = .ok (if (vOf c G q).getD r 0 = 1 then fr (V.getD r 0) else .none) := fun ρ h3 h5 => bin_ok h3 h5 (wait_at hr)
      have eF : F[r]? = some (if r ∈ sureR c G (vOf c G q) then p.getD r 0 else 0) := by rw [← hF]; exact finP_get hr
      have e1 : asB (bin (rd 5) (rd 2) dIn) [some (choiceD c), some (costsD C), some (intsD G), some (.list (waitD c.length (vOf c G q) V)), some (intsD F), some (.int r), y6, none, none] = .ok (decide (r ∈ G)) := asB_ok (bin_ok rfl rfl (in_ints G r))
      by_cases hv : (vOf c G q).getD r 0 = 1
      · have ea1 : ∀ ρ : Rho, rd 3 ρ = .ok (.list (waitD c.length (vOf c G q) V)) → rd 5 ρ = .ok (.int r) → bin (rd 3) (rd 5) dIx ρ = .ok (fr (V.getD r 0)) := fun ρ h3 h5 => by rw [ea ρ h3 h5, if_pos hv]
        have e2 : asB (bin (bin (rd 3) (rd 5) dIx) (kc .none) dIs) [some (choiceD c), some (costsD C), some (intsD G), some (.list (waitD c.length (vOf c G q) V)), some (intsD F), some (.int r), y6, none, none] = .ok false := asB_ok (bin_ok (ea1 _ rfl rfl) rfl (c := .bool false) rfl)
        by_cases hg : r ∈ G
        · rw [decide_eq_true hg] at e1
          have hnR : r ∉ sureR c G (vOf c G q) := fun z => (mem_sure.mp z).2.2 hg
          rw [if_neg hnR] at eF
          have h0 := L.vals.out r hnR
          refine ⟨[some (choiceD c), some (costsD C), some (intsD G), some (.list (waitD c.length (vOf c G q) V)), some (intsD F), some (.int r), y6, none, none], _, rfl, (gIf_t (orT_t e1)).trans (gIf_s (orT_f (asB_ok (bin_ok (bin_ok rfl rfl (ix_ints eF)) rfl rfl)) (andT_t (asB_ok (bin_ok (ea1 _ rfl rfl) rfl (c := .bool true) rfl)) (asB_ok (bin_ok (ea1 _ rfl rfl) (mkTup_ok (l := [.int 0, .int 1]) (aCons_ok rfl (aCons_ok rfl rfl)) rfl) (b := fr 0) (c := .bool false) (by rw [ne_fr, h0]; rfl)))))), _, _, rfl⟩
        · rw [decide_eq_false hg] at e1
          have hR : r ∈ sureR c G (vOf c G q) := mem_sure.mpr ⟨hr, hv, hg⟩
          rw [if_pos hR] at eF
          have hpk := (hp.at hr).1
          -- the ways' costs
          have hz : zipD ((c.getD r []).map spreadD) ((C.getD r []).map fun k : Nat => PyData.int k) = (List.range (c.getD r []).length).map fun k => PyData.tuple [spreadD (way c r k), .int (cst C r k : Nat)] := by
            unfold zipD
            rw [List.zipWith_map]
            apply List.ext_getElem?
            intro j
            by_cases hj : j < (c.getD r []).length
            · rw [range_get _ hj, List.getElem?_zipWith, (way_get g hr hj).1, (cst_get gc hr hj).1]
            · rw [List.getElem?_eq_none (by rw [List.length_zipWith]; omega), List.getElem?_eq_none (by rw [List.length_map, List.length_range]; omega)]
          have hc := comp_ok (vs := [7, 8]) (tg := .tp [7, 8]) (fi := itY (bin (rd 0) (rd 5) dIx) (bin (rd 1) (rd 5) dIx)) (ft := yes) (fe := callD 3 m_law_way_cost (aCons (rd 7) (aCons (rd 8) (aCons (rd 3) aNil)))) (ρ := [some (choiceD c), some (costsD C), some (intsD G), some (.list (waitD c.length (vOf c G q) V)), some (intsD F), some (.int r), y6, none, none])
            (fun k => PyData.tuple [spreadD (way c r k), .int (cst C r k : Nat)]) (fun _ => true) (fun k => if lies c (sureR c G (vOf c G q)) G r k = true then fr (wcost c C V r k) else PyData.none) (List.range (c.getD r []).length) (line_small (by rw [List.length_range]; omega)) ((itY_tl (bin_ok rfl rfl (ix_choice hrow)) (bin_ok rfl rfl (ix_costs gc hr))).trans (by rw [hz])) (fun k hk => by
              have hk := List.mem_range.mp hk
              refine ⟨[some (choiceD c), some (costsD C), some (intsD G), some (.list (waitD c.length (vOf c G q) V)), some (intsD F), some (.int r), y6, some (spreadD (way c r k)), some (.int (cst C r k : Nat))], rfl, rfl, fun _ => ?_⟩
              refine (call3 rfl rfl rfl).trans ((law_way_cost_ok (way_get g hr hk).2 L.vals.sz (cst_get gc hr hk).2.2).trans ?_)
              rw [lies_sure g hG hM.picks hr hk]
              rfl)
          rw [filter_yes] at hc
          have hlies := L.fit.shut r hR
          have hmean := L.vals.mean r hR
          refine ⟨[some (choiceD c), some (costsD C), some (intsD G), some (.list (waitD c.length (vOf c G q) V)), some (intsD F), some (.int r), y6, none, none], _, rfl, (gIf_f (orT_f e1 e2)).trans ((gSeq_nx (gSet_ok hc)).trans ((gSeq_nx (gIf_s (asB_ok (bin_ok (bin_ok rfl (bin_ok rfl rfl (ix_ints eF)) (ix_list (range_get _ hpk))) (ea1 _ rfl rfl) (by rw [if_pos hlies, ← hmean, ne_fr, decide_eq_true rfl]; rfl))))).trans (gIf_s (asB_ok (bin_ok ?_ (mkLst_ok rfl rfl) (by kernel_rfl : dNe (.list []) (.list []) = some (.bool false))))))), _, _, rfl⟩
          have hc2 := comp_ok (vs := [8]) (tg := .nm 8) (fi := itS (rd 6)) (ft := andT (asB (bin (rd 8) (kc .none) dIsNot)) (asB (callD 2 m_law_below (aCons (rd 8) (aCons (bin (rd 3) (rd 5) dIx) aNil))))) (fe := rd 8) (ρ := [some (choiceD c), some (costsD C), some (intsD G), some (.list (waitD c.length (vOf c G q) V)), some (intsD F), some (.int r), some (.list ((List.range (c.getD r []).length).map fun k => if lies c (sureR c G (vOf c G q)) G r k = true then fr (wcost c C V r k) else PyData.none)), none, none])
            (fun k => if lies c (sureR c G (vOf c G q)) G r k = true then fr (wcost c C V r k) else PyData.none) (fun _ => false) (fun _ => PyData.none) (List.range (c.getD r []).length) (line_small (by rw [List.length_range]; omega)) (itS_list rfl) (fun k hk => by
              have hk := List.mem_range.mp hk
              refine ⟨[some (choiceD c), some (costsD C), some (intsD G), some (.list (waitD c.length (vOf c G q) V)), some (intsD F), some (.int r), some (.list ((List.range (c.getD r []).length).map fun k => if lies c (sureR c G (vOf c G q)) G r k = true then fr (wcost c C V r k) else PyData.none)), none, some (if lies c (sureR c G (vOf c G q)) G r k = true then fr (wcost c C V r k) else PyData.none)], rfl, ?_, fun z => by cases z⟩
              cases hl : lies c (sureR c G (vOf c G q)) G r k with
              | false =>
                rw [if_neg (by decide)]
                exact andT_f (asB_ok (bin_ok rfl rfl (c := .bool false) rfl))
              | true =>
                rw [if_pos rfl]
                have hb := L.best r hR k hk hl
                have hsz := wcost_sz g gc L.vals.len L.vals.sz hr hk
                have hv2 := val_sz (n := 0) (by decide) L.vals.sz r
                refine andT_t (asB_ok (bin_ok rfl rfl (c := .bool true) rfl)) (asB_ok ((call2 rfl (ea1 _ rfl rfl)).trans ?_))
                rw [law_below_ok _ _ hsz hv2, decide_eq_false (by grind)])
          have hf : (List.range (c.getD r []).length).filter (fun _ => false) = [] := List.filter_eq_nil_iff.mpr fun _ _ => by decide
          rw [hf] at hc2
          exact hc2
      · have ea1 : ∀ ρ : Rho, rd 3 ρ = .ok (.list (waitD c.length (vOf c G q) V)) → rd 5 ρ = .ok (.int r) → bin (rd 3) (rd 5) dIx ρ = .ok .none := fun ρ h3 h5 => by rw [ea ρ h3 h5, if_neg hv]
        have hg : r ∉ G := fun z => hv (vOf_goal g hG hM.picks z)
        rw [decide_eq_false hg] at e1
        have hnR : r ∉ sureR c G (vOf c G q) := fun z => hv (mem_sure.mp z).2.1
        rw [if_neg hnR] at eF
        refine ⟨[some (choiceD c), some (costsD C), some (intsD G), some (.list (waitD c.length (vOf c G q) V)), some (intsD F), some (.int r), y6, none, none], _, rfl, (gIf_t (orT_f e1 (asB_ok (bin_ok (ea1 _ rfl rfl) rfl (c := .bool true) rfl)))).trans (gIf_s (orT_f (asB_ok (bin_ok (bin_ok rfl rfl (ix_ints eF)) rfl rfl)) (andT_f (asB_ok (bin_ok (ea1 _ rfl rfl) rfl (c := .bool false) rfl))))), _, _, rfl⟩) (ρ := [some (choiceD c), some (costsD C), some (intsD G), some (.list (waitD c.length (vOf c G q) V)), some (intsD F), none, none, none, none]) ⟨_, _, rfl⟩
  refine run_rt ?_
  show gSeq _ _ [some (choiceD c), some (costsD C), some (intsD G), some (.list (waitD c.length (vOf c G q) V)), some (intsD F), none, none, none, none] = _
  refine (gSeq_nx (gFor_nx (itR1_nat (n := c.length) (un_ok rfl (len_choice c)) (by omega)) e1)).trans ?_
  subst h1
  exact gRet_ok rfl
theorem sh_costs (C : Costs) : SeqAt.shaped (costsD C) = true := (sh_map (n := 1) (fun row => sh_map (n := 0) (fun i : Nat => sh_int (i : Nat)) row) C).shaped
/-- the costs that the law draws -/
theorem draw_costs (ns : List Int) (g : GoodCh c) (x : List (Option D)) : ∃ C, GoodCo c C ∧ ∃ x4, gFor (.nm 4) (itR1 (un (rd 1) dLen)) (gApp 3 (comp [12] (.nm 12) (itR1 (un (bin (rd 1) (rd 4) dIx) dLen)) yes (bin (kc (.int 1)) (callD 3 m_law_mixed (aCons (rd 0) (aCons (bin (bin (kc (.int 114)) (bin (kc (.int 3)) (rd 4) dMul) dAdd) (rd 12) dAdd) (aCons (kc (.int 6)) aNil)))) dAdd)))
    [some (scrD ns), some (choiceD c), some (intsD G), some (.list []), none, none, none, none, none, none, none, none, none, none, none] = .nx [some (scrD ns), some (choiceD c), some (intsD G), some (costsD C), x4, none, none, none, none, none, none, none, none, none, none] := by
  have hi := g.hi
  have hm := fun r k : Nat => mixed_ok ns (114 + 3 * r + k) 6 (by decide)
  let rowOf : Nat → List Nat := fun r => (List.range (c.getD r []).length).map fun k => 1 + (hm r k).choose
  have hlen : ((List.range c.length).map rowOf).length = c.length := by rw [List.length_map, List.length_range]
  have hget : ∀ r, r < c.length → ((List.range c.length).map rowOf).getD r [] = rowOf r := fun r hr => by
    rw [List.getD_eq_getElem?_getD, List.getElem?_map, List.getElem?_range hr]
    rfl
  refine ⟨(List.range c.length).map rowOf, ⟨hlen, fun r hr => ?_, fun row hrow k hk => ?_⟩, ?_⟩
  · rw [hget r hr]
    show ((List.range _).map _).length = _
    rw [List.length_map, List.length_range]
  · obtain ⟨r, _, rfl⟩ := List.mem_map.mp hrow
    obtain ⟨j, _, rfl⟩ := List.mem_map.mp hk
    have := (hm r j).choose_spec.1
    omega
  obtain ⟨ρ1, e1, x4, h1⟩ := forL_pre (tg := .nm 4) (g := gApp 3 (comp [12] (.nm 12) (itR1 (un (bin (rd 1) (rd 4) dIx) dLen)) yes (bin (kc (.int 1)) (callD 3 m_law_mixed (aCons (rd 0) (aCons (bin (bin (kc (.int 114)) (bin (kc (.int 3)) (rd 4) dMul) dAdd) (rd 12) dAdd) (aCons (kc (.int 6)) aNil)))) dAdd)))
    (fun k : Nat => PyData.int k) (fun pre ρ => ∃ x4, ρ = [some (scrD ns), some (choiceD c), some (intsD G), some (.list (pre.map fun r => intsD (rowOf r))), x4, none, none, none, none, none, none, none, none, none, none]) (List.range c.length) (fun pre r post ρ e hp => by
      obtain ⟨x4, rfl⟩ := hp
      have hr : r < c.length := by have : r ∈ List.range c.length := (by rw [e]; exact List.mem_append_right _ List.mem_cons_self); exact List.mem_range.mp this
      have hpl : pre.length ≤ c.length := by
        have := congrArg List.length e
        rw [List.length_range, List.length_append] at this
        omega
      obtain ⟨hrow, hrm⟩ := row_get hr
      obtain ⟨w1, w2, _⟩ := g.row _ hrm
      refine ⟨[some (scrD ns), some (choiceD c), some (intsD G), some (.list (pre.map fun r => intsD (rowOf r))), some (.int r), none, none, none, none, none, none, none, none, none, none], _, rfl, gApp_ok (d := intsD (rowOf r)) ?_ rfl (by rw [List.length_map]; omega), some (.int r), by rw [List.map_append]; rfl⟩
      have hc := comp_ok (vs := [12]) (tg := .nm 12) (fi := itR1 (un (bin (rd 1) (rd 4) dIx) dLen)) (ft := yes) (fe := bin (kc (.int 1)) (callD 3 m_law_mixed (aCons (rd 0) (aCons (bin (bin (kc (.int 114)) (bin (kc (.int 3)) (rd 4) dMul) dAdd) (rd 12) dAdd) (aCons (kc (.int 6)) aNil)))) dAdd) (ρ := [some (scrD ns), some (choiceD c), some (intsD G), some (.list (pre.map fun r => intsD (rowOf r))), some (.int r), none, none, none, none, none, none, none, none, none, none])
        (fun j : Nat => PyData.int j) (fun _ => true) (fun k => PyData.int ((1 + (hm r k).choose : Nat) : Int)) (List.range (c.getD r []).length) (by rw [List.length_range]; exact line_small (by omega)) (itR1_nat (n := (c.getD r []).length) (un_ok (bin_ok rfl rfl (ix_choice hrow)) (len_ways _)) (by omega)) (fun k _ => ⟨[some (scrD ns), some (choiceD c), some (intsD G), some (.list (pre.map fun r => intsD (rowOf r))), some (.int r), none, none, none, none, none, none, none, some (.int k), none, none], rfl, rfl, fun _ => bin_ok rfl ((call3 rfl (bin_ok (bin_ok rfl (bin_ok rfl rfl (mul_ok (mulOk_l (by decide)))) rfl) rfl rfl) rfl).trans (hm r k).choose_spec.2) rfl⟩)
      rw [filter_yes] at hc
      refine hc.trans ?_
      show _ = Res.ok (PyData.list (((List.range (c.getD r []).length).map fun k => 1 + (hm r k).choose).map fun k : Nat => PyData.int k))
      rw [List.map_map]
      rfl) (ρ := [some (scrD ns), some (choiceD c), some (intsD G), some (.list []), none, none, none, none, none, none, none, none, none, none, none]) ⟨none, rfl⟩
  subst h1
  refine ⟨x4, (gFor_nx (itR1_nat (n := c.length) (un_ok rfl (len_choice c)) (by omega)) e1).trans ?_⟩
  have : (List.range c.length).map (fun r => intsD (rowOf r)) = ((List.range c.length).map rowOf).map intsD := by rw [List.map_map]; rfl
  unfold costsD
  rw [this]
/-- the costs made alike -/
theorem alike_costs (gc : GoodCo c C) : GoodCo c (C.map fun row => row.map fun _ => 1) ∧ ∀ r k, r < c.length → k < (c.getD r []).length → cst (C.map fun row => row.map fun _ => 1) r k = 1 := by
  have hget : ∀ r, r < c.length → (C.map fun row => row.map fun _ => 1).getD r [] = (C.getD r []).map fun _ => 1 := fun r hr => by
    rw [List.getD_eq_getElem?_getD, List.getElem?_map, (crow_get gc hr).1]
    rfl
  refine ⟨⟨by rw [List.length_map]; exact gc.len, fun r hr => by rw [hget r hr, List.length_map]; exact gc.row r hr, fun row hrow k hk => ?_⟩, fun r k hr hk => ?_⟩
  · obtain ⟨a, _, rfl⟩ := List.mem_map.mp hrow
    obtain ⟨b, _, rfl⟩ := List.mem_map.mp hk
    omega
  · unfold cst
    rw [hget r hr, List.getD_eq_getElem?_getD, List.getElem?_map, (cst_get gc hr hk).1]
    rfl
theorem draw_alike (gc : GoodCo c C) (hi : c.length ≤ 4) (g : GoodCh c) (a : Bool) (ρ0 ρ1 ρ2 x4 : Option D) : ∃ C', GoodCo c C' ∧ (a = true → ∀ r k, r < c.length → k < (c.getD r []).length → cst C' r k = 1) ∧
    gIf (asB (rd 5)) (gSet 3 (comp [13] (.nm 13) (itS (rd 3)) yes (comp [14] (.nm 14) (itS (rd 13)) yes (kc (.int 1))))) gSkip [ρ0, ρ1, ρ2, some (costsD C), x4, some (.bool a), none, none, none, none, none, none, none, none, none] = .nx [ρ0, ρ1, ρ2, some (costsD C'), x4, some (.bool a), none, none, none, none, none, none, none, none, none] := by
  have hrows : ∀ row, row ∈ C → row.length ≤ 3 := fun row hrow => by
    obtain ⟨i, h, e⟩ := List.mem_iff_getElem.mp hrow
    have hi2 : i < c.length := by rw [← gc.len]; exact h
    have e2 : C.getD i [] = row := by rw [List.getD_eq_getElem?_getD, List.getElem?_eq_getElem h, e]; rfl
    rw [← e2, gc.row i hi2]
    exact (g.row _ (row_get hi2).2).2.1
  cases a with
  | false => exact ⟨C, gc, (fun z => by cases z), gIf_s (asB_ok rfl)⟩
  | true =>
    obtain ⟨h1, h2⟩ := alike_costs gc
    refine ⟨_, h1, fun _ => h2, (gIf_t (asB_ok rfl)).trans ?_⟩
    have hc := comp_ok (vs := [13]) (tg := .nm 13) (fi := itS (rd 3)) (ft := yes) (fe := comp [14] (.nm 14) (itS (rd 13)) yes (kc (.int 1))) (ρ := [ρ0, ρ1, ρ2, some (costsD C), x4, some (.bool true), none, none, none, none, none, none, none, none, none])
      intsD (fun _ => true) (fun row => intsD (row.map fun _ => 1)) C (line_small (by rw [gc.len]; omega)) (itS_list rfl) (fun row hrow => ⟨[ρ0, ρ1, ρ2, some (costsD C), x4, some (.bool true), none, none, none, none, none, none, none, some (intsD row), none], rfl, rfl, fun _ => by
        refine (comp_const (enc := fun k : Nat => PyData.int k) (l := row) (d := .int 1) (.inr rfl) (line_small (by have := hrows row hrow; omega)) (fun _ => rfl)).trans ?_
        show _ = Res.ok (PyData.list ((row.map fun _ => 1).map fun k : Nat => PyData.int k))
        rw [List.map_map, ← map_const row (PyData.int 1)]
        rfl⟩)
    rw [filter_yes] at hc
    refine (gSet_ok hc).trans ?_
    have : C.map (fun row => intsD (row.map fun _ => 1)) = (C.map fun row => row.map fun _ => 1).map intsD := by rw [List.map_map]; rfl
    rw [this]
    rfl
theorem call5 {f : List D → Res D} {fa fb fc fd fe : Ex} {ρ : Rho} {a b c d e : D} (ha : fa ρ = .ok a) (hb : fb ρ = .ok b) (hc : fc ρ = .ok c) (hd : fd ρ = .ok d) (he : fe ρ = .ok e) : callD 5 f (aCons fa (aCons fb (aCons fc (aCons fd (aCons fe aNil))))) ρ = f [a, b, c, d, e] := by
  unfold callD aCons aNil
  rw [ha, hb, hc, hd, he]
  rfl
theorem one_tup (ρ : Rho) : mkTup (aCons (kc (.int 1)) (aCons (kc (.int 1)) aNil)) ρ = .ok (.tuple [.int 1, .int 1]) := mkTup_ok (l := [.int 1, .int 1]) (aCons_ok rfl (aCons_ok rfl rfl)) rfl
end
theorem pure_law (ns : List Int) (_ : ns.length ≤ 63) : m_law [scrD ns] = .ok (.bool true) := by
  obtain ⟨c, g, ec⟩ := choice_ok ns 0
  have hi := g.hi
  obtain ⟨G, hGi, hGn, eG⟩ := goals_ok ns 110 c.length (by omega)
  have hG : Gls c.length G := ⟨hGi, hGn⟩
  obtain ⟨C0, gc0, x4, eC⟩ := draw_costs (G := G) ns g []
  obtain ⟨m, hm2, em⟩ := mixed_ok ns 130 2 (by decide)
  generalize ha : ((m : Int) == 1) = a
  obtain ⟨C, gc, halike, eA⟩ := draw_alike gc0 hi g a (some (scrD ns)) (some (choiceD c)) (some (intsD G)) x4
  obtain ⟨q, hM, eM⟩ := most_okT g hG
  obtain ⟨p, V, L, eL⟩ := least_costs_ok g hG gc hM eM
  have hvl := vOf_len g hG hM.picks
  have hfp := finP_picks (R := sureR c G (vOf c G q)) g L.fit.picks
  have eW := law_walked_ok g hG gc hM L
  have efin : ∀ r, r < c.length → (vOf c G q).getD r 0 = 1 → (vOf c G (finP c (sureR c G (vOf c G q)) p)).getD r 0 = 1 := fun r hr hv => final_sure g hG L.fit (by
    by_cases d : r ∈ G
    · exact .inr d
    · exact .inl (mem_sure.mpr ⟨hr, hv, d⟩))
  have eCh := chances_vOf g hG hfp
  have ePk := picked_ok g hfp
  have eAr := are_picks_ok g hfp
  have hfl : (vOf c G (finP c (sureR c G (vOf c G q)) p)).length = c.length := vOf_len g hG hfp
  generalize hF : finP c (sureR c G (vOf c G q)) p = F at hfp eW efin eCh ePk eAr hfl eL
  generalize hWd : waitD c.length (vOf c G q) V = W at eW eL
  have eWat : ∀ r, r < c.length → dIx (.list W) (.int r) = some (if (vOf c G q).getD r 0 = 1 then fr (V.getD r 0) else .none) := fun r hr => by rw [← hWd]; exact wait_at hr
  refine run_rt ?_
  show gSeq _ _ [some (scrD ns), none, none, none, none, none, none, none, none, none, none, none, none, none, none] = _
  refine (gSeq_nx (gSet_ok ((call2 rfl rfl).trans ec))).trans ?_
  refine (gSeq_nx (gSet_ok ((call3 rfl rfl (un_ok rfl (len_choice c))).trans eG))).trans ?_
  refine (gSeq_nx (gSet_ok (d := .list []) rfl)).trans ?_
  refine (gSeq_nx eC).trans ?_
  refine (gSeq_nx (gSet_ok (d := .bool a) (bin_ok ((call3 rfl rfl rfl).trans em) rfl (by rw [eq_ii, ha])))).trans ?_
  refine (gSeq_nx eA).trans ?_
  have eH := comp_ok (vs := [13]) (tg := .nm 13) (fi := itS (rd 3)) (ft := yes) (fe := un (rd 13) dList) (ρ := [some (scrD ns), some (choiceD c), some (intsD G), some (costsD C), x4, some (.bool a), none, none, none, none, none, none, none, none, none])
    intsD (fun _ => true) intsD C (line_small (by rw [gc.len]; omega)) (itS_list rfl) (fun row _ => ⟨[some (scrD ns), some (choiceD c), some (intsD G), some (costsD C), x4, some (.bool a), none, none, none, none, none, none, none, some (intsD row), none], rfl, rfl, fun _ => un_ok rfl (list_ints row)⟩)
  rw [filter_yes] at eH
  refine (gSeq_nx (gSet_ok (d := costsD C) eH)).trans ?_
  refine (gSeq_nx (gSet_ok ((call3 rfl rfl (un_ok rfl (list_ints G))).trans eL))).trans ?_
  refine (gSeq_nx (ρ' := [some (scrD ns), some (choiceD c), some (intsD G), some (costsD C), x4, some (.bool a), some (costsD C), some (.tuple [.list W, intsD F]), none, none, none, none, none, none, none]) (gIf_s (orT_f (asB_ok (bin_ok rfl rfl (ne_self (sh_costs C)))) (orT_f (notT_ok (b := true) (asB_ok (un_ok rfl (isi_tuple _)))) (orT_f (asB_ok (bin_ok (un_ok rfl (len_tuple _)) rfl (c := .bool false) rfl)) (notT_ok (b := true) (asB_ok ((call2 rfl (bin_ok rfl rfl (atI1 _ _ _))).trans eAr)))))))).trans ?_
  refine (gSeq_nx (ρ' := [some (scrD ns), some (choiceD c), some (intsD G), some (costsD C), x4, some (.bool a), some (costsD C), some (.tuple [.list W, intsD F]), some (vecD (vOf c G q)), none, none, none, none, none, none]) (gSet_ok (bin_ok ((call2 rfl (un_ok rfl (list_ints G))).trans eM) rfl (atI0 _ _)))).trans ?_
  -- None just where the chance is less
  obtain ⟨ρ1, e1, y4, h1⟩ := forL_pre (tg := .nm 4) (g := gIf (asB (bin (bin (bin (bin (rd 7) (kc (.int 0)) dIx) (rd 4) dIx) (kc .none) dIs) (bin (bin (rd 8) (rd 4) dIx) (mkTup (aCons (kc (.int 1)) (aCons (kc (.int 1)) aNil))) dNe) dNe)) (gRet (kc (.bool false))) gSkip)
    (fun k : Nat => PyData.int k) (fun _ ρ => ∃ y4, ρ = [some (scrD ns), some (choiceD c), some (intsD G), some (costsD C), y4, some (.bool a), some (costsD C), some (.tuple [.list W, intsD F]), some (vecD (vOf c G q)), none, none, none, none, none, none]) (List.range c.length) (fun pre r post ρ e hp => by
      obtain ⟨y4, rfl⟩ := hp
      have hr : r < c.length := by have : r ∈ List.range c.length := (by rw [e]; exact List.mem_append_right _ List.mem_cons_self); exact List.mem_range.mp this
      have hg := getD_ok (l := vOf c G q) (j := r) (by rw [hvl]; exact hr)
      have ew := eWat r hr
      refine ⟨[some (scrD ns), some (choiceD c), some (intsD G), some (costsD C), some (.int r), some (.bool a), some (costsD C), some (.tuple [.list W, intsD F]), some (vecD (vOf c G q)), none, none, none, none, none, none], _, rfl, gIf_s ?_, _, rfl⟩
      have e2 : bin (bin (rd 8) (rd 4) dIx) (mkTup (aCons (kc (.int 1)) (aCons (kc (.int 1)) aNil))) dNe [some (scrD ns), some (choiceD c), some (intsD G), some (costsD C), some (.int r), some (.bool a), some (costsD C), some (.tuple [.list W, intsD F]), some (vecD (vOf c G q)), none, none, none, none, none, none] = .ok (.bool (!decide ((vOf c G q).getD r 0 = 1))) := bin_ok (bin_ok rfl rfl (ix_vec hg.1)) (one_tup _) (ne_fr ((vOf c G q).getD r 0) 1)
      by_cases d : (vOf c G q).getD r 0 = 1
      · rw [if_pos d] at ew
        rw [decide_eq_true d] at e2
        exact asB_ok (bin_ok (bin_ok (bin_ok (bin_ok rfl rfl (atI0 _ _)) rfl ew) rfl (c := .bool false) rfl) e2 rfl)
      · rw [if_neg d] at ew
        rw [decide_eq_false d] at e2
        exact asB_ok (bin_ok (bin_ok (bin_ok (bin_ok rfl rfl (atI0 _ _)) rfl ew) rfl (c := .bool true) rfl) e2 rfl)) (ρ := [some (scrD ns), some (choiceD c), some (intsD G), some (costsD C), x4, some (.bool a), some (costsD C), some (.tuple [.list W, intsD F]), some (vecD (vOf c G q)), none, none, none, none, none, none]) ⟨_, rfl⟩
  refine (gSeq_nx (gFor_nx (itR1_nat (n := c.length) (un_ok rfl (len_choice c)) (by omega)) e1)).trans ?_
  subst h1
  have eW5 : callD 5 m_law_walked (aCons (rd 1) (aCons (rd 3) (aCons (rd 2) (aCons (bin (rd 7) (kc (.int 0)) dIx) (aCons (bin (rd 7) (kc (.int 1)) dIx) aNil))))) [some (scrD ns), some (choiceD c), some (intsD G), some (costsD C), y4, some (.bool a), some (costsD C), some (.tuple [.list W, intsD F]), some (vecD (vOf c G q)), none, none, none, none, none, none] = .ok (.bool true) := by
    have h0 : bin (rd 7) (kc (.int 0)) dIx [some (scrD ns), some (choiceD c), some (intsD G), some (costsD C), y4, some (.bool a), some (costsD C), some (.tuple [.list W, intsD F]), some (vecD (vOf c G q)), none, none, none, none, none, none] = .ok (.list W) := bin_ok rfl rfl (atI0 _ _)
    have h1 : bin (rd 7) (kc (.int 1)) dIx [some (scrD ns), some (choiceD c), some (intsD G), some (costsD C), y4, some (.bool a), some (costsD C), some (.tuple [.list W, intsD F]), some (vecD (vOf c G q)), none, none, none, none, none, none] = .ok (intsD F) := bin_ok rfl rfl (atI1 _ _ _)
    rw [call5 rfl rfl rfl h0 h1, eW]
  refine (gSeq_nx (gIf_s (notT_ok (b := true) (asB_ok eW5)))).trans ?_
  refine (gSeq_nx (ρ' := [some (scrD ns), some (choiceD c), some (intsD G), some (costsD C), y4, some (.bool a), some (costsD C), some (.tuple [.list W, intsD F]), some (vecD (vOf c G q)), some (vecD (vOf c G F)), none, none, none, none, none]) (gSet_ok ((call2 ((call2 rfl (un_ok (bin_ok rfl rfl (atI1 _ _ _)) (list_ints F))).trans ePk) (un_ok rfl (list_ints G))).trans eCh))).trans ?_
  -- by the picks all such rooms come to goals
  have eN := comp_ok (vs := [4]) (tg := .nm 4) (fi := itR1 (un (rd 1) dLen)) (ft := andT (asB (bin (bin (rd 8) (rd 4) dIx) (mkTup (aCons (kc (.int 1)) (aCons (kc (.int 1)) aNil))) dEq)) (asB (bin (bin (rd 9) (rd 4) dIx) (mkTup (aCons (kc (.int 1)) (aCons (kc (.int 1)) aNil))) dNe))) (fe := rd 4) (ρ := [some (scrD ns), some (choiceD c), some (intsD G), some (costsD C), y4, some (.bool a), some (costsD C), some (.tuple [.list W, intsD F]), some (vecD (vOf c G q)), some (vecD (vOf c G F)), none, none, none, none, none])
    (fun k : Nat => PyData.int k) (fun _ => false) (fun k : Nat => PyData.int k) (List.range c.length) (line_small (by rw [List.length_range]; omega)) (itR1_nat (n := c.length) (un_ok rfl (len_choice c)) (by omega)) (fun r hr => by
      have hr := List.mem_range.mp hr
      refine ⟨[some (scrD ns), some (choiceD c), some (intsD G), some (costsD C), some (.int r), some (.bool a), some (costsD C), some (.tuple [.list W, intsD F]), some (vecD (vOf c G q)), some (vecD (vOf c G F)), none, none, none, none, none], rfl, ?_, fun z => by cases z⟩
      have hg := getD_ok (l := vOf c G q) (j := r) (by rw [hvl]; exact hr)
      have hg2 := getD_ok (l := vOf c G F) (j := r) (by rw [hfl]; exact hr)
      have a1 : asB (bin (bin (rd 8) (rd 4) dIx) (mkTup (aCons (kc (.int 1)) (aCons (kc (.int 1)) aNil))) dEq) [some (scrD ns), some (choiceD c), some (intsD G), some (costsD C), some (.int r), some (.bool a), some (costsD C), some (.tuple [.list W, intsD F]), some (vecD (vOf c G q)), some (vecD (vOf c G F)), none, none, none, none, none] = .ok (decide ((vOf c G q).getD r 0 = 1)) := asB_ok (bin_ok (bin_ok rfl rfl (ix_vec hg.1)) (one_tup _) (eq_one _))
      by_cases d : (vOf c G q).getD r 0 = 1
      · rw [decide_eq_true d] at a1
        exact andT_t a1 (asB_ok (bin_ok (bin_ok rfl rfl (ix_vec hg2.1)) (one_tup _) (by
          have := ne_fr ((vOf c G F).getD r 0) 1
          rw [decide_eq_true (efin r hr d)] at this
          exact this)))
      · rw [decide_eq_false d] at a1
        exact andT_f a1)
  have hf : (List.range c.length).filter (fun _ => false) = [] := List.filter_eq_nil_iff.mpr fun _ _ => by decide
  rw [hf] at eN
  refine (gSeq_nx (gIf_s (asB_ok (bin_ok eN (mkLst_ok rfl rfl) (by kernel_rfl : dNe (.list []) (.list []) = some (.bool false)))))).trans ?_
  -- all picks, where all costs are alike
  obtain ⟨ρ2, e2, z4, z10, z11, h2⟩ : ∃ ρ2, gFor (.nm 10) (itS (bin (callD 1 m_law_all_picks (aCons (rd 1) aNil)) (un (rd 5) dInt) dMul)) (gSeq (gSet 11 (callD 2 m_waits (aCons (callD 2 m_picked (aCons (rd 1) (aCons (rd 10) aNil))) (aCons (un (rd 2) dList) aNil)))) (gFor (.nm 4) (itR1 (un (rd 1) dLen)) (gIf (andT (asB (bin (bin (rd 11) (rd 4) dIx) (kc .none) dIsNot)) (asB (callD 2 m_law_below (aCons (bin (rd 11) (rd 4) dIx) (aCons (bin (bin (rd 7) (kc (.int 0)) dIx) (rd 4) dIx) aNil))))) (gRet (kc (.bool false))) gSkip))) [some (scrD ns), some (choiceD c), some (intsD G), some (costsD C), y4, some (.bool a), some (costsD C), some (.tuple [.list W, intsD F]), some (vecD (vOf c G q)), some (vecD (vOf c G F)), none, none, none, none, none] = .nx ρ2 ∧ ∃ z4 z10 z11, ρ2 = [some (scrD ns), some (choiceD c), some (intsD G), some (costsD C), z4, some (.bool a), some (costsD C), some (.tuple [.list W, intsD F]), some (vecD (vOf c G q)), some (vecD (vOf c G F)), z10, z11, none, none, none] := by
    cases a with
    | false =>
      refine ⟨_, gFor_nx (l := []) (itS_list (bin_ok ((call1 rfl).trans (all_picks_ok g)) (un_ok rfl (c := .int 0) rfl) ?_)) rfl, y4, none, none, rfl⟩
      have h81 := allP_len (c := c) fun ws m => (g.row ws m).2.1
      have h82 : (allP c).length ≤ 81 := Nat.le_trans h81 (Nat.le_trans (Nat.pow_le_pow_right (by decide) hi) (by decide))
      show (if (0 : Int) ≤ 0 ∧ (0 : Int) ≤ 1000 ∧ ((allP c).map intsD).length ≤ 1000 then some (PyData.list (List.replicate (0 : Int).toNat ((allP c).map intsD)).flatten) else none) = _
      rw [if_pos ⟨by decide, by decide, by rw [List.length_map]; omega⟩]
      rfl
    | true =>
      have halike := halike rfl
      have h81 := allP_len (c := c) fun ws m => (g.row ws m).2.1
      have h82 : (allP c).length ≤ 81 := Nat.le_trans h81 (Nat.le_trans (Nat.pow_le_pow_right (by decide) hi) (by decide))
      have hit : itS (bin (callD 1 m_law_all_picks (aCons (rd 1) aNil)) (un (rd 5) dInt) dMul) [some (scrD ns), some (choiceD c), some (intsD G), some (costsD C), y4, some (.bool true), some (costsD C), some (.tuple [.list W, intsD F]), some (vecD (vOf c G q)), some (vecD (vOf c G F)), none, none, none, none, none] = .ok ((allP c).map intsD) := by
        refine itS_list (bin_ok ((call1 rfl).trans (all_picks_ok g)) (un_ok rfl (c := .int 1) rfl) ?_)
        show (if (0 : Int) ≤ 1 ∧ (1 : Int) ≤ 1000 ∧ ((allP c).map intsD).length ≤ 1000 then some (PyData.list (List.replicate (1 : Int).toNat ((allP c).map intsD)).flatten) else none) = _
        rw [if_pos ⟨by decide, by decide, by rw [List.length_map]; omega⟩]
        show some (PyData.list (List.replicate 1 ((allP c).map intsD)).flatten) = _
        rw [List.replicate_one, List.flatten_singleton]
      obtain ⟨ρ2, e2, z4, z10, z11, h2⟩ := forL_pre (tg := .nm 10) (g := gSeq (gSet 11 (callD 2 m_waits (aCons (callD 2 m_picked (aCons (rd 1) (aCons (rd 10) aNil))) (aCons (un (rd 2) dList) aNil)))) (gFor (.nm 4) (itR1 (un (rd 1) dLen)) (gIf (andT (asB (bin (bin (rd 11) (rd 4) dIx) (kc .none) dIsNot)) (asB (callD 2 m_law_below (aCons (bin (rd 11) (rd 4) dIx) (aCons (bin (bin (rd 7) (kc (.int 0)) dIx) (rd 4) dIx) aNil))))) (gRet (kc (.bool false))) gSkip)))
        intsD (fun _ ρ => ∃ z4 z10 z11, ρ = [some (scrD ns), some (choiceD c), some (intsD G), some (costsD C), z4, some (.bool true), some (costsD C), some (.tuple [.list W, intsD F]), some (vecD (vOf c G q)), some (vecD (vOf c G F)), z10, z11, none, none, none]) (allP c) (fun pre o post ρ e hp => by
          obtain ⟨z4, z10, z11, rfl⟩ := hp
          have ho : Picks c o := (mem_allP c o).mp (by rw [e]; exact List.mem_append_right _ List.mem_cons_self)
          have hol := walkBy_len ho
          obtain ⟨hch, ech⟩ := vOf_spec g hG ho
          obtain ⟨made, hW, eWt⟩ := waits_ok (walkBy_good g ho) hGi (fun x hx => by rw [hol]; exact hGn x hx) hch ech
          rw [hol] at eWt
          have hovl := vOf_len g hG ho
          obtain ⟨ρ3, e3, u4, h3⟩ := forL_pre (tg := .nm 4) (g := gIf (andT (asB (bin (bin (rd 11) (rd 4) dIx) (kc .none) dIsNot)) (asB (callD 2 m_law_below (aCons (bin (rd 11) (rd 4) dIx) (aCons (bin (bin (rd 7) (kc (.int 0)) dIx) (rd 4) dIx) aNil))))) (gRet (kc (.bool false))) gSkip)
            (fun k : Nat => PyData.int k) (fun _ ρ => ∃ u4, ρ = [some (scrD ns), some (choiceD c), some (intsD G), some (costsD C), u4, some (.bool true), some (costsD C), some (.tuple [.list W, intsD F]), some (vecD (vOf c G q)), some (vecD (vOf c G F)), some (intsD o), some (.list (waitD c.length (vOf c G o) made)), none, none, none]) (List.range c.length) (fun pre r post ρ e hp => by
              obtain ⟨u4, rfl⟩ := hp
              have hr : r < c.length := by have : r ∈ List.range c.length := (by rw [e]; exact List.mem_append_right _ List.mem_cons_self); exact List.mem_range.mp this
              refine ⟨[some (scrD ns), some (choiceD c), some (intsD G), some (costsD C), some (.int r), some (.bool true), some (costsD C), some (.tuple [.list W, intsD F]), some (vecD (vOf c G q)), some (vecD (vOf c G F)), some (intsD o), some (.list (waitD c.length (vOf c G o) made)), none, none, none], _, rfl, gIf_s ?_, _, rfl⟩
              have ew := wait_at (v := vOf c G o) (made := made) hr
              have ew2 := eWat r hr
              by_cases d : (vOf c G o).getD r 0 = 1
              · rw [if_pos d] at ew
                have d2 : (vOf c G q).getD r 0 = 1 := by
                  have h1 := best_of g hG hM.picks hM.best ho r
                  have h2 := (vOf_bounds g hG hM.picks r).2
                  grind
                rw [if_pos d2] at ew2
                have hle := waits_more g hG hM halike L.vals L.best ho hW hr d
                refine andT_t (asB_ok (bin_ok (bin_ok rfl rfl ew) rfl (c := .bool true) rfl)) (asB_ok ((call2 (bin_ok rfl rfl ew) (bin_ok (bin_ok rfl rfl (atI0 _ _)) rfl ew2)).trans ?_))
                rw [law_below_ok _ _ (hW.sz r) (val_sz (n := 0) (by decide) L.vals.sz r), decide_eq_false (by grind)]
              · rw [if_neg d] at ew
                exact andT_f (asB_ok (bin_ok (bin_ok rfl rfl ew) rfl (c := .bool false) rfl))) (ρ := [some (scrD ns), some (choiceD c), some (intsD G), some (costsD C), z4, some (.bool true), some (costsD C), some (.tuple [.list W, intsD F]), some (vecD (vOf c G q)), some (vecD (vOf c G F)), some (intsD o), some (.list (waitD c.length (vOf c G o) made)), none, none, none]) ⟨_, rfl⟩
          subst h3
          exact ⟨[some (scrD ns), some (choiceD c), some (intsD G), some (costsD C), z4, some (.bool true), some (costsD C), some (.tuple [.list W, intsD F]), some (vecD (vOf c G q)), some (vecD (vOf c G F)), some (intsD o), z11, none, none, none], _, rfl, (gSeq_nx (gSet_ok ((call2 ((call2 rfl rfl).trans (picked_ok g ho)) (un_ok rfl (list_ints G))).trans eWt))).trans (gFor_nx (itR1_nat (n := c.length) (un_ok rfl (len_choice c)) (by omega)) e3), _, _, _, rfl⟩) (ρ := [some (scrD ns), some (choiceD c), some (intsD G), some (costsD C), y4, some (.bool true), some (costsD C), some (.tuple [.list W, intsD F]), some (vecD (vOf c G q)), some (vecD (vOf c G F)), none, none, none, none, none]) ⟨_, _, _, rfl⟩
      exact ⟨ρ2, gFor_nx hit e2, z4, z10, z11, h2⟩
  refine (gSeq_nx e2).trans ?_
  subst h2
  exact gRet_ok rfl
end LW
end

section
set_option Elab.async false
set_option linter.all false
set_option maxRecDepth 100000
set_option maxHeartbeats 4000000
namespace LW
open PySem PySem.Spec PyProof.Rows L2 DL

def top (i : Nat) : Stmt := PySem.Challenge.pw_lotwander_k14_whole_costs.main.body.getD i (.Pass ⟨0, 0, 0, 0⟩)
abbrev s_divisor : Stmt := top 3
abbrev N_divisor : List Str := ["a", "b", "left"]
theorem sc_divisor : FnScope N_divisor ["a", "b"] (defScope s_divisor) := ⟨rfl, rfl, rfl, by decide +kernel, rfl, by decide +kernel, by decide +kernel⟩
abbrev s_frac : Stmt := top 4
abbrev N_frac : List Str := ["upper", "lower", "same"]
theorem sc_frac : FnScope N_frac ["upper", "lower"] (defScope s_frac) := ⟨rfl, rfl, rfl, by decide +kernel, rfl, by decide +kernel, by decide +kernel⟩
abbrev s_plus : Stmt := top 5
abbrev N_plus : List Str := ["a", "b"]
theorem sc_plus : FnScope N_plus ["a", "b"] (defScope s_plus) := ⟨rfl, rfl, rfl, by decide +kernel, rfl, by decide +kernel, by decide +kernel⟩
abbrev s_less : Stmt := top 6
abbrev N_less : List Str := ["a", "b"]
theorem sc_less : FnScope N_less ["a", "b"] (defScope s_less) := ⟨rfl, rfl, rfl, by decide +kernel, rfl, by decide +kernel, by decide +kernel⟩
abbrev s_times : Stmt := top 7
abbrev N_times : List Str := ["a", "b"]
theorem sc_times : FnScope N_times ["a", "b"] (defScope s_times) := ⟨rfl, rfl, rfl, by decide +kernel, rfl, by decide +kernel, by decide +kernel⟩
abbrev s_over : Stmt := top 8
abbrev N_over : List Str := ["a", "b"]
theorem sc_over : FnScope N_over ["a", "b"] (defScope s_over) := ⟨rfl, rfl, rfl, by decide +kernel, rfl, by decide +kernel, by decide +kernel⟩
abbrev s_below : Stmt := top 9
abbrev N_below : List Str := ["a", "b"]
theorem sc_below : FnScope N_below ["a", "b"] (defScope s_below) := ⟨rfl, rfl, rfl, by decide +kernel, rfl, by decide +kernel, by decide +kernel⟩
abbrev s_summed : Stmt := top 10
abbrev N_summed : List Str := ["row", "made", "a"]
theorem sc_summed : FnScope N_summed ["row"] (defScope s_summed) := ⟨rfl, rfl, rfl, by decide +kernel, rfl, by decide +kernel, by decide +kernel⟩
abbrev s_is_whole : Stmt := top 11
abbrev N_is_whole : List Str := ["thing"]
theorem sc_is_whole : FnScope N_is_whole ["thing"] (defScope s_is_whole) := ⟨rfl, rfl, rfl, by decide +kernel, rfl, by decide +kernel, by decide +kernel⟩
abbrev s_eased : Stmt := top 12
abbrev N_eased : List Str := ["rows", "place", "found", "head", "made", "k", "many", "a", "b"]
theorem sc_eased : FnScope N_eased ["rows", "place"] (defScope s_eased) := ⟨rfl, rfl, rfl, by decide +kernel, rfl, by decide +kernel, by decide +kernel⟩
abbrev s_solved : Stmt := top 13
abbrev N_solved : List Str := ["rows", "made", "place", "row"]
theorem sc_solved : FnScope N_solved ["rows"] (defScope s_solved) := ⟨rfl, rfl, rfl, by decide +kernel, rfl, by decide +kernel, by decide +kernel⟩
abbrev s_need_room : Stmt := top 20
abbrev N_need_room : List Str := ["walk", "thing"]
theorem sc_need_room : FnScope N_need_room ["walk", "thing"] (defScope s_need_room) := ⟨rfl, rfl, rfl, by decide +kernel, rfl, by decide +kernel, by decide +kernel⟩
abbrev s_need_rooms : Stmt := top 21
abbrev N_need_rooms : List Str := ["walk", "things", "last", "thing"]
theorem sc_need_rooms : FnScope N_need_rooms ["walk", "things"] (defScope s_need_rooms) := ⟨rfl, rfl, rfl, by decide +kernel, rfl, by decide +kernel, by decide +kernel⟩
abbrev s_made_of : Stmt := top 22
abbrev N_made_of : List Str := ["spread", "values", "room", "share"]
theorem sc_made_of : FnScope N_made_of ["spread", "values"] (defScope s_made_of) := ⟨rfl, rfl, rfl, by decide +kernel, rfl, by decide +kernel, by decide +kernel⟩
abbrev s_can_come : Stmt := top 23
abbrev N_can_come : List Str := ["walk", "goals", "found", "room", "more", "other", "share"]
theorem sc_can_come : FnScope N_can_come ["walk", "goals"] (defScope s_can_come) := ⟨rfl, rfl, rfl, by decide +kernel, rfl, by decide +kernel, by decide +kernel⟩
abbrev s_known_part : Stmt := top 26
abbrev N_known_part : List Str := ["value", "share"]
theorem sc_known_part : FnScope N_known_part ["value", "share"] (defScope s_known_part) := ⟨rfl, rfl, rfl, by decide +kernel, rfl, by decide +kernel, by decide +kernel⟩
abbrev s_solved_for : Stmt := top 25
abbrev N_solved_for : List Str := ["walk", "rooms", "known", "given", "rows", "room", "row", "other", "share", "made", "value"]
theorem sc_solved_for : FnScope N_solved_for ["walk", "rooms", "known", "given"] (defScope s_solved_for) := ⟨rfl, rfl, rfl, by decide +kernel, rfl, by decide +kernel, by decide +kernel⟩
abbrev s_chances_of : Stmt := top 27
abbrev N_chances_of : List Str := ["walk", "goals", "reached", "known", "room", "rooms", "spread"]
theorem sc_chances_of : FnScope N_chances_of ["walk", "goals"] (defScope s_chances_of) := ⟨rfl, rfl, rfl, by decide +kernel, rfl, by decide +kernel, by decide +kernel⟩
abbrev s_chances : Stmt := top 28
abbrev N_chances : List Str := ["walk", "goals"]
theorem sc_chances : FnScope N_chances ["walk", "goals"] (defScope s_chances) := ⟨rfl, rfl, rfl, by decide +kernel, rfl, by decide +kernel, by decide +kernel⟩
abbrev s_waits : Stmt := top 29
abbrev N_waits : List Str := ["walk", "goals", "found", "rooms", "made", "room", "spread"]
theorem sc_waits : FnScope N_waits ["walk", "goals"] (defScope s_waits) := ⟨rfl, rfl, rfl, by decide +kernel, rfl, by decide +kernel, by decide +kernel⟩
abbrev s_walk_by : Stmt := top 31
abbrev N_walk_by : List Str := ["choice", "picks", "ways", "pick"]
theorem sc_walk_by : FnScope N_walk_by ["choice", "picks"] (defScope s_walk_by) := ⟨rfl, rfl, rfl, by decide +kernel, rfl, by decide +kernel, by decide +kernel⟩
abbrev s_picked : Stmt := top 32
abbrev N_picked : List Str := ["choice", "picks", "ways", "pick"]
theorem sc_picked : FnScope N_picked ["choice", "picks"] (defScope s_picked) := ⟨rfl, rfl, rfl, by decide +kernel, rfl, by decide +kernel, by decide +kernel⟩
abbrev s_better : Stmt := top 33
abbrev N_better : List Str := ["choice", "values", "picks", "goals", "made", "room", "best", "k", "value"]
theorem sc_better : FnScope N_better ["choice", "values", "picks", "goals"] (defScope s_better) := ⟨rfl, rfl, rfl, by decide +kernel, rfl, by decide +kernel, by decide +kernel⟩
abbrev s_most : Stmt := top 34
abbrev N_most : List Str := ["choice", "goals", "picks", "values", "further", "ways"]
theorem sc_most : FnScope N_most ["choice", "goals"] (defScope s_most) := ⟨rfl, rfl, rfl, by decide +kernel, rfl, by decide +kernel, by decide +kernel⟩
abbrev s_need_costs : Stmt := top 36
abbrev N_need_costs : List Str := ["choice", "costs", "ways", "row", "cost"]
theorem sc_need_costs : FnScope N_need_costs ["choice", "costs"] (defScope s_need_costs) := ⟨rfl, rfl, rfl, by decide +kernel, rfl, by decide +kernel, by decide +kernel⟩
abbrev s_costs_by : Stmt := top 37
abbrev N_costs_by : List Str := ["walk", "paid", "rooms", "rows", "room", "row", "other", "share", "made", "value", "spread"]
theorem sc_costs_by : FnScope N_costs_by ["walk", "paid", "rooms"] (defScope s_costs_by) := ⟨rfl, rfl, rfl, by decide +kernel, rfl, by decide +kernel, by decide +kernel⟩
abbrev s_lies_in : Stmt := top 38
abbrev N_lies_in : List Str := ["way", "rooms", "goals", "other", "share"]
theorem sc_lies_in : FnScope N_lies_in ["way", "rooms", "goals"] (defScope s_lies_in) := ⟨rfl, rfl, rfl, by decide +kernel, rfl, by decide +kernel, by decide +kernel⟩
abbrev s_cheaper : Stmt := top 39
abbrev N_cheaper : List Str := ["choice", "costs", "goals", "rooms", "values", "picks", "made", "room", "best", "k", "value"]
theorem sc_cheaper : FnScope N_cheaper ["choice", "costs", "goals", "rooms", "values", "picks"] (defScope s_cheaper) := ⟨rfl, rfl, rfl, by decide +kernel, rfl, by decide +kernel, by decide +kernel⟩
abbrev s_values_by : Stmt := top 40
abbrev N_values_by : List Str := ["choice", "costs", "picks", "rooms", "paid", "row", "pick"]
theorem sc_values_by : FnScope N_values_by ["choice", "costs", "picks", "rooms"] (defScope s_values_by) := ⟨rfl, rfl, rfl, by decide +kernel, rfl, by decide +kernel, by decide +kernel⟩
abbrev s_least_costs : Stmt := top 41
abbrev N_least_costs : List Str := ["choice", "costs", "goals", "chances", "picks", "rooms", "values", "further", "room"]
theorem sc_least_costs : FnScope N_least_costs ["choice", "costs", "goals"] (defScope s_least_costs) := ⟨rfl, rfl, rfl, by decide +kernel, rfl, by decide +kernel, by decide +kernel⟩
abbrev s_law_cell_at : Stmt := top 43
abbrev N_law_cell_at : List Str := ["_law_script", "_law_k"]
theorem sc_law_cell_at : FnScope N_law_cell_at ["_law_script", "_law_k"] (defScope s_law_cell_at) := ⟨rfl, rfl, rfl, by decide +kernel, rfl, by decide +kernel, by decide +kernel⟩
abbrev s_law_mixed : Stmt := top 44
abbrev N_law_mixed : List Str := ["_law_script", "_law_k", "_law_many", "_law_drawn"]
theorem sc_law_mixed : FnScope N_law_mixed ["_law_script", "_law_k", "_law_many"] (defScope s_law_mixed) := ⟨rfl, rfl, rfl, by decide +kernel, rfl, by decide +kernel, by decide +kernel⟩
abbrev s_law_divisor : Stmt := top 45
abbrev N_law_divisor : List Str := ["_law_a", "_law_b", "_law_left"]
theorem sc_law_divisor : FnScope N_law_divisor ["_law_a", "_law_b"] (defScope s_law_divisor) := ⟨rfl, rfl, rfl, by decide +kernel, rfl, by decide +kernel, by decide +kernel⟩
abbrev s_law_frac : Stmt := top 46
abbrev N_law_frac : List Str := ["_law_upper", "_law_lower", "_law_same"]
theorem sc_law_frac : FnScope N_law_frac ["_law_upper", "_law_lower"] (defScope s_law_frac) := ⟨rfl, rfl, rfl, by decide +kernel, rfl, by decide +kernel, by decide +kernel⟩
abbrev s_law_spread : Stmt := top 47
abbrev N_law_spread : List Str := ["_law_script", "_law_at", "_law_many", "_law_weights", "_law_k", "_law_room", "_law_whole_here"]
theorem sc_law_spread : FnScope N_law_spread ["_law_script", "_law_at", "_law_many"] (defScope s_law_spread) := ⟨rfl, rfl, rfl, by decide +kernel, rfl, by decide +kernel, by decide +kernel⟩
abbrev s_law_choice : Stmt := top 49
abbrev N_law_choice : List Str := ["_law_script", "_law_at", "_law_many", "_law_made_here", "_law_room", "_law_ways", "_law_k"]
theorem sc_law_choice : FnScope N_law_choice ["_law_script", "_law_at"] (defScope s_law_choice) := ⟨rfl, rfl, rfl, by decide +kernel, rfl, by decide +kernel, by decide +kernel⟩
abbrev s_law_whole : Stmt := top 50
abbrev N_law_whole : List Str := ["_law_found"]
theorem sc_law_whole : FnScope N_law_whole ["_law_found"] (defScope s_law_whole) := ⟨rfl, rfl, rfl, by decide +kernel, rfl, by decide +kernel, by decide +kernel⟩
abbrev s_law_are_picks : Stmt := top 51
abbrev N_law_are_picks : List Str := ["_law_choice_here", "_law_picks", "_law_room"]
theorem sc_law_are_picks : FnScope N_law_are_picks ["_law_choice_here", "_law_picks"] (defScope s_law_are_picks) := ⟨rfl, rfl, rfl, by decide +kernel, rfl, by decide +kernel, by decide +kernel⟩
abbrev s_law_all_picks : Stmt := top 52
abbrev N_law_all_picks : List Str := ["_law_choice_here", "_law_made_here", "_law_ways", "_law_longer", "_law_row", "_law_k"]
theorem sc_law_all_picks : FnScope N_law_all_picks ["_law_choice_here"] (defScope s_law_all_picks) := ⟨rfl, rfl, rfl, by decide +kernel, rfl, by decide +kernel, by decide +kernel⟩
abbrev s_law_goals : Stmt := top 53
abbrev N_law_goals : List Str := ["_law_script", "_law_at", "_law_many", "_law_room"]
theorem sc_law_goals : FnScope N_law_goals ["_law_script", "_law_at", "_law_many"] (defScope s_law_goals) := ⟨rfl, rfl, rfl, by decide +kernel, rfl, by decide +kernel, by decide +kernel⟩
abbrev s_law_add : Stmt := top 54
abbrev N_law_add : List Str := ["_law_a", "_law_b", "_law_many"]
theorem sc_law_add : FnScope N_law_add ["_law_a", "_law_b", "_law_many"] (defScope s_law_add) := ⟨rfl, rfl, rfl, by decide +kernel, rfl, by decide +kernel, by decide +kernel⟩
abbrev s_law_below : Stmt := top 56
abbrev N_law_below : List Str := ["_law_a", "_law_b"]
theorem sc_law_below : FnScope N_law_below ["_law_a", "_law_b"] (defScope s_law_below) := ⟨rfl, rfl, rfl, by decide +kernel, rfl, by decide +kernel, by decide +kernel⟩
abbrev s_law_way_cost : Stmt := top 57
abbrev N_law_way_cost : List Str := ["_law_way", "_law_cost", "_law_values", "_law_made_here", "_law_pair"]
theorem sc_law_way_cost : FnScope N_law_way_cost ["_law_way", "_law_cost", "_law_values"] (defScope s_law_way_cost) := ⟨rfl, rfl, rfl, by decide +kernel, rfl, by decide +kernel, by decide +kernel⟩
abbrev s_law_walked : Stmt := top 58
abbrev N_law_walked : List Str := ["_law_choice_here", "_law_costs", "_law_goals_here", "_law_values", "_law_picks", "_law_room", "_law_ways", "_law_way", "_law_cost"]
theorem sc_law_walked : FnScope N_law_walked ["_law_choice_here", "_law_costs", "_law_goals_here", "_law_values", "_law_picks"] (defScope s_law_walked) := ⟨rfl, rfl, rfl, by decide +kernel, rfl, by decide +kernel, by decide +kernel⟩
abbrev s_law : Stmt := top 59
abbrev N_law : List Str := ["_law_script", "_law_choice_here", "_law_goals_here", "_law_costs", "_law_room", "_law_alike", "_law_handed", "_law_found", "_law_sure", "_law_coming", "_law_picks", "_law_other", "_law_k", "_law_row", "_law_cost"]
theorem sc_law : FnScope N_law ["_law_script"] (defScope s_law) := ⟨rfl, rfl, rfl, by decide +kernel, rfl, by decide +kernel, by decide +kernel⟩

/-- what the top has written -/
structure Txt (K : PySem.W.Frag) (mg : Str → Option Value) : Prop where
  z_abs : mg "abs" = none
  z_isinstance : mg "isinstance" = none
  z_int : mg "int" = none
  z_bool : mg "bool" = none
  z_range : mg "range" = none
  z_len : mg "len" = none
  z_zip : mg "zip" = none
  z_list : mg "list" = none
  z_any : mg "any" = none
  z_sorted : mg "sorted" = none
  z_tuple : mg "tuple" = none
  z_all : mg "all" = none
  z_sum : mg "sum" = none
  c_NOUGHT : Cst K mg "NOUGHT" (.ref (He.ga K "NOUGHT")) (.tuple [.int 0, .int 1])
  c_ONE : Cst K mg "ONE" (.ref (He.ga K "ONE")) (.tuple [.int 1, .int 1])
  d_divisor : At K mg "divisor" s_divisor
  d_frac : At K mg "frac" s_frac
  d_plus : At K mg "plus" s_plus
  d_less : At K mg "less" s_less
  d_times : At K mg "times" s_times
  d_over : At K mg "over" s_over
  d_below : At K mg "below" s_below
  d_summed : At K mg "summed" s_summed
  d_is_whole : At K mg "is_whole" s_is_whole
  d_eased : At K mg "eased" s_eased
  d_solved : At K mg "solved" s_solved
  d_need_room : At K mg "need_room" s_need_room
  d_need_rooms : At K mg "need_rooms" s_need_rooms
  d_made_of : At K mg "made_of" s_made_of
  d_can_come : At K mg "can_come" s_can_come
  d_known_part : At K mg "known_part" s_known_part
  d_solved_for : At K mg "solved_for" s_solved_for
  d_chances_of : At K mg "chances_of" s_chances_of
  d_chances : At K mg "chances" s_chances
  d_waits : At K mg "waits" s_waits
  d_walk_by : At K mg "walk_by" s_walk_by
  d_picked : At K mg "picked" s_picked
  d_better : At K mg "better" s_better
  d_most : At K mg "most" s_most
  d_need_costs : At K mg "need_costs" s_need_costs
  d_costs_by : At K mg "costs_by" s_costs_by
  d_lies_in : At K mg "lies_in" s_lies_in
  d_cheaper : At K mg "cheaper" s_cheaper
  d_values_by : At K mg "values_by" s_values_by
  d_least_costs : At K mg "least_costs" s_least_costs
  d_law_cell_at : At K mg "_law_cell_at" s_law_cell_at
  d_law_mixed : At K mg "_law_mixed" s_law_mixed
  d_law_divisor : At K mg "_law_divisor" s_law_divisor
  d_law_frac : At K mg "_law_frac" s_law_frac
  d_law_spread : At K mg "_law_spread" s_law_spread
  d_law_choice : At K mg "_law_choice" s_law_choice
  d_law_whole : At K mg "_law_whole" s_law_whole
  d_law_are_picks : At K mg "_law_are_picks" s_law_are_picks
  d_law_all_picks : At K mg "_law_all_picks" s_law_all_picks
  d_law_goals : At K mg "_law_goals" s_law_goals
  d_law_add : At K mg "_law_add" s_law_add
  d_law_below : At K mg "_law_below" s_law_below
  d_law_way_cost : At K mg "_law_way_cost" s_law_way_cost
  d_law_walked : At K mg "_law_walked" s_law_walked
  d_law : At K mg "law" s_law
section
variable {P : Program} {w : World} {K : PySem.W.Frag} {mg : Str → Option Value} {base : Heap}

theorem w_divisor (T : Txt K mg)  : Def P w K mg base "divisor" ["a", "b"] 4 2 m_divisor :=
  mkDef (N := N_divisor) g_divisor rfl 3 T.d_divisor sc_divisor rfl (fun _ _ _ _ _ _ us hl => match us, hl with | [_, _], _ => rfl) fun cdv A outer s H E f hr => ⟨[], _, by
    unfold g_divisor
    exact (dss_cons (ds_set 0 (hN := sc_divisor.nd) (he := (de_abs T.z_abs (dc_of (de_var 0))))) (dss_cons (ds_set 1 (hN := sc_divisor.nd) (he := (de_abs T.z_abs (dc_of (de_var 1))))) (dss_cons (ds_while PassesOwn.never (dt_ne hr (de_var 1) de_int) (dss_cons (ds_set 2 (hN := sc_divisor.nd) (he := (de_mod (de_var 0) (de_var 1)))) (dss_cons (ds_set 0 (hN := sc_divisor.nd) (he := (de_var 1))) (dss_one (ds_set 1 (hN := sc_divisor.nd) (he := (de_var 2))))))) (dss_one (ds_ret (de_var 0))))))⟩

theorem w_frac (T : Txt K mg) (G_divisor : Def P w K mg base "divisor" ["a", "b"] 4 2 m_divisor) : Def P w K mg base "frac" ["upper", "lower"] 5 2 m_frac :=
  mkDef (N := N_frac) g_frac rfl 4 T.d_frac sc_frac rfl (fun _ _ _ _ _ _ us hl => match us, hl with | [_, _], _ => rfl) fun cdv A outer s H E f hr => ⟨[], _, by
    unfold g_frac
    exact (dss_cons (ds_if (dt_lt (de_var 1) de_int) (dss_cons (ds_set 0 (hN := sc_frac.nd) (he := (de_neg (de_var 0)))) (dss_one (ds_set 1 (hN := sc_frac.nd) (he := (de_neg (de_var 1)))))) dss_nil) (dss_cons (ds_set 2 (hN := sc_frac.nd) (he := (de_fn G_divisor (hr.mono (by decide)) (da_cons (de_var 0) (da_cons (de_var 1) da_nil))))) (dss_one (ds_ret (de_tup (da_cons (de_div (de_var 0) (de_var 2)) (da_cons (de_div (de_var 1) (de_var 2)) da_nil)))))))⟩

theorem w_plus (T : Txt K mg) (G_frac : Def P w K mg base "frac" ["upper", "lower"] 5 2 m_frac) : Def P w K mg base "plus" ["a", "b"] 6 2 m_plus :=
  mkDef (N := N_plus) g_plus rfl 5 T.d_plus sc_plus rfl (fun _ _ _ _ _ _ us hl => match us, hl with | [_, _], _ => rfl) fun cdv A outer s H E f hr => ⟨[], _, by
    unfold g_plus
    exact (dss_one (ds_ret (de_fn G_frac (hr.mono (by decide)) (da_cons (de_add (de_mul (de_ix (dc_of (de_var 0)) de_int) (de_ix (dc_of (de_var 1)) de_int)) (de_mul (de_ix (dc_of (de_var 1)) de_int) (de_ix (dc_of (de_var 0)) de_int))) (da_cons (de_mul (de_ix (dc_of (de_var 0)) de_int) (de_ix (dc_of (de_var 1)) de_int)) da_nil)))))⟩

theorem w_less (T : Txt K mg) (G_frac : Def P w K mg base "frac" ["upper", "lower"] 5 2 m_frac) : Def P w K mg base "less" ["a", "b"] 6 2 m_less :=
  mkDef (N := N_less) g_less rfl 5 T.d_less sc_less rfl (fun _ _ _ _ _ _ us hl => match us, hl with | [_, _], _ => rfl) fun cdv A outer s H E f hr => ⟨[], _, by
    unfold g_less
    exact (dss_one (ds_ret (de_fn G_frac (hr.mono (by decide)) (da_cons (de_sub (de_mul (de_ix (dc_of (de_var 0)) de_int) (de_ix (dc_of (de_var 1)) de_int)) (de_mul (de_ix (dc_of (de_var 1)) de_int) (de_ix (dc_of (de_var 0)) de_int))) (da_cons (de_mul (de_ix (dc_of (de_var 0)) de_int) (de_ix (dc_of (de_var 1)) de_int)) da_nil)))))⟩

theorem w_times (T : Txt K mg) (G_frac : Def P w K mg base "frac" ["upper", "lower"] 5 2 m_frac) : Def P w K mg base "times" ["a", "b"] 6 2 m_times :=
  mkDef (N := N_times) g_times rfl 5 T.d_times sc_times rfl (fun _ _ _ _ _ _ us hl => match us, hl with | [_, _], _ => rfl) fun cdv A outer s H E f hr => ⟨[], _, by
    unfold g_times
    exact (dss_one (ds_ret (de_fn G_frac (hr.mono (by decide)) (da_cons (de_mul (de_ix (dc_of (de_var 0)) de_int) (de_ix (dc_of (de_var 1)) de_int)) (da_cons (de_mul (de_ix (dc_of (de_var 0)) de_int) (de_ix (dc_of (de_var 1)) de_int)) da_nil)))))⟩

theorem w_over (T : Txt K mg) (G_frac : Def P w K mg base "frac" ["upper", "lower"] 5 2 m_frac) : Def P w K mg base "over" ["a", "b"] 6 2 m_over :=
  mkDef (N := N_over) g_over rfl 5 T.d_over sc_over rfl (fun _ _ _ _ _ _ us hl => match us, hl with | [_, _], _ => rfl) fun cdv A outer s H E f hr => ⟨[], _, by
    unfold g_over
    exact (dss_one (ds_ret (de_fn G_frac (hr.mono (by decide)) (da_cons (de_mul (de_ix (dc_of (de_var 0)) de_int) (de_ix (dc_of (de_var 1)) de_int)) (da_cons (de_mul (de_ix (dc_of (de_var 0)) de_int) (de_ix (dc_of (de_var 1)) de_int)) da_nil)))))⟩

theorem w_below (T : Txt K mg)  : Def P w K mg base "below" ["a", "b"] 4 2 m_below :=
  mkDef (N := N_below) g_below rfl 3 T.d_below sc_below rfl (fun _ _ _ _ _ _ us hl => match us, hl with | [_, _], _ => rfl) fun cdv A outer s H E f hr => ⟨[], _, by
    unfold g_below
    exact (dss_one (ds_ret (de_lt (de_mul (de_ix (dc_of (de_var 0)) de_int) (de_ix (dc_of (de_var 1)) de_int)) (de_mul (de_ix (dc_of (de_var 1)) de_int) (de_ix (dc_of (de_var 0)) de_int)))))⟩

theorem w_summed (T : Txt K mg) (G_plus : Def P w K mg base "plus" ["a", "b"] 6 2 m_plus) : Def P w K mg base "summed" ["row"] 7 1 m_summed :=
  mkDef (N := N_summed) g_summed rfl 6 T.d_summed sc_summed rfl (fun _ _ _ _ _ _ us hl => match us, hl with | [_], _ => rfl) fun cdv A outer s H E f hr => ⟨[], _, by
    unfold g_summed
    exact (dss_cons (ds_set 1 (hN := sc_summed.nd) (he := (de_cst T.c_NOUGHT))) (dss_cons (ds_for PassesOwn.never rfl (di_seq (de_var 0)) (dg_name (i := 2) (hN := sc_summed.nd)) (dss_one (ds_set 1 (hN := sc_summed.nd) (he := (de_fn G_plus (hr.mono (by decide)) (da_cons (de_var 1) (da_cons (de_var 2) da_nil))))))) (dss_one (ds_ret (de_var 1)))))⟩

theorem w_is_whole (T : Txt K mg)  : Def P w K mg base "is_whole" ["thing"] 4 1 m_is_whole :=
  mkDef (N := N_is_whole) g_is_whole rfl 3 T.d_is_whole sc_is_whole rfl (fun _ _ _ _ _ _ us hl => match us, hl with | [_], _ => rfl) fun cdv A outer s H E f hr => ⟨[], _, by
    unfold g_is_whole
    exact (dss_one (ds_ret (de_and (de_isi (by rfl) T.z_isinstance (by rfl) T.z_int bt_int (de_var 0)) (de_one (de_not (de_isi (by rfl) T.z_isinstance (by rfl) T.z_bool bt_bool (de_var 0)))))))⟩

theorem w_eased (T : Txt K mg) (G_over : Def P w K mg base "over" ["a", "b"] 6 2 m_over) (G_less : Def P w K mg base "less" ["a", "b"] 6 2 m_less) (G_times : Def P w K mg base "times" ["a", "b"] 6 2 m_times) : Def P w K mg base "eased" ["rows", "place"] 7 2 m_eased :=
  mkDef (N := N_eased) g_eased rfl 6 T.d_eased sc_eased rfl (fun _ _ _ _ _ _ us hl => match us, hl with | [_, _], _ => rfl) fun cdv A outer s H E f hr => ⟨[], _, by
    unfold g_eased
    exact (dss_cons (ds_set 2 (hN := sc_eased.nd) (he := (de_of (df_lc rfl sc_eased.nd (di_range2 (by rfl) T.z_range (de_var 1) (de_len T.z_len (dc_of (de_var 0)))) (blkOk_by (own := [("k", 5)]) (by kernel_rfl)) (fun _ _ _ _ _ => (dg_name (i := 5) (hN := sc_eased.nd))) (fun _ _ _ _ _ => (dts_one (dt_ne hr (de_ix (dc_of (de_ix (dc_of (de_var 0)) (de_var 5))) (de_var 1)) (de_cst T.c_NOUGHT)))) (fun _ _ _ _ _ => (de_var 5)))))) (dss_cons (ds_if (dt_eq hr (de_var 2) (de_of (df_lst da_nil))) (dss_one (ds_ret de_non)) dss_nil) (dss_cons (ds_setLc 3 (hc := rfl) (hN := sc_eased.nd) (hi := (di_seq (de_ix (dc_of (de_var 0)) (de_ix (dc_of (de_var 2)) de_int)))) (ok := (blkOk_by (own := [("a", 7)]) (by kernel_rfl))) (hg := (fun _ _ _ _ _ => (dg_name (i := 7) (hN := sc_eased.nd)))) (ht := (fun _ _ _ _ _ => dts_nil)) (he := (fun _ _ _ _ _ => (de_fn G_over (hr.mono (by decide)) (da_cons (de_var 7) (da_cons (de_ix (dc_of (de_ix (dc_of (de_var 0)) (de_ix (dc_of (de_var 2)) de_int))) (de_var 1)) da_nil)))))) (dss_cons (ds_new 4 (hN := sc_eased.nd) (he := (df_lst da_nil))) (dss_cons (ds_for PassesOwn.never rfl (di_range1 (by rfl) T.z_range (de_len T.z_len (dc_of (de_var 0)))) (dg_name (i := 5) (hN := sc_eased.nd)) (dss_one (ds_if (dt_ne hr (de_var 5) (de_ix (dc_of (de_var 2)) de_int)) (dss_cons (ds_set 6 (hN := sc_eased.nd) (he := (de_ix (dc_of (de_ix (dc_of (de_var 0)) (de_var 5))) (de_var 1)))) (dss_one (ds_app 4 (he := (de_of (df_lc rfl sc_eased.nd (di_zipY (by rfl) T.z_zip (de_ix (dc_of (de_var 0)) (de_var 5)) (de_var 3)) (blkOk_by (own := [("a", 7), ("b", 8)]) (by kernel_rfl)) (fun _ _ _ _ _ => (dg_tup rfl (dgs_cons (dg_name (i := 7) (hN := sc_eased.nd)) (dgs_cons (dg_name (i := 8) (hN := sc_eased.nd)) dgs_nil)))) (fun _ _ _ _ _ => dts_nil) (fun _ _ _ _ _ => (de_fn G_less (hr.mono (by decide)) (da_cons (de_var 7) (da_cons (de_fn G_times (hr.mono (by decide)) (da_cons (de_var 6) (da_cons (de_var 8) da_nil))) da_nil)))))))))) dss_nil))) (dss_one (ds_ret (de_add (de_add (de_sl (dc_own 4) dp_no (dp_is (de_var 1))) (de_of (df_lst (da_cons (de_var 3) da_nil)))) (de_sl (dc_own 4) (dp_is (de_var 1)) dp_no)))))))))⟩

theorem w_solved (T : Txt K mg) (G_eased : Def P w K mg base "eased" ["rows", "place"] 7 2 m_eased) : Def P w K mg base "solved" ["rows"] 8 1 m_solved :=
  mkDef (N := N_solved) g_solved rfl 7 T.d_solved sc_solved rfl (fun _ _ _ _ _ _ us hl => match us, hl with | [_], _ => rfl) fun cdv A outer s H E f hr => ⟨[], _, by
    unfold g_solved
    exact (dss_cons (ds_set 1 (hN := sc_solved.nd) (he := (de_var 0))) (dss_cons (ds_for PassesOwn.never rfl (di_range1 (by rfl) T.z_range (de_len T.z_len (dc_of (de_var 0)))) (dg_name (i := 2) (hN := sc_solved.nd)) (dss_one (ds_set 1 (hN := sc_solved.nd) (he := (de_fn G_eased (hr.mono (by decide)) (da_cons (de_var 1) (da_cons (de_var 2) da_nil))))))) (dss_one (ds_ret (de_of (df_lc rfl sc_solved.nd (di_seq (de_var 1)) (blkOk_by (own := [("row", 3)]) (by kernel_rfl)) (fun _ _ _ _ _ => (dg_name (i := 3) (hN := sc_solved.nd))) (fun _ _ _ _ _ => dts_nil) (fun _ _ _ _ _ => (de_ix (dc_of (de_var 3)) (de_neg de_int)))))))))⟩

theorem w_need_room (T : Txt K mg) (G_is_whole : Def P w K mg base "is_whole" ["thing"] 4 1 m_is_whole) : Def P w K mg base "need_room" ["walk", "thing"] 5 2 m_need_room :=
  mkDef (N := N_need_room) g_need_room rfl 4 T.d_need_room sc_need_room rfl (fun _ _ _ _ _ _ us hl => match us, hl with | [_, _], _ => rfl) fun cdv A outer s H E f hr => ⟨[], _, by
    unfold g_need_room
    exact (dss_one (ds_if (dt_w (dw_or (dt_not (dt_val (de_fn G_is_whole (hr.mono (by decide)) (da_cons (de_var 1) da_nil)))) (dw_or (dt_lt (de_var 1) de_int) (dw_or1 (dt_ge (de_var 1) (de_len T.z_len (dc_of (de_var 0)))))))) (dss_one (ds_raise0 ("NoRooms" : PySem.Str))) dss_nil))⟩

theorem w_need_rooms (T : Txt K mg) (G_need_room : Def P w K mg base "need_room" ["walk", "thing"] 5 2 m_need_room) : Def P w K mg base "need_rooms" ["walk", "things"] 6 2 m_need_rooms :=
  mkDef (N := N_need_rooms) g_need_rooms rfl 5 T.d_need_rooms sc_need_rooms rfl (fun _ _ _ _ _ _ us hl => match us, hl with | [_, _], _ => rfl) fun cdv A outer s H E f hr => ⟨[], _, by
    unfold g_need_rooms
    exact (dss_cons (ds_if (dt_not (dt_val (de_isi (by rfl) T.z_isinstance (by rfl) T.z_list bt_list (de_var 1)))) (dss_one (ds_raise0 ("NoRooms" : PySem.Str))) dss_nil) (dss_cons (ds_set 2 (hN := sc_need_rooms.nd) (he := (de_neg de_int))) (dss_one (ds_for PassesOwn.never rfl (di_seq (de_var 1)) (dg_name (i := 3) (hN := sc_need_rooms.nd)) (dss_cons (ds_expr (de_fn G_need_room (hr.mono (by decide)) (da_cons (de_var 0) (da_cons (de_var 3) da_nil)))) (dss_cons (ds_if (dt_le (de_var 3) (de_var 2)) (dss_one (ds_raise0 ("NoRooms" : PySem.Str))) dss_nil) (dss_one (ds_set 2 (hN := sc_need_rooms.nd) (he := (de_var 3))))))))))⟩

theorem w_made_of (T : Txt K mg) (G_summed : Def P w K mg base "summed" ["row"] 7 1 m_summed) (G_times : Def P w K mg base "times" ["a", "b"] 6 2 m_times) : Def P w K mg base "made_of" ["spread", "values"] 8 2 m_made_of :=
  mkDef (N := N_made_of) g_made_of rfl 7 T.d_made_of sc_made_of rfl (fun _ _ _ _ _ _ us hl => match us, hl with | [_, _], _ => rfl) fun cdv A outer s H E f hr => ⟨[], _, by
    unfold g_made_of
    exact (dss_one (ds_ret (de_fn G_summed (hr.mono (by decide)) (da_cons (de_of (df_lc rfl sc_made_of.nd (di_seq (de_var 0)) (blkOk_by (own := [("room", 2), ("share", 3)]) (by kernel_rfl)) (fun _ _ _ _ _ => (dg_tup rfl (dgs_cons (dg_name (i := 2) (hN := sc_made_of.nd)) (dgs_cons (dg_name (i := 3) (hN := sc_made_of.nd)) dgs_nil)))) (fun _ _ _ _ _ => dts_nil) (fun _ _ _ _ _ => (de_fn G_times (hr.mono (by decide)) (da_cons (de_var 3) (da_cons (de_ix (dc_of (de_var 1)) (de_var 2)) da_nil)))))) da_nil))))⟩

theorem w_can_come (T : Txt K mg)  : Def P w K mg base "can_come" ["walk", "goals"] 4 2 m_can_come :=
  mkDef (N := N_can_come) g_can_come rfl 3 T.d_can_come sc_can_come rfl (fun _ _ _ _ _ _ us hl => match us, hl with | [_, _], _ => rfl) fun cdv A outer s H E f hr => ⟨[], _, by
    unfold g_can_come
    exact (dss_cons (ds_new 2 (hN := sc_can_come.nd) (he := df_dnew)) (dss_cons (ds_for PassesOwn.never rfl (di_seq (de_var 1)) (dg_name (i := 3) (hN := sc_can_come.nd)) (dss_one (ds_putD 2 (hu1 hr) (he := de_bl) (hk := (de_var 3))))) (dss_cons (ds_set 4 (hN := sc_can_come.nd) (he := de_bl)) (dss_cons (ds_while PassesOwn.never (dt_val (de_var 4)) (dss_cons (ds_set 4 (hN := sc_can_come.nd) (he := de_bl)) (dss_one (ds_for PassesOwn.never rfl (di_range1 (by rfl) T.z_range (de_len T.z_len (dc_of (de_var 0)))) (dg_name (i := 3) (hN := sc_can_come.nd)) (dss_one (ds_if (dt_w (dw_and (dt_notin hr (de_var 3) (dc_own 2)) (dw_and1 (dt_val (de_any T.z_any rfl (dc_of (de_of (df_lc rfl sc_can_come.nd (di_seq (de_ix (dc_of (de_var 0)) (de_var 3))) (blkOk_by (own := [("other", 5), ("share", 6)]) (by kernel_rfl)) (fun _ _ _ _ _ => (dg_tup rfl (dgs_cons (dg_name (i := 5) (hN := sc_can_come.nd)) (dgs_cons (dg_name (i := 6) (hN := sc_can_come.nd)) dgs_nil)))) (fun _ _ _ _ _ => dts_nil) (fun _ _ _ _ _ => (de_in hr (de_var 5) (dc_own 2))))))))))) (dss_cons (ds_putD 2 (hu1 hr) (he := de_bl) (hk := (de_var 3))) (dss_one (ds_set 4 (hN := sc_can_come.nd) (he := de_bl)))) dss_nil)))))) (dss_one (ds_ret (de_sorted T.z_sorted (dc_of (de_of (df_list rfl (by rfl) T.z_list (dc_own 2)))))))))))⟩

theorem w_known_part (T : Txt K mg)  : Def P w K mg base "known_part" ["value", "share"] 4 2 m_known_part :=
  mkDef (N := N_known_part) g_known_part rfl 3 T.d_known_part sc_known_part rfl (fun _ _ _ _ _ _ us hl => match us, hl with | [_, _], _ => rfl) fun cdv A outer s H E f hr => ⟨[], _, by
    unfold g_known_part
    exact (dss_cons (ds_if (dt_eq hr (de_var 0) (de_cst T.c_ONE)) (dss_one (ds_ret (de_var 1))) dss_nil) (dss_one (ds_ret (de_cst T.c_NOUGHT))))⟩

theorem w_solved_for (T : Txt K mg) (G_solved : Def P w K mg base "solved" ["rows"] 8 1 m_solved) (G_less : Def P w K mg base "less" ["a", "b"] 6 2 m_less) (G_plus : Def P w K mg base "plus" ["a", "b"] 6 2 m_plus) (G_known_part : Def P w K mg base "known_part" ["value", "share"] 4 2 m_known_part) : DefF P w K mg base "solved_for" ["walk", "rooms", "known", "given"] 9 4 m_solved_for :=
  mkDefF (N := N_solved_for) g_solved_for rfl 8 T.d_solved_for sc_solved_for rfl (fun _ _ _ _ _ _ us hl => match us, hl with | [_, _, _, _], _ => rfl) fun cdv A outer s H E f hr => ⟨_, by
    unfold g_solved_for
    exact (dssF_cons (ds_new 4 (hN := sc_solved_for.nd) (he := (df_lst da_nil))) nrt_set (dssF_cons (ds_for PassesOwn.never rfl (di_seq (de_var 1)) (dg_name (i := 5) (hN := sc_solved_for.nd)) (dss_cons (ds_new 6 (hN := sc_solved_for.nd) (he := (df_cat (de_of (df_lc rfl sc_solved_for.nd (di_seq (de_var 1)) (blkOk_by (own := [("other", 7)]) (by kernel_rfl)) (fun _ _ _ _ _ => (dg_name (i := 7) (hN := sc_solved_for.nd))) (fun _ _ _ _ _ => dts_nil) (fun _ _ _ _ _ => (de_cst T.c_NOUGHT)))) (de_of (df_lst (da_cons (de_var 3) da_nil)))))) (dss_cons (ds_putL 6 (he := (de_cst T.c_ONE)) (hk := (de_index (hu65 hr) (dc_of (de_var 1)) (de_var 5)))) (dss_cons (ds_for PassesOwn.never rfl (di_seq (de_ix (dc_of (de_var 0)) (de_var 5))) (dg_tup rfl (dgs_cons (dg_name (i := 7) (hN := sc_solved_for.nd)) (dgs_cons (dg_name (i := 8) (hN := sc_solved_for.nd)) dgs_nil))) (dss_one (ds_if (dt_in hr (de_var 7) (dc_of (de_var 1))) (dss_one (ds_putL 6 (he := (de_fn G_less (hr.mono (by decide)) (da_cons (de_ix (dc_own 6) (de_index (hu65 hr) (dc_of (de_var 1)) (de_var 7))) (da_cons (de_var 8) da_nil)))) (hk := (de_index (hu65 hr) (dc_of (de_var 1)) (de_var 7))))) (dss_one (ds_putL 6 (he := (de_fn G_plus (hr.mono (by decide)) (da_cons (de_ix (dc_own 6) (de_neg de_int)) (da_cons (de_fn G_known_part (hr.mono (by decide)) (da_cons (de_ix (dc_of (de_var 2)) (de_var 7)) (da_cons (de_var 8) da_nil))) da_nil)))) (hk := (de_neg de_int))))))) (dss_freeze [4] (dss_one (ds_app 4 (he := (de_var 6))))))))) (nrt_for (nrt_seq nrt_set (nrt_seq nrt_putL (nrt_seq (nrt_for (nrt_if nrt_putL nrt_putL)) nrt_app)))) (dssF_cons (ds_new 9 (hN := sc_solved_for.nd) (he := (df_list rfl (by rfl) T.z_list (dc_of (de_var 2))))) nrt_set (dssF_freeze [9] (dssF_cons (ds_for PassesOwn.never rfl (di_zipY (by rfl) T.z_zip (de_var 1) (de_fn G_solved (hr.mono (by decide)) (da_cons (de_var 4) da_nil))) (dg_tup rfl (dgs_cons (dg_name (i := 5) (hN := sc_solved_for.nd)) (dgs_cons (dg_name (i := 10) (hN := sc_solved_for.nd)) dgs_nil))) (dss_one (ds_putL 9 (he := (de_var 10)) (hk := (de_var 5))))) (nrt_for nrt_putL) (dssF_own 9))))))⟩

theorem w_chances_of (T : Txt K mg) (G_can_come : Def P w K mg base "can_come" ["walk", "goals"] 4 2 m_can_come) (G_solved_for : DefF P w K mg base "solved_for" ["walk", "rooms", "known", "given"] 9 4 m_solved_for) : DefF P w K mg base "chances_of" ["walk", "goals"] 10 2 m_chances_of :=
  mkDefF (N := N_chances_of) g_chances_of rfl 9 T.d_chances_of sc_chances_of rfl (fun _ _ _ _ _ _ us hl => match us, hl with | [_, _], _ => rfl) fun cdv A outer s H E f hr => ⟨_, by
    unfold g_chances_of
    exact (dssF_cons (ds_set 2 (hN := sc_chances_of.nd) (he := (de_fn G_can_come (hr.mono (by decide)) (da_cons (de_var 0) (da_cons (de_var 1) da_nil))))) nrt_set (dssF_cons (ds_newLc 3 (hc := rfl) (hN := sc_chances_of.nd) (hi := (di_seq (de_var 0))) (ok := (blkOk_by (own := [("spread", 6)]) (by kernel_rfl))) (hg := (fun _ _ _ _ _ => (dg_name (i := 6) (hN := sc_chances_of.nd)))) (ht := (fun _ _ _ _ _ => dts_nil)) (he := (fun _ _ _ _ _ => (de_cst T.c_NOUGHT)))) nrt_set (dssF_cons (ds_for PassesOwn.never rfl (di_seq (de_var 1)) (dg_name (i := 4) (hN := sc_chances_of.nd)) (dss_one (ds_putL 3 (he := (de_cst T.c_ONE)) (hk := (de_var 4))))) (nrt_for nrt_putL) (dssF_cons (ds_setLc 5 (hc := rfl) (hN := sc_chances_of.nd) (hi := (di_seq (de_var 2))) (ok := (blkOk_by (own := [("room", 4)]) (by kernel_rfl))) (hg := (fun _ _ _ _ _ => (dg_name (i := 4) (hN := sc_chances_of.nd)))) (ht := (fun _ _ _ _ _ => (dts_one (dt_notin hr (de_var 4) (dc_of (de_var 1)))))) (he := (fun _ _ _ _ _ => (de_var 4)))) nrt_set (dssF_freeze [] (dssF_ret (df_fn G_solved_for (hr.mono (by decide)) (da_cons (de_var 0) (da_cons (de_var 5) (da_cons (de_var 3) (da_cons (de_cst T.c_NOUGHT) da_nil)))))))))))⟩

theorem w_chances (T : Txt K mg) (G_need_rooms : Def P w K mg base "need_rooms" ["walk", "things"] 6 2 m_need_rooms) (G_chances_of : DefF P w K mg base "chances_of" ["walk", "goals"] 10 2 m_chances_of) : Def P w K mg base "chances" ["walk", "goals"] 11 2 m_chances :=
  mkDef (N := N_chances) g_chances rfl 10 T.d_chances sc_chances rfl (fun _ _ _ _ _ _ us hl => match us, hl with | [_, _], _ => rfl) fun cdv A outer s H E f hr => ⟨[], _, by
    unfold g_chances
    exact (dss_cons (ds_expr (de_fn G_need_rooms (hr.mono (by decide)) (da_cons (de_var 0) (da_cons (de_var 1) da_nil)))) (dss_one (ds_ret (de_of (df_fn G_chances_of (hr.mono (by decide)) (da_cons (de_var 0) (da_cons (de_var 1) da_nil)))))))⟩

theorem w_waits (T : Txt K mg) (G_need_rooms : Def P w K mg base "need_rooms" ["walk", "things"] 6 2 m_need_rooms) (G_chances_of : DefF P w K mg base "chances_of" ["walk", "goals"] 10 2 m_chances_of) (G_solved_for : DefF P w K mg base "solved_for" ["walk", "rooms", "known", "given"] 9 4 m_solved_for) : Def P w K mg base "waits" ["walk", "goals"] 11 2 m_waits :=
  mkDef (N := N_waits) g_waits rfl 10 T.d_waits sc_waits rfl (fun _ _ _ _ _ _ us hl => match us, hl with | [_, _], _ => rfl) fun cdv A outer s H E f hr => ⟨[], _, by
    unfold g_waits
    exact (dss_cons (ds_expr (de_fn G_need_rooms (hr.mono (by decide)) (da_cons (de_var 0) (da_cons (de_var 1) da_nil)))) (dss_cons (ds_set 2 (hN := sc_waits.nd) (he := (de_of (df_fn G_chances_of (hr.mono (by decide)) (da_cons (de_var 0) (da_cons (de_var 1) da_nil)))))) (dss_cons (ds_setLc 3 (hc := rfl) (hN := sc_waits.nd) (hi := (di_range1 (by rfl) T.z_range (de_len T.z_len (dc_of (de_var 0))))) (ok := (blkOk_by (own := [("room", 5)]) (by kernel_rfl))) (hg := (fun _ _ _ _ _ => (dg_name (i := 5) (hN := sc_waits.nd)))) (ht := (fun _ _ _ _ _ => (dts_one (dt_w (dw_and (dt_eq hr (de_ix (dc_of (de_var 2)) (de_var 5)) (de_cst T.c_ONE)) (dw_and1 (dt_notin hr (de_var 5) (dc_of (de_var 1))))))))) (he := (fun _ _ _ _ _ => (de_var 5)))) (dss_cons (ds_new 4 (hN := sc_waits.nd) (he := (df_fn G_solved_for (hr.mono (by decide)) (da_cons (de_var 0) (da_cons (de_var 3) (da_cons (de_of (df_lc rfl sc_waits.nd (di_seq (de_var 0)) (blkOk_by (own := [("spread", 6)]) (by kernel_rfl)) (fun _ _ _ _ _ => (dg_name (i := 6) (hN := sc_waits.nd))) (fun _ _ _ _ _ => dts_nil) (fun _ _ _ _ _ => (de_cst T.c_NOUGHT)))) (da_cons (de_cst T.c_ONE) da_nil))))))) (dss_cons (ds_for PassesOwn.never rfl (di_range1 (by rfl) T.z_range (de_len T.z_len (dc_of (de_var 0)))) (dg_name (i := 5) (hN := sc_waits.nd)) (dss_one (ds_if (dt_ne hr (de_ix (dc_of (de_var 2)) (de_var 5)) (de_cst T.c_ONE)) (dss_one (ds_putL 4 (he := de_non) (hk := (de_var 5)))) dss_nil))) (dss_freeze [] (dss_one (ds_ret (de_var 4)))))))))⟩

theorem w_walk_by (T : Txt K mg)  : Def P w K mg base "walk_by" ["choice", "picks"] 4 2 m_walk_by :=
  mkDef (N := N_walk_by) g_walk_by rfl 3 T.d_walk_by sc_walk_by rfl (fun _ _ _ _ _ _ us hl => match us, hl with | [_, _], _ => rfl) fun cdv A outer s H E f hr => ⟨[], _, by
    unfold g_walk_by
    exact (dss_one (ds_ret (de_tupleOf T.z_tuple (dc_of (de_of (df_lc rfl sc_walk_by.nd (di_zipY (by rfl) T.z_zip (de_var 0) (de_var 1)) (blkOk_by (own := [("ways", 2), ("pick", 3)]) (by kernel_rfl)) (fun _ _ _ _ _ => (dg_tup rfl (dgs_cons (dg_name (i := 2) (hN := sc_walk_by.nd)) (dgs_cons (dg_name (i := 3) (hN := sc_walk_by.nd)) dgs_nil)))) (fun _ _ _ _ _ => dts_nil) (fun _ _ _ _ _ => (de_ix (dc_of (de_var 2)) (de_var 3)))))))))⟩

theorem w_picked (T : Txt K mg) (G_walk_by : Def P w K mg base "walk_by" ["choice", "picks"] 4 2 m_walk_by) (G_is_whole : Def P w K mg base "is_whole" ["thing"] 4 1 m_is_whole) : Def P w K mg base "picked" ["choice", "picks"] 5 2 m_picked :=
  mkDef (N := N_picked) g_picked rfl 4 T.d_picked sc_picked rfl (fun _ _ _ _ _ _ us hl => match us, hl with | [_, _], _ => rfl) fun cdv A outer s H E f hr => ⟨[], _, by
    unfold g_picked
    exact (dss_cons (ds_if (dt_w (dw_or (dt_not (dt_val (de_isi (by rfl) T.z_isinstance (by rfl) T.z_list bt_list (de_var 1)))) (dw_or1 (dt_ne hr (de_len T.z_len (dc_of (de_var 1))) (de_len T.z_len (dc_of (de_var 0))))))) (dss_one (ds_raise0 ("NoPicks" : PySem.Str))) dss_nil) (dss_cons (ds_for PassesOwn.never rfl (di_zipY (by rfl) T.z_zip (de_var 0) (de_var 1)) (dg_tup rfl (dgs_cons (dg_name (i := 2) (hN := sc_picked.nd)) (dgs_cons (dg_name (i := 3) (hN := sc_picked.nd)) dgs_nil))) (dss_one (ds_if (dt_w (dw_or (dt_not (dt_val (de_fn G_is_whole (hr.mono (by decide)) (da_cons (de_var 3) da_nil)))) (dw_or (dt_lt (de_var 3) de_int) (dw_or1 (dt_ge (de_var 3) (de_len T.z_len (dc_of (de_var 2)))))))) (dss_one (ds_raise0 ("NoPicks" : PySem.Str))) dss_nil))) (dss_one (ds_ret (de_fn G_walk_by (hr.mono (by decide)) (da_cons (de_var 0) (da_cons (de_var 1) da_nil)))))))⟩

theorem w_better (T : Txt K mg) (G_made_of : Def P w K mg base "made_of" ["spread", "values"] 8 2 m_made_of) (G_below : Def P w K mg base "below" ["a", "b"] 4 2 m_below) : DefF P w K mg base "better" ["choice", "values", "picks", "goals"] 9 4 m_better :=
  mkDefF (N := N_better) g_better rfl 8 T.d_better sc_better rfl (fun _ _ _ _ _ _ us hl => match us, hl with | [_, _, _, _], _ => rfl) fun cdv A outer s H E f hr => ⟨_, by
    unfold g_better
    exact (dssF_cons (ds_new 4 (hN := sc_better.nd) (he := (df_list rfl (by rfl) T.z_list (dc_of (de_var 2))))) nrt_set (dssF_cons (ds_for PassesOwn.never rfl (di_range1 (by rfl) T.z_range (de_len T.z_len (dc_of (de_var 0)))) (dg_name (i := 5) (hN := sc_better.nd)) (dss_cons (ds_set 6 (hN := sc_better.nd) (he := (de_ix (dc_of (de_var 1)) (de_var 5)))) (dss_one (ds_for PassesOwn.never rfl (di_range1 (by rfl) T.z_range (de_len T.z_len (dc_of (de_ix (dc_of (de_var 0)) (de_var 5))))) (dg_name (i := 7) (hN := sc_better.nd)) (dss_cons (ds_set 8 (hN := sc_better.nd) (he := (de_fn G_made_of (hr.mono (by decide)) (da_cons (de_ix (dc_of (de_ix (dc_of (de_var 0)) (de_var 5))) (de_var 7)) (da_cons (de_var 1) da_nil))))) (dss_one (ds_if (dt_w (dw_and (dt_notin hr (de_var 5) (dc_of (de_var 3))) (dw_and1 (dt_val (de_fn G_below (hr.mono (by decide)) (da_cons (de_var 6) (da_cons (de_var 8) da_nil))))))) (dss_cons (ds_set 6 (hN := sc_better.nd) (he := (de_var 8))) (dss_one (ds_putL 4 (he := (de_var 7)) (hk := (de_var 5))))) dss_nil))))))) (nrt_for (nrt_seq nrt_set (nrt_for (nrt_seq nrt_set (nrt_if (nrt_seq nrt_set nrt_putL) nrt_skip))))) (dssF_own 4)))⟩

theorem w_most (T : Txt K mg) (G_need_rooms : Def P w K mg base "need_rooms" ["walk", "things"] 6 2 m_need_rooms) (G_chances_of : DefF P w K mg base "chances_of" ["walk", "goals"] 10 2 m_chances_of) (G_better : DefF P w K mg base "better" ["choice", "values", "picks", "goals"] 9 4 m_better) (G_walk_by : Def P w K mg base "walk_by" ["choice", "picks"] 4 2 m_walk_by) : DefT P w K mg base "most" ["choice", "goals"] 11 2 m_c_most :=
  mkDefT (N := N_most) g_c_most rfl 10 T.d_most sc_most rfl (fun _ _ _ _ _ _ us hl => match us, hl with | [_, _], _ => rfl) fun cdv A outer s H E f hr => ⟨_, by
    unfold g_c_most
    exact (dssT_cons (ds_expr (de_fn G_need_rooms (hr.mono (by decide)) (da_cons (de_var 0) (da_cons (de_var 1) da_nil)))) nrt_drop (dssT_cons (ds_newLc 2 (hc := rfl) (hN := sc_most.nd) (hi := (di_seq (de_var 0))) (ok := (blkOk_by (own := [("ways", 5)]) (by kernel_rfl))) (hg := (fun _ _ _ _ _ => (dg_name (i := 5) (hN := sc_most.nd)))) (ht := (fun _ _ _ _ _ => dts_nil)) (he := (fun _ _ _ _ _ => de_int))) nrt_set (dssT_cons (ds_set 3 (hN := sc_most.nd) (he := (de_of (df_lend [] [2] (df_fn G_chances_of (hr.mono (by decide)) (da_cons (de_fn G_walk_by (hr.mono (by decide)) (da_cons (de_var 0) (da_cons (de_var 2) da_nil))) (da_cons (de_var 1) da_nil))))))) nrt_set (dssT_cons (ds_new 4 (hN := sc_most.nd) (he := (df_lend [] [2] (df_fn G_better (hr.mono (by decide)) (da_cons (de_var 0) (da_cons (de_var 3) (da_cons (de_var 2) (da_cons (de_var 1) da_nil)))))))) nrt_set (dssT_cons (ds_while PassesOwn.never (dt_lend [] (dt_ne hr (de_var 4) (de_var 2))) (dss_freeze [4] (dss_cons (ds_move 2 4 [2] (hN := sc_most.nd)) (dss_cons (ds_set 3 (hN := sc_most.nd) (he := (de_of (df_lend [] [2] (df_fn G_chances_of (hr.mono (by decide)) (da_cons (de_fn G_walk_by (hr.mono (by decide)) (da_cons (de_var 0) (da_cons (de_var 2) da_nil))) (da_cons (de_var 1) da_nil))))))) (dss_one (ds_new 4 (hN := sc_most.nd) (he := (df_lend [] [2] (df_fn G_better (hr.mono (by decide)) (da_cons (de_var 0) (da_cons (de_var 3) (da_cons (de_var 2) (da_cons (de_var 1) da_nil))))))))))))) (nrt_wh (nrt_seq nrt_move (nrt_seq nrt_set nrt_set))) (dssT_ret 3 2))))))⟩

theorem w_need_costs (T : Txt K mg) (G_is_whole : Def P w K mg base "is_whole" ["thing"] 4 1 m_is_whole) : Def P w K mg base "need_costs" ["choice", "costs"] 5 2 m_need_costs :=
  mkDef (N := N_need_costs) g_need_costs rfl 4 T.d_need_costs sc_need_costs rfl (fun _ _ _ _ _ _ us hl => match us, hl with | [_, _], _ => rfl) fun cdv A outer s H E f hr => ⟨[], _, by
    unfold g_need_costs
    exact (dss_cons (ds_if (dt_w (dw_or (dt_not (dt_val (de_isi (by rfl) T.z_isinstance (by rfl) T.z_list bt_list (de_var 1)))) (dw_or1 (dt_ne hr (de_len T.z_len (dc_of (de_var 1))) (de_len T.z_len (dc_of (de_var 0))))))) (dss_one (ds_raise0 ("NoCosts" : PySem.Str))) dss_nil) (dss_one (ds_for PassesOwn.never rfl (di_zipY (by rfl) T.z_zip (de_var 0) (de_var 1)) (dg_tup rfl (dgs_cons (dg_name (i := 2) (hN := sc_need_costs.nd)) (dgs_cons (dg_name (i := 3) (hN := sc_need_costs.nd)) dgs_nil))) (dss_cons (ds_if (dt_w (dw_or (dt_not (dt_val (de_isi (by rfl) T.z_isinstance (by rfl) T.z_list bt_list (de_var 3)))) (dw_or1 (dt_ne hr (de_len T.z_len (dc_of (de_var 3))) (de_len T.z_len (dc_of (de_var 2))))))) (dss_one (ds_raise0 ("NoCosts" : PySem.Str))) dss_nil) (dss_one (ds_for PassesOwn.never rfl (di_seq (de_var 3)) (dg_name (i := 4) (hN := sc_need_costs.nd)) (dss_one (ds_if (dt_w (dw_or (dt_not (dt_val (de_fn G_is_whole (hr.mono (by decide)) (da_cons (de_var 4) da_nil)))) (dw_or1 (dt_lt (de_var 4) de_int)))) (dss_one (ds_raise0 ("NoCosts" : PySem.Str))) dss_nil))))))))⟩

theorem w_costs_by (T : Txt K mg) (G_solved : Def P w K mg base "solved" ["rows"] 8 1 m_solved) (G_less : Def P w K mg base "less" ["a", "b"] 6 2 m_less) : DefF P w K mg base "costs_by" ["walk", "paid", "rooms"] 9 3 m_costs_by :=
  mkDefF (N := N_costs_by) g_costs_by rfl 8 T.d_costs_by sc_costs_by rfl (fun _ _ _ _ _ _ us hl => match us, hl with | [_, _, _], _ => rfl) fun cdv A outer s H E f hr => ⟨_, by
    unfold g_costs_by
    exact (dssF_cons (ds_new 3 (hN := sc_costs_by.nd) (he := (df_lst da_nil))) nrt_set (dssF_cons (ds_for PassesOwn.never rfl (di_seq (de_var 2)) (dg_name (i := 4) (hN := sc_costs_by.nd)) (dss_cons (ds_new 5 (hN := sc_costs_by.nd) (he := (df_cat (de_of (df_lc rfl sc_costs_by.nd (di_seq (de_var 2)) (blkOk_by (own := [("other", 6)]) (by kernel_rfl)) (fun _ _ _ _ _ => (dg_name (i := 6) (hN := sc_costs_by.nd))) (fun _ _ _ _ _ => dts_nil) (fun _ _ _ _ _ => (de_cst T.c_NOUGHT)))) (de_of (df_lst (da_cons (de_tup (da_cons (de_ix (dc_of (de_var 1)) (de_var 4)) (da_cons de_int da_nil))) da_nil)))))) (dss_cons (ds_putL 5 (he := (de_cst T.c_ONE)) (hk := (de_index (hu65 hr) (dc_of (de_var 2)) (de_var 4)))) (dss_cons (ds_for PassesOwn.never rfl (di_seq (de_ix (dc_of (de_var 0)) (de_var 4))) (dg_tup rfl (dgs_cons (dg_name (i := 6) (hN := sc_costs_by.nd)) (dgs_cons (dg_name (i := 7) (hN := sc_costs_by.nd)) dgs_nil))) (dss_one (ds_if (dt_in hr (de_var 6) (dc_of (de_var 2))) (dss_one (ds_putL 5 (he := (de_fn G_less (hr.mono (by decide)) (da_cons (de_ix (dc_own 5) (de_index (hu65 hr) (dc_of (de_var 2)) (de_var 6))) (da_cons (de_var 7) da_nil)))) (hk := (de_index (hu65 hr) (dc_of (de_var 2)) (de_var 6))))) dss_nil))) (dss_freeze [3] (dss_one (ds_app 3 (he := (de_var 5))))))))) (nrt_for (nrt_seq nrt_set (nrt_seq nrt_putL (nrt_seq (nrt_for (nrt_if nrt_putL nrt_skip)) nrt_app)))) (dssF_cons (ds_newLc 8 (hc := rfl) (hN := sc_costs_by.nd) (hi := (di_seq (de_var 0))) (ok := (blkOk_by (own := [("spread", 10)]) (by kernel_rfl))) (hg := (fun _ _ _ _ _ => (dg_name (i := 10) (hN := sc_costs_by.nd)))) (ht := (fun _ _ _ _ _ => dts_nil)) (he := (fun _ _ _ _ _ => (de_cst T.c_NOUGHT)))) nrt_set (dssF_freeze [8] (dssF_cons (ds_for PassesOwn.never rfl (di_zipY (by rfl) T.z_zip (de_var 2) (de_fn G_solved (hr.mono (by decide)) (da_cons (de_var 3) da_nil))) (dg_tup rfl (dgs_cons (dg_name (i := 4) (hN := sc_costs_by.nd)) (dgs_cons (dg_name (i := 9) (hN := sc_costs_by.nd)) dgs_nil))) (dss_one (ds_putL 8 (he := (de_var 9)) (hk := (de_var 4))))) (nrt_for nrt_putL) (dssF_own 8))))))⟩

theorem w_lies_in (T : Txt K mg)  : Def P w K mg base "lies_in" ["way", "rooms", "goals"] 4 3 m_lies_in :=
  mkDef (N := N_lies_in) g_lies_in rfl 3 T.d_lies_in sc_lies_in rfl (fun _ _ _ _ _ _ us hl => match us, hl with | [_, _, _], _ => rfl) fun cdv A outer s H E f hr => ⟨[], _, by
    unfold g_lies_in
    exact (dss_one (ds_ret (de_all T.z_all rfl (dc_of (de_of (df_lc rfl sc_lies_in.nd (di_seq (de_var 0)) (blkOk_by (own := [("other", 3), ("share", 4)]) (by kernel_rfl)) (fun _ _ _ _ _ => (dg_tup rfl (dgs_cons (dg_name (i := 3) (hN := sc_lies_in.nd)) (dgs_cons (dg_name (i := 4) (hN := sc_lies_in.nd)) dgs_nil)))) (fun _ _ _ _ _ => dts_nil) (fun _ _ _ _ _ => (de_or (de_in hr (de_var 3) (dc_of (de_var 1))) (de_one (de_in hr (de_var 3) (dc_of (de_var 2))))))))))))⟩

theorem w_cheaper (T : Txt K mg) (G_lies_in : Def P w K mg base "lies_in" ["way", "rooms", "goals"] 4 3 m_lies_in) (G_plus : Def P w K mg base "plus" ["a", "b"] 6 2 m_plus) (G_below : Def P w K mg base "below" ["a", "b"] 4 2 m_below) (G_made_of : Def P w K mg base "made_of" ["spread", "values"] 8 2 m_made_of) : DefF P w K mg base "cheaper" ["choice", "costs", "goals", "rooms", "values", "picks"] 9 6 m_cheaper :=
  mkDefF (N := N_cheaper) g_cheaper rfl 8 T.d_cheaper sc_cheaper rfl (fun _ _ _ _ _ _ us hl => match us, hl with | [_, _, _, _, _, _], _ => rfl) fun cdv A outer s H E f hr => ⟨_, by
    unfold g_cheaper
    exact (dssF_cons (ds_new 6 (hN := sc_cheaper.nd) (he := (df_list rfl (by rfl) T.z_list (dc_of (de_var 5))))) nrt_set (dssF_cons (ds_for PassesOwn.never rfl (di_seq (de_var 3)) (dg_name (i := 7) (hN := sc_cheaper.nd)) (dss_cons (ds_set 8 (hN := sc_cheaper.nd) (he := (de_ix (dc_of (de_var 4)) (de_var 7)))) (dss_one (ds_for PassesOwn.never rfl (di_range1 (by rfl) T.z_range (de_len T.z_len (dc_of (de_ix (dc_of (de_var 0)) (de_var 7))))) (dg_name (i := 9) (hN := sc_cheaper.nd)) (dss_one (ds_if (dt_val (de_fn G_lies_in (hr.mono (by decide)) (da_cons (de_ix (dc_of (de_ix (dc_of (de_var 0)) (de_var 7))) (de_var 9)) (da_cons (de_var 3) (da_cons (de_var 2) da_nil))))) (dss_cons (ds_set 10 (hN := sc_cheaper.nd) (he := (de_fn G_plus (hr.mono (by decide)) (da_cons (de_tup (da_cons (de_ix (dc_of (de_ix (dc_of (de_var 1)) (de_var 7))) (de_var 9)) (da_cons de_int da_nil))) (da_cons (de_fn G_made_of (hr.mono (by decide)) (da_cons (de_ix (dc_of (de_ix (dc_of (de_var 0)) (de_var 7))) (de_var 9)) (da_cons (de_var 4) da_nil))) da_nil))))) (dss_one (ds_if (dt_val (de_fn G_below (hr.mono (by decide)) (da_cons (de_var 10) (da_cons (de_var 8) da_nil)))) (dss_cons (ds_set 8 (hN := sc_cheaper.nd) (he := (de_var 10))) (dss_one (ds_putL 6 (he := (de_var 9)) (hk := (de_var 7))))) dss_nil))) dss_nil)))))) (nrt_for (nrt_seq nrt_set (nrt_for (nrt_if (nrt_seq nrt_set (nrt_if (nrt_seq nrt_set nrt_putL) nrt_skip)) nrt_skip)))) (dssF_own 6)))⟩

theorem w_values_by (T : Txt K mg) (G_costs_by : DefF P w K mg base "costs_by" ["walk", "paid", "rooms"] 9 3 m_costs_by) (G_walk_by : Def P w K mg base "walk_by" ["choice", "picks"] 4 2 m_walk_by) : DefF P w K mg base "values_by" ["choice", "costs", "picks", "rooms"] 10 4 m_values_by :=
  mkDefF (N := N_values_by) g_values_by rfl 9 T.d_values_by sc_values_by rfl (fun _ _ _ _ _ _ us hl => match us, hl with | [_, _, _, _], _ => rfl) fun cdv A outer s H E f hr => ⟨_, by
    unfold g_values_by
    exact (dssF_cons (ds_setLc 4 (hc := rfl) (hN := sc_values_by.nd) (hi := (di_zipY (by rfl) T.z_zip (de_var 1) (de_var 2))) (ok := (blkOk_by (own := [("row", 5), ("pick", 6)]) (by kernel_rfl))) (hg := (fun _ _ _ _ _ => (dg_tup rfl (dgs_cons (dg_name (i := 5) (hN := sc_values_by.nd)) (dgs_cons (dg_name (i := 6) (hN := sc_values_by.nd)) dgs_nil))))) (ht := (fun _ _ _ _ _ => dts_nil)) (he := (fun _ _ _ _ _ => (de_ix (dc_of (de_var 5)) (de_var 6))))) nrt_set (dssF_ret (df_fn G_costs_by (hr.mono (by decide)) (da_cons (de_fn G_walk_by (hr.mono (by decide)) (da_cons (de_var 0) (da_cons (de_var 2) da_nil))) (da_cons (de_var 4) (da_cons (de_var 3) da_nil))))))⟩

theorem w_least_costs (T : Txt K mg) (G_need_costs : Def P w K mg base "need_costs" ["choice", "costs"] 5 2 m_need_costs) (G_need_rooms : Def P w K mg base "need_rooms" ["walk", "things"] 6 2 m_need_rooms) (G_most : DefT P w K mg base "most" ["choice", "goals"] 11 2 m_c_most) (G_values_by : DefF P w K mg base "values_by" ["choice", "costs", "picks", "rooms"] 10 4 m_values_by) (G_cheaper : DefF P w K mg base "cheaper" ["choice", "costs", "goals", "rooms", "values", "picks"] 9 6 m_cheaper) : Def P w K mg base "least_costs" ["choice", "costs", "goals"] 12 3 m_least_costs :=
  mkDef (N := N_least_costs) g_least_costs rfl 11 T.d_least_costs sc_least_costs rfl (fun _ _ _ _ _ _ us hl => match us, hl with | [_, _, _], _ => rfl) fun cdv A outer s H E f hr => ⟨[], _, by
    unfold g_least_costs
    exact (dss_cons (ds_expr (de_fn G_need_costs (hr.mono (by decide)) (da_cons (de_var 0) (da_cons (de_var 1) da_nil)))) (dss_cons (ds_expr (de_fn G_need_rooms (hr.mono (by decide)) (da_cons (de_var 0) (da_cons (de_var 2) da_nil)))) (dss_cons (ds_unT 3 4 G_most (hr.mono (by decide)) (da_cons (de_var 0) (da_cons (de_var 2) da_nil)) sc_least_costs.nd) (dss_cons (ds_setLc 5 (hc := rfl) (hN := sc_least_costs.nd) (hi := (di_range1 (by rfl) T.z_range (de_len T.z_len (dc_of (de_var 0))))) (ok := (blkOk_by (own := [("room", 8)]) (by kernel_rfl))) (hg := (fun _ _ _ _ _ => (dg_name (i := 8) (hN := sc_least_costs.nd)))) (ht := (fun _ _ _ _ _ => (dts_one (dt_w (dw_and (dt_eq hr (de_ix (dc_of (de_var 3)) (de_var 8)) (de_cst T.c_ONE)) (dw_and1 (dt_notin hr (de_var 8) (dc_of (de_var 2))))))))) (he := (fun _ _ _ _ _ => (de_var 8)))) (dss_cons (ds_new 6 (hN := sc_least_costs.nd) (he := (df_lend [] [4] (df_fn G_values_by (hr.mono (by decide)) (da_cons (de_var 0) (da_cons (de_var 1) (da_cons (de_var 4) (da_cons (de_var 5) da_nil)))))))) (dss_cons (ds_new 7 (hN := sc_least_costs.nd) (he := (df_lend [] [6, 4] (df_fn G_cheaper (hr.mono (by decide)) (da_cons (de_var 0) (da_cons (de_var 1) (da_cons (de_var 2) (da_cons (de_var 5) (da_cons (de_var 6) (da_cons (de_var 4) da_nil)))))))))) (dss_cons (ds_while PassesOwn.never (dt_lend [6] (dt_ne hr (de_var 7) (de_var 4))) (dss_freeze [7, 6] (dss_cons (ds_move 4 7 [4, 6] (hN := sc_least_costs.nd)) (dss_freeze [4] (dss_cons (ds_new 6 (hN := sc_least_costs.nd) (he := (df_lend [] [4] (df_fn G_values_by (hr.mono (by decide)) (da_cons (de_var 0) (da_cons (de_var 1) (da_cons (de_var 4) (da_cons (de_var 5) da_nil)))))))) (dss_one (ds_new 7 (hN := sc_least_costs.nd) (he := (df_lend [] [6, 4] (df_fn G_cheaper (hr.mono (by decide)) (da_cons (de_var 0) (da_cons (de_var 1) (da_cons (de_var 2) (da_cons (de_var 5) (da_cons (de_var 6) (da_cons (de_var 4) da_nil)))))))))))))))) (dss_cons (ds_for PassesOwn.never rfl (di_range1 (by rfl) T.z_range (de_len T.z_len (dc_of (de_var 0)))) (dg_name (i := 8) (hN := sc_least_costs.nd)) (dss_cons (ds_if (dt_notin hr (de_var 8) (dc_of (de_var 5))) (dss_one (ds_putL 4 (he := de_int) (hk := (de_var 8)))) dss_nil) (dss_one (ds_if (dt_ne hr (de_ix (dc_of (de_var 3)) (de_var 8)) (de_cst T.c_ONE)) (dss_one (ds_putL 6 (he := de_non) (hk := (de_var 8)))) dss_nil)))) (dss_freeze [7] (dss_one (ds_ret (de_tup (da_cons (de_var 6) (da_cons (de_var 4) da_nil))))))))))))))⟩

theorem w_law_cell_at (T : Txt K mg)  : Def P w K mg base "_law_cell_at" ["_law_script", "_law_k"] 4 2 m_law_cell_at :=
  mkDef (N := N_law_cell_at) g_law_cell_at rfl 3 T.d_law_cell_at sc_law_cell_at rfl (fun _ _ _ _ _ _ us hl => match us, hl with | [_, _], _ => rfl) fun cdv A outer s H E f hr => ⟨[], _, by
    unfold g_law_cell_at
    exact (dss_cons (ds_if (dt_lt (de_var 1) (de_len T.z_len (dc_of (de_var 0)))) (dss_one (ds_ret (de_ix (dc_of (de_var 0)) (de_var 1)))) dss_nil) (dss_cons (ds_if (dt_eq hr (de_var 0) (de_of (df_lst da_nil))) (dss_one (ds_ret de_int)) dss_nil) (dss_one (ds_ret (de_add (de_mul (de_ix (dc_of (de_var 0)) (de_mod (de_var 1) (de_len T.z_len (dc_of (de_var 0))))) de_int) (de_var 1))))))⟩

theorem w_law_mixed (T : Txt K mg) (G_law_cell_at : Def P w K mg base "_law_cell_at" ["_law_script", "_law_k"] 4 2 m_law_cell_at) : Def P w K mg base "_law_mixed" ["_law_script", "_law_k", "_law_many"] 5 3 m_law_mixed :=
  mkDef (N := N_law_mixed) g_law_mixed rfl 4 T.d_law_mixed sc_law_mixed rfl (fun _ _ _ _ _ _ us hl => match us, hl with | [_, _, _], _ => rfl) fun cdv A outer s H E f hr => ⟨[], _, by
    unfold g_law_mixed
    exact (dss_cons (ds_set 3 (hN := sc_law_mixed.nd) (he := (de_mod (de_mul (de_add (de_add (de_fn G_law_cell_at (hr.mono (by decide)) (da_cons (de_var 0) (da_cons (de_var 1) da_nil))) (de_mul de_int (de_var 1))) de_int) de_int) de_int))) (dss_one (ds_ret (de_mod (de_mod (de_add (de_add (de_mul (de_var 3) (de_var 3)) (de_mul de_int (de_var 3))) (de_var 1)) de_int) (de_var 2)))))⟩

theorem w_law_divisor (T : Txt K mg)  : Def P w K mg base "_law_divisor" ["_law_a", "_law_b"] 4 2 m_law_divisor :=
  mkDef (N := N_law_divisor) g_law_divisor rfl 3 T.d_law_divisor sc_law_divisor rfl (fun _ _ _ _ _ _ us hl => match us, hl with | [_, _], _ => rfl) fun cdv A outer s H E f hr => ⟨[], _, by
    unfold g_law_divisor
    exact (dss_cons (ds_set 0 (hN := sc_law_divisor.nd) (he := (de_abs T.z_abs (dc_of (de_var 0))))) (dss_cons (ds_set 1 (hN := sc_law_divisor.nd) (he := (de_abs T.z_abs (dc_of (de_var 1))))) (dss_cons (ds_while PassesOwn.never (dt_ne hr (de_var 1) de_int) (dss_cons (ds_set 2 (hN := sc_law_divisor.nd) (he := (de_mod (de_var 0) (de_var 1)))) (dss_cons (ds_set 0 (hN := sc_law_divisor.nd) (he := (de_var 1))) (dss_one (ds_set 1 (hN := sc_law_divisor.nd) (he := (de_var 2))))))) (dss_one (ds_ret (de_var 0))))))⟩

theorem w_law_frac (T : Txt K mg) (G_law_divisor : Def P w K mg base "_law_divisor" ["_law_a", "_law_b"] 4 2 m_law_divisor) : Def P w K mg base "_law_frac" ["_law_upper", "_law_lower"] 5 2 m_law_frac :=
  mkDef (N := N_law_frac) g_law_frac rfl 4 T.d_law_frac sc_law_frac rfl (fun _ _ _ _ _ _ us hl => match us, hl with | [_, _], _ => rfl) fun cdv A outer s H E f hr => ⟨[], _, by
    unfold g_law_frac
    exact (dss_cons (ds_set 2 (hN := sc_law_frac.nd) (he := (de_fn G_law_divisor (hr.mono (by decide)) (da_cons (de_var 0) (da_cons (de_var 1) da_nil))))) (dss_cons (ds_if (dt_lt (de_var 1) de_int) (dss_one (ds_set 2 (hN := sc_law_frac.nd) (he := (de_neg (de_var 2))))) dss_nil) (dss_one (ds_ret (de_tup (da_cons (de_div (de_var 0) (de_var 2)) (da_cons (de_div (de_var 1) (de_var 2)) da_nil)))))))⟩

theorem w_law_spread (T : Txt K mg) (G_law_mixed : Def P w K mg base "_law_mixed" ["_law_script", "_law_k", "_law_many"] 5 3 m_law_mixed) (G_law_frac : Def P w K mg base "_law_frac" ["_law_upper", "_law_lower"] 5 2 m_law_frac) : Def P w K mg base "_law_spread" ["_law_script", "_law_at", "_law_many"] 6 3 m_law_spread :=
  mkDef (N := N_law_spread) g_law_spread rfl 5 T.d_law_spread sc_law_spread rfl (fun _ _ _ _ _ _ us hl => match us, hl with | [_, _, _], _ => rfl) fun cdv A outer s H E f hr => ⟨[], _, by
    unfold g_law_spread
    exact (dss_cons (ds_new 3 (hN := sc_law_spread.nd) (he := df_dnew)) (dss_cons (ds_for PassesOwn.never rfl (di_range1 (by rfl) T.z_range (de_add de_int (de_fn G_law_mixed (hr.mono (by decide)) (da_cons (de_var 0) (da_cons (de_var 1) (da_cons de_int da_nil)))))) (dg_name (i := 4) (hN := sc_law_spread.nd)) (dss_cons (ds_set 5 (hN := sc_law_spread.nd) (he := (de_fn G_law_mixed (hr.mono (by decide)) (da_cons (de_var 0) (da_cons (de_add (de_add (de_var 1) de_int) (de_mul de_int (de_var 4))) (da_cons (de_var 2) da_nil)))))) (dss_one (ds_putD 3 (hu1 hr) (he := (de_add (de_add (de_get2 (hu1 hr) (dc_own 3) (de_var 5) de_int) de_int) (de_fn G_law_mixed (hr.mono (by decide)) (da_cons (de_var 0) (da_cons (de_add (de_add (de_var 1) de_int) (de_mul de_int (de_var 4))) (da_cons de_int da_nil)))))) (hk := (de_var 5)))))) (dss_cons (ds_set 6 (hN := sc_law_spread.nd) (he := (de_sumV T.z_sum rfl (dc_own 3)))) (dss_one (ds_ret (de_tupleOf T.z_tuple (dc_of (de_of (df_lc rfl sc_law_spread.nd (di_seq (de_sorted T.z_sorted (dc_of (de_of (df_list rfl (by rfl) T.z_list (dc_own 3)))))) (blkOk_by (own := [("_law_room", 5)]) (by kernel_rfl)) (fun _ _ _ _ _ => (dg_name (i := 5) (hN := sc_law_spread.nd))) (fun _ _ _ _ _ => dts_nil) (fun _ _ _ _ _ => (de_tup (da_cons (de_var 5) (da_cons (de_fn G_law_frac (hr.mono (by decide)) (da_cons (de_dix (hu1 hr) (dc_own 3) (de_var 5)) (da_cons (de_var 6) da_nil))) da_nil)))))))))))))⟩

theorem w_law_choice (T : Txt K mg) (G_law_mixed : Def P w K mg base "_law_mixed" ["_law_script", "_law_k", "_law_many"] 5 3 m_law_mixed) (G_law_spread : Def P w K mg base "_law_spread" ["_law_script", "_law_at", "_law_many"] 6 3 m_law_spread) : Def P w K mg base "_law_choice" ["_law_script", "_law_at"] 7 2 m_law_choice :=
  mkDef (N := N_law_choice) g_law_choice rfl 6 T.d_law_choice sc_law_choice rfl (fun _ _ _ _ _ _ us hl => match us, hl with | [_, _], _ => rfl) fun cdv A outer s H E f hr => ⟨[], _, by
    unfold g_law_choice
    exact (dss_cons (ds_set 2 (hN := sc_law_choice.nd) (he := (de_add de_int (de_fn G_law_mixed (hr.mono (by decide)) (da_cons (de_var 0) (da_cons (de_var 1) (da_cons de_int da_nil))))))) (dss_cons (ds_new 3 (hN := sc_law_choice.nd) (he := (df_lst da_nil))) (dss_cons (ds_for PassesOwn.never rfl (di_range1 (by rfl) T.z_range (de_var 2)) (dg_name (i := 4) (hN := sc_law_choice.nd)) (dss_cons (ds_set 5 (hN := sc_law_choice.nd) (he := (de_add de_int (de_fn G_law_mixed (hr.mono (by decide)) (da_cons (de_var 0) (da_cons (de_add (de_add (de_var 1) de_int) (de_var 4)) (da_cons de_int da_nil))))))) (dss_one (ds_app 3 (he := (de_tupleOf T.z_tuple (dc_of (de_of (df_lc rfl sc_law_choice.nd (di_range1 (by rfl) T.z_range (de_var 5)) (blkOk_by (own := [("_law_k", 6)]) (by kernel_rfl)) (fun _ _ _ _ _ => (dg_name (i := 6) (hN := sc_law_choice.nd))) (fun _ _ _ _ _ => dts_nil) (fun _ _ _ _ _ => (de_fn G_law_spread (hr.mono (by decide)) (da_cons (de_var 0) (da_cons (de_add (de_add (de_add (de_var 1) de_int) (de_mul de_int (de_var 4))) (de_mul de_int (de_var 6))) (da_cons (de_var 2) da_nil)))))))))))))) (dss_one (ds_ret (de_tupleOf T.z_tuple (dc_own 3)))))))⟩

theorem w_law_whole (T : Txt K mg)  : Def P w K mg base "_law_whole" ["_law_found"] 4 1 m_law_whole :=
  mkDef (N := N_law_whole) g_law_whole rfl 3 T.d_law_whole sc_law_whole rfl (fun _ _ _ _ _ _ us hl => match us, hl with | [_], _ => rfl) fun cdv A outer s H E f hr => ⟨[], _, by
    unfold g_law_whole
    exact (dss_one (ds_ret (de_and (de_isi (by rfl) T.z_isinstance (by rfl) T.z_int bt_int (de_var 0)) (de_one (de_not (de_isi (by rfl) T.z_isinstance (by rfl) T.z_bool bt_bool (de_var 0)))))))⟩

theorem w_law_are_picks (T : Txt K mg) (G_law_whole : Def P w K mg base "_law_whole" ["_law_found"] 4 1 m_law_whole) : Def P w K mg base "_law_are_picks" ["_law_choice_here", "_law_picks"] 5 2 m_law_are_picks :=
  mkDef (N := N_law_are_picks) g_law_are_picks rfl 4 T.d_law_are_picks sc_law_are_picks rfl (fun _ _ _ _ _ _ us hl => match us, hl with | [_, _], _ => rfl) fun cdv A outer s H E f hr => ⟨[], _, by
    unfold g_law_are_picks
    exact (dss_cons (ds_if (dt_w (dw_or (dt_not (dt_val (de_isi (by rfl) T.z_isinstance (by rfl) T.z_list bt_list (de_var 1)))) (dw_or1 (dt_ne hr (de_len T.z_len (dc_of (de_var 1))) (de_len T.z_len (dc_of (de_var 0))))))) (dss_one (ds_ret de_bl)) dss_nil) (dss_cons (ds_for PassesOwn.never rfl (di_range1 (by rfl) T.z_range (de_len T.z_len (dc_of (de_var 0)))) (dg_name (i := 2) (hN := sc_law_are_picks.nd)) (dss_one (ds_if (dt_w (dw_or (dt_not (dt_val (de_fn G_law_whole (hr.mono (by decide)) (da_cons (de_ix (dc_of (de_var 1)) (de_var 2)) da_nil)))) (dw_or (dt_lt (de_ix (dc_of (de_var 1)) (de_var 2)) de_int) (dw_or1 (dt_ge (de_ix (dc_of (de_var 1)) (de_var 2)) (de_len T.z_len (dc_of (de_ix (dc_of (de_var 0)) (de_var 2))))))))) (dss_one (ds_ret de_bl)) dss_nil))) (dss_one (ds_ret de_bl))))⟩

theorem w_law_all_picks (T : Txt K mg)  : Def P w K mg base "_law_all_picks" ["_law_choice_here"] 4 1 m_law_all_picks :=
  mkDef (N := N_law_all_picks) g_law_all_picks rfl 3 T.d_law_all_picks sc_law_all_picks rfl (fun _ _ _ _ _ _ us hl => match us, hl with | [_], _ => rfl) fun cdv A outer s H E f hr => ⟨[], _, by
    unfold g_law_all_picks
    exact (dss_cons (ds_set 1 (hN := sc_law_all_picks.nd) (he := (de_of (df_lst (da_cons (de_of (df_lst da_nil)) da_nil))))) (dss_cons (ds_for PassesOwn.never rfl (di_seq (de_var 0)) (dg_name (i := 2) (hN := sc_law_all_picks.nd)) (dss_cons (ds_new 3 (hN := sc_law_all_picks.nd) (he := (df_lst da_nil))) (dss_cons (ds_for PassesOwn.never rfl (di_seq (de_var 1)) (dg_name (i := 4) (hN := sc_law_all_picks.nd)) (dss_one (ds_for PassesOwn.never rfl (di_range1 (by rfl) T.z_range (de_len T.z_len (dc_of (de_var 2)))) (dg_name (i := 5) (hN := sc_law_all_picks.nd)) (dss_one (ds_app 3 (he := (de_add (de_var 4) (de_of (df_lst (da_cons (de_var 5) da_nil)))))))))) (dss_freeze [] (dss_one (ds_set 1 (hN := sc_law_all_picks.nd) (he := (de_var 3)))))))) (dss_one (ds_ret (de_var 1)))))⟩

theorem w_law_goals (T : Txt K mg) (G_law_mixed : Def P w K mg base "_law_mixed" ["_law_script", "_law_k", "_law_many"] 5 3 m_law_mixed) : Def P w K mg base "_law_goals" ["_law_script", "_law_at", "_law_many"] 6 3 m_law_goals :=
  mkDef (N := N_law_goals) g_law_goals rfl 5 T.d_law_goals sc_law_goals rfl (fun _ _ _ _ _ _ us hl => match us, hl with | [_, _, _], _ => rfl) fun cdv A outer s H E f hr => ⟨[], _, by
    unfold g_law_goals
    exact (dss_one (ds_ret (de_of (df_lc rfl sc_law_goals.nd (di_range1 (by rfl) T.z_range (de_var 2)) (blkOk_by (own := [("_law_room", 3)]) (by kernel_rfl)) (fun _ _ _ _ _ => (dg_name (i := 3) (hN := sc_law_goals.nd))) (fun _ _ _ _ _ => (dts_one (dt_eq hr (de_fn G_law_mixed (hr.mono (by decide)) (da_cons (de_var 0) (da_cons (de_add (de_var 1) (de_var 3)) (da_cons de_int da_nil)))) de_int))) (fun _ _ _ _ _ => (de_var 3))))))⟩

theorem w_law_add (T : Txt K mg) (G_law_frac : Def P w K mg base "_law_frac" ["_law_upper", "_law_lower"] 5 2 m_law_frac) : Def P w K mg base "_law_add" ["_law_a", "_law_b", "_law_many"] 6 3 m_law_add :=
  mkDef (N := N_law_add) g_law_add rfl 5 T.d_law_add sc_law_add rfl (fun _ _ _ _ _ _ us hl => match us, hl with | [_, _, _], _ => rfl) fun cdv A outer s H E f hr => ⟨[], _, by
    unfold g_law_add
    exact (dss_one (ds_ret (de_fn G_law_frac (hr.mono (by decide)) (da_cons (de_add (de_mul (de_mul (de_ix (dc_of (de_var 0)) de_int) (de_ix (dc_of (de_var 1)) de_int)) (de_ix (dc_of (de_var 2)) de_int)) (de_mul (de_mul (de_ix (dc_of (de_var 2)) de_int) (de_ix (dc_of (de_var 1)) de_int)) (de_ix (dc_of (de_var 0)) de_int))) (da_cons (de_mul (de_mul (de_ix (dc_of (de_var 0)) de_int) (de_ix (dc_of (de_var 1)) de_int)) (de_ix (dc_of (de_var 2)) de_int)) da_nil)))))⟩

theorem w_law_below (T : Txt K mg)  : Def P w K mg base "_law_below" ["_law_a", "_law_b"] 4 2 m_law_below :=
  mkDef (N := N_law_below) g_law_below rfl 3 T.d_law_below sc_law_below rfl (fun _ _ _ _ _ _ us hl => match us, hl with | [_, _], _ => rfl) fun cdv A outer s H E f hr => ⟨[], _, by
    unfold g_law_below
    exact (dss_one (ds_ret (de_lt (de_mul (de_ix (dc_of (de_var 0)) de_int) (de_ix (dc_of (de_var 1)) de_int)) (de_mul (de_ix (dc_of (de_var 1)) de_int) (de_ix (dc_of (de_var 0)) de_int)))))⟩

theorem w_law_way_cost (T : Txt K mg) (G_law_add : Def P w K mg base "_law_add" ["_law_a", "_law_b", "_law_many"] 6 3 m_law_add) : Def P w K mg base "_law_way_cost" ["_law_way", "_law_cost", "_law_values"] 7 3 m_law_way_cost :=
  mkDef (N := N_law_way_cost) g_law_way_cost rfl 6 T.d_law_way_cost sc_law_way_cost rfl (fun _ _ _ _ _ _ us hl => match us, hl with | [_, _, _], _ => rfl) fun cdv A outer s H E f hr => ⟨[], _, by
    unfold g_law_way_cost
    exact (dss_cons (ds_set 3 (hN := sc_law_way_cost.nd) (he := (de_tup (da_cons (de_var 1) (da_cons de_int da_nil))))) (dss_cons (ds_for PassesOwn.never rfl (di_seq (de_var 0)) (dg_name (i := 4) (hN := sc_law_way_cost.nd)) (dss_cons (ds_if (dt_is (de_ix (dc_of (de_var 2)) (de_ix (dc_of (de_var 4)) de_int)) de_non) (dss_one (ds_ret de_non)) dss_nil) (dss_one (ds_set 3 (hN := sc_law_way_cost.nd) (he := (de_fn G_law_add (hr.mono (by decide)) (da_cons (de_var 3) (da_cons (de_ix (dc_of (de_var 4)) de_int) (da_cons (de_ix (dc_of (de_var 2)) (de_ix (dc_of (de_var 4)) de_int)) da_nil))))))))) (dss_one (ds_ret (de_var 3)))))⟩

theorem w_law_walked (T : Txt K mg) (G_law_way_cost : Def P w K mg base "_law_way_cost" ["_law_way", "_law_cost", "_law_values"] 7 3 m_law_way_cost) (G_law_below : Def P w K mg base "_law_below" ["_law_a", "_law_b"] 4 2 m_law_below) : Def P w K mg base "_law_walked" ["_law_choice_here", "_law_costs", "_law_goals_here", "_law_values", "_law_picks"] 8 5 m_law_walked :=
  mkDef (N := N_law_walked) g_law_walked rfl 7 T.d_law_walked sc_law_walked rfl (fun _ _ _ _ _ _ us hl => match us, hl with | [_, _, _, _, _], _ => rfl) fun cdv A outer s H E f hr => ⟨[], _, by
    unfold g_law_walked
    exact (dss_cons (ds_for PassesOwn.never rfl (di_range1 (by rfl) T.z_range (de_len T.z_len (dc_of (de_var 0)))) (dg_name (i := 5) (hN := sc_law_walked.nd)) (dss_one (ds_if (dt_w (dw_or (dt_in hr (de_var 5) (dc_of (de_var 2))) (dw_or1 (dt_is (de_ix (dc_of (de_var 3)) (de_var 5)) de_non)))) (dss_one (ds_if (dt_w (dw_or (dt_ne hr (de_ix (dc_of (de_var 4)) (de_var 5)) de_int) (dw_or1 (dt_w (dw_and (dt_isnot (de_ix (dc_of (de_var 3)) (de_var 5)) de_non) (dw_and1 (dt_ne hr (de_ix (dc_of (de_var 3)) (de_var 5)) (de_tup (da_cons de_int (da_cons de_int da_nil)))))))))) (dss_one (ds_ret de_bl)) dss_nil)) (dss_cons (ds_setLc 6 (hc := rfl) (hN := sc_law_walked.nd) (hi := (di_zipY (by rfl) T.z_zip (de_ix (dc_of (de_var 0)) (de_var 5)) (de_ix (dc_of (de_var 1)) (de_var 5)))) (ok := (blkOk_by (own := [("_law_way", 7), ("_law_cost", 8)]) (by kernel_rfl))) (hg := (fun _ _ _ _ _ => (dg_tup rfl (dgs_cons (dg_name (i := 7) (hN := sc_law_walked.nd)) (dgs_cons (dg_name (i := 8) (hN := sc_law_walked.nd)) dgs_nil))))) (ht := (fun _ _ _ _ _ => dts_nil)) (he := (fun _ _ _ _ _ => (de_fn G_law_way_cost (hr.mono (by decide)) (da_cons (de_var 7) (da_cons (de_var 8) (da_cons (de_var 3) da_nil))))))) (dss_cons (ds_if (dt_ne hr (de_ix (dc_of (de_var 6)) (de_ix (dc_of (de_var 4)) (de_var 5))) (de_ix (dc_of (de_var 3)) (de_var 5))) (dss_one (ds_ret de_bl)) dss_nil) (dss_one (ds_if (dt_ne hr (de_of (df_lc rfl sc_law_walked.nd (di_seq (de_var 6)) (blkOk_by (own := [("_law_cost", 8)]) (by kernel_rfl)) (fun _ _ _ _ _ => (dg_name (i := 8) (hN := sc_law_walked.nd))) (fun _ _ _ _ _ => (dts_one (dt_w (dw_and (dt_isnot (de_var 8) de_non) (dw_and1 (dt_val (de_fn G_law_below (hr.mono (by decide)) (da_cons (de_var 8) (da_cons (de_ix (dc_of (de_var 3)) (de_var 5)) da_nil))))))))) (fun _ _ _ _ _ => (de_var 8)))) (de_of (df_lst da_nil))) (dss_one (ds_ret de_bl)) dss_nil))))))) (dss_one (ds_ret de_bl)))⟩

theorem w_law (T : Txt K mg) (G_law_choice : Def P w K mg base "_law_choice" ["_law_script", "_law_at"] 7 2 m_law_choice) (G_law_goals : Def P w K mg base "_law_goals" ["_law_script", "_law_at", "_law_many"] 6 3 m_law_goals) (G_least_costs : Def P w K mg base "least_costs" ["choice", "costs", "goals"] 12 3 m_least_costs) (G_chances : Def P w K mg base "chances" ["walk", "goals"] 11 2 m_chances) (G_law_mixed : Def P w K mg base "_law_mixed" ["_law_script", "_law_k", "_law_many"] 5 3 m_law_mixed) (G_most : DefT P w K mg base "most" ["choice", "goals"] 11 2 m_c_most) (G_law_walked : Def P w K mg base "_law_walked" ["_law_choice_here", "_law_costs", "_law_goals_here", "_law_values", "_law_picks"] 8 5 m_law_walked) (G_picked : Def P w K mg base "picked" ["choice", "picks"] 5 2 m_picked) (G_law_all_picks : Def P w K mg base "_law_all_picks" ["_law_choice_here"] 4 1 m_law_all_picks) (G_waits : Def P w K mg base "waits" ["walk", "goals"] 11 2 m_waits) (G_law_are_picks : Def P w K mg base "_law_are_picks" ["_law_choice_here", "_law_picks"] 5 2 m_law_are_picks) (G_law_below : Def P w K mg base "_law_below" ["_law_a", "_law_b"] 4 2 m_law_below) : Def P w K mg base "law" ["_law_script"] 13 1 m_law :=
  mkDef (N := N_law) g_law rfl 12 T.d_law sc_law rfl (fun _ _ _ _ _ _ us hl => match us, hl with | [_], _ => rfl) fun cdv A outer s H E f hr => ⟨[], _, by
    unfold g_law
    exact (dss_cons (ds_set 1 (hN := sc_law.nd) (he := (de_fn G_law_choice (hr.mono (by decide)) (da_cons (de_var 0) (da_cons de_int da_nil))))) (dss_cons (ds_set 2 (hN := sc_law.nd) (he := (de_fn G_law_goals (hr.mono (by decide)) (da_cons (de_var 0) (da_cons de_int (da_cons (de_len T.z_len (dc_of (de_var 1))) da_nil)))))) (dss_cons (ds_new 3 (hN := sc_law.nd) (he := (df_lst da_nil))) (dss_cons (ds_for PassesOwn.never rfl (di_range1 (by rfl) T.z_range (de_len T.z_len (dc_of (de_var 1)))) (dg_name (i := 4) (hN := sc_law.nd)) (dss_one (ds_app 3 (he := (de_of (df_lc rfl sc_law.nd (di_range1 (by rfl) T.z_range (de_len T.z_len (dc_of (de_ix (dc_of (de_var 1)) (de_var 4))))) (blkOk_by (own := [("_law_k", 12)]) (by kernel_rfl)) (fun _ _ _ _ _ => (dg_name (i := 12) (hN := sc_law.nd))) (fun _ _ _ _ _ => dts_nil) (fun _ _ _ _ _ => (de_add de_int (de_fn G_law_mixed (hr.mono (by decide)) (da_cons (de_var 0) (da_cons (de_add (de_add de_int (de_mul de_int (de_var 4))) (de_var 12)) (da_cons de_int da_nil)))))))))))) (dss_cons (ds_set 5 (hN := sc_law.nd) (he := (de_eq hr (de_fn G_law_mixed (hr.mono (by decide)) (da_cons (de_var 0) (da_cons de_int (da_cons de_int da_nil)))) de_int))) (dss_cons (ds_if (dt_val (de_var 5)) (dss_freeze [] (dss_one (ds_setLc 3 (hc := rfl) (hN := sc_law.nd) (hi := (di_seq (de_var 3))) (ok := (blkOk_by (own := [("_law_row", 13)]) (by kernel_rfl))) (hg := (fun _ _ _ _ _ => (dg_name (i := 13) (hN := sc_law.nd)))) (ht := (fun _ _ _ _ _ => dts_nil)) (he := (fun _ _ _ _ _ => (de_of (df_lc rfl sc_law.nd (di_seq (de_var 13)) (blkOk_by (own := [("_law_cost", 14)]) (by kernel_rfl)) (fun _ _ _ _ _ => (dg_name (i := 14) (hN := sc_law.nd))) (fun _ _ _ _ _ => dts_nil) (fun _ _ _ _ _ => de_int)))))))) (dss_freeze [] dss_nil)) (dss_cons (ds_setLc 6 (hc := rfl) (hN := sc_law.nd) (hi := (di_seq (de_var 3))) (ok := (blkOk_by (own := [("_law_row", 13)]) (by kernel_rfl))) (hg := (fun _ _ _ _ _ => (dg_name (i := 13) (hN := sc_law.nd)))) (ht := (fun _ _ _ _ _ => dts_nil)) (he := (fun _ _ _ _ _ => (de_of (df_list rfl (by rfl) T.z_list (dc_of (de_var 13))))))) (dss_cons (ds_set 7 (hN := sc_law.nd) (he := (de_fn G_least_costs (hr.mono (by decide)) (da_cons (de_var 1) (da_cons (de_var 6) (da_cons (de_of (df_list rfl (by rfl) T.z_list (dc_of (de_var 2)))) da_nil)))))) (dss_cons (ds_if (dt_w (dw_or (dt_ne hr (de_var 6) (de_var 3)) (dw_or (dt_not (dt_val (de_isi (by rfl) T.z_isinstance (by rfl) T.z_tuple bt_tuple (de_var 7)))) (dw_or (dt_ne hr (de_len T.z_len (dc_of (de_var 7))) de_int) (dw_or1 (dt_not (dt_val (de_fn G_law_are_picks (hr.mono (by decide)) (da_cons (de_var 1) (da_cons (de_ix (dc_of (de_var 7)) de_int) da_nil)))))))))) (dss_one (ds_ret de_bl)) dss_nil) (dss_cons (ds_set 8 (hN := sc_law.nd) (he := (de_ix (dc_of (de_fn G_most.df (hr.mono (by decide)) (da_cons (de_var 1) (da_cons (de_of (df_list rfl (by rfl) T.z_list (dc_of (de_var 2)))) da_nil)))) de_int))) (dss_cons (ds_for PassesOwn.never rfl (di_range1 (by rfl) T.z_range (de_len T.z_len (dc_of (de_var 1)))) (dg_name (i := 4) (hN := sc_law.nd)) (dss_one (ds_if (dt_ne hr (de_is (de_ix (dc_of (de_ix (dc_of (de_var 7)) de_int)) (de_var 4)) de_non) (de_ne hr (de_ix (dc_of (de_var 8)) (de_var 4)) (de_tup (da_cons de_int (da_cons de_int da_nil))))) (dss_one (ds_ret de_bl)) dss_nil))) (dss_cons (ds_if (dt_not (dt_val (de_fn G_law_walked (hr.mono (by decide)) (da_cons (de_var 1) (da_cons (de_var 3) (da_cons (de_var 2) (da_cons (de_ix (dc_of (de_var 7)) de_int) (da_cons (de_ix (dc_of (de_var 7)) de_int) da_nil)))))))) (dss_one (ds_ret de_bl)) dss_nil) (dss_cons (ds_set 9 (hN := sc_law.nd) (he := (de_fn G_chances (hr.mono (by decide)) (da_cons (de_fn G_picked (hr.mono (by decide)) (da_cons (de_var 1) (da_cons (de_of (df_list rfl (by rfl) T.z_list (dc_of (de_ix (dc_of (de_var 7)) de_int)))) da_nil))) (da_cons (de_of (df_list rfl (by rfl) T.z_list (dc_of (de_var 2)))) da_nil))))) (dss_cons (ds_if (dt_ne hr (de_of (df_lc rfl sc_law.nd (di_range1 (by rfl) T.z_range (de_len T.z_len (dc_of (de_var 1)))) (blkOk_by (own := [("_law_room", 4)]) (by kernel_rfl)) (fun _ _ _ _ _ => (dg_name (i := 4) (hN := sc_law.nd))) (fun _ _ _ _ _ => (dts_one (dt_w (dw_and (dt_eq hr (de_ix (dc_of (de_var 8)) (de_var 4)) (de_tup (da_cons de_int (da_cons de_int da_nil)))) (dw_and1 (dt_ne hr (de_ix (dc_of (de_var 9)) (de_var 4)) (de_tup (da_cons de_int (da_cons de_int da_nil))))))))) (fun _ _ _ _ _ => (de_var 4)))) (de_of (df_lst da_nil))) (dss_one (ds_ret de_bl)) dss_nil) (dss_cons (ds_for PassesOwn.never rfl (di_seq (de_mul (de_fn G_law_all_picks (hr.mono (by decide)) (da_cons (de_var 1) da_nil)) (de_intOf T.z_int (dc_of (de_var 5))))) (dg_name (i := 10) (hN := sc_law.nd)) (dss_cons (ds_set 11 (hN := sc_law.nd) (he := (de_fn G_waits (hr.mono (by decide)) (da_cons (de_fn G_picked (hr.mono (by decide)) (da_cons (de_var 1) (da_cons (de_var 10) da_nil))) (da_cons (de_of (df_list rfl (by rfl) T.z_list (dc_of (de_var 2)))) da_nil))))) (dss_one (ds_for PassesOwn.never rfl (di_range1 (by rfl) T.z_range (de_len T.z_len (dc_of (de_var 1)))) (dg_name (i := 4) (hN := sc_law.nd)) (dss_one (ds_if (dt_w (dw_and (dt_isnot (de_ix (dc_of (de_var 11)) (de_var 4)) de_non) (dw_and1 (dt_val (de_fn G_law_below (hr.mono (by decide)) (da_cons (de_ix (dc_of (de_var 11)) (de_var 4)) (da_cons (de_ix (dc_of (de_ix (dc_of (de_var 7)) de_int)) (de_var 4)) da_nil))))))) (dss_one (ds_ret de_bl)) dss_nil)))))) (dss_one (ds_ret de_bl)))))))))))))))))⟩

end
end LW
end

section
set_option Elab.async false
set_option linter.all false
set_option maxRecDepth 100000
set_option maxHeartbeats 0
namespace LW
open PySem PySem.Spec PyProof.Rows L2 DL

/-! ### the head -/
def dd_divisor : He.DefD := ⟨("divisor", none), "divisor", "divisor", defArgs s_divisor, defBody s_divisor, defScope s_divisor, [], []⟩
def dd_frac : He.DefD := ⟨("frac", none), "frac", "frac", defArgs s_frac, defBody s_frac, defScope s_frac, [], []⟩
def dd_plus : He.DefD := ⟨("plus", none), "plus", "plus", defArgs s_plus, defBody s_plus, defScope s_plus, [], []⟩
def dd_less : He.DefD := ⟨("less", none), "less", "less", defArgs s_less, defBody s_less, defScope s_less, [], []⟩
def dd_times : He.DefD := ⟨("times", none), "times", "times", defArgs s_times, defBody s_times, defScope s_times, [], []⟩
def dd_over : He.DefD := ⟨("over", none), "over", "over", defArgs s_over, defBody s_over, defScope s_over, [], []⟩
def dd_below : He.DefD := ⟨("below", none), "below", "below", defArgs s_below, defBody s_below, defScope s_below, [], []⟩
def dd_summed : He.DefD := ⟨("summed", none), "summed", "summed", defArgs s_summed, defBody s_summed, defScope s_summed, [], []⟩
def dd_is_whole : He.DefD := ⟨("is_whole", none), "is_whole", "is_whole", defArgs s_is_whole, defBody s_is_whole, defScope s_is_whole, [], []⟩
def dd_eased : He.DefD := ⟨("eased", none), "eased", "eased", defArgs s_eased, defBody s_eased, defScope s_eased, [], []⟩
def dd_solved : He.DefD := ⟨("solved", none), "solved", "solved", defArgs s_solved, defBody s_solved, defScope s_solved, [], []⟩
def dd_need_room : He.DefD := ⟨("need_room", none), "need_room", "need_room", defArgs s_need_room, defBody s_need_room, defScope s_need_room, [], []⟩
def dd_need_rooms : He.DefD := ⟨("need_rooms", none), "need_rooms", "need_rooms", defArgs s_need_rooms, defBody s_need_rooms, defScope s_need_rooms, [], []⟩
def dd_made_of : He.DefD := ⟨("made_of", none), "made_of", "made_of", defArgs s_made_of, defBody s_made_of, defScope s_made_of, [], []⟩
def dd_can_come : He.DefD := ⟨("can_come", none), "can_come", "can_come", defArgs s_can_come, defBody s_can_come, defScope s_can_come, [], []⟩
def dd_known_part : He.DefD := ⟨("known_part", none), "known_part", "known_part", defArgs s_known_part, defBody s_known_part, defScope s_known_part, [], []⟩
def dd_solved_for : He.DefD := ⟨("solved_for", none), "solved_for", "solved_for", defArgs s_solved_for, defBody s_solved_for, defScope s_solved_for, [], []⟩
def dd_chances_of : He.DefD := ⟨("chances_of", none), "chances_of", "chances_of", defArgs s_chances_of, defBody s_chances_of, defScope s_chances_of, [], []⟩
def dd_chances : He.DefD := ⟨("chances", none), "chances", "chances", defArgs s_chances, defBody s_chances, defScope s_chances, [], []⟩
def dd_waits : He.DefD := ⟨("waits", none), "waits", "waits", defArgs s_waits, defBody s_waits, defScope s_waits, [], []⟩
def dd_walk_by : He.DefD := ⟨("walk_by", none), "walk_by", "walk_by", defArgs s_walk_by, defBody s_walk_by, defScope s_walk_by, [], []⟩
def dd_picked : He.DefD := ⟨("picked", none), "picked", "picked", defArgs s_picked, defBody s_picked, defScope s_picked, [], []⟩
def dd_better : He.DefD := ⟨("better", none), "better", "better", defArgs s_better, defBody s_better, defScope s_better, [], []⟩
def dd_most : He.DefD := ⟨("most", none), "most", "most", defArgs s_most, defBody s_most, defScope s_most, [], []⟩
def dd_need_costs : He.DefD := ⟨("need_costs", none), "need_costs", "need_costs", defArgs s_need_costs, defBody s_need_costs, defScope s_need_costs, [], []⟩
def dd_costs_by : He.DefD := ⟨("costs_by", none), "costs_by", "costs_by", defArgs s_costs_by, defBody s_costs_by, defScope s_costs_by, [], []⟩
def dd_lies_in : He.DefD := ⟨("lies_in", none), "lies_in", "lies_in", defArgs s_lies_in, defBody s_lies_in, defScope s_lies_in, [], []⟩
def dd_cheaper : He.DefD := ⟨("cheaper", none), "cheaper", "cheaper", defArgs s_cheaper, defBody s_cheaper, defScope s_cheaper, [], []⟩
def dd_values_by : He.DefD := ⟨("values_by", none), "values_by", "values_by", defArgs s_values_by, defBody s_values_by, defScope s_values_by, [], []⟩
def dd_least_costs : He.DefD := ⟨("least_costs", none), "least_costs", "least_costs", defArgs s_least_costs, defBody s_least_costs, defScope s_least_costs, [], []⟩
def dd_law_cell_at : He.DefD := ⟨("_law_cell_at", none), "_law_cell_at", "_law_cell_at", defArgs s_law_cell_at, defBody s_law_cell_at, defScope s_law_cell_at, [], []⟩
def dd_law_mixed : He.DefD := ⟨("_law_mixed", none), "_law_mixed", "_law_mixed", defArgs s_law_mixed, defBody s_law_mixed, defScope s_law_mixed, [], []⟩
def dd_law_divisor : He.DefD := ⟨("_law_divisor", none), "_law_divisor", "_law_divisor", defArgs s_law_divisor, defBody s_law_divisor, defScope s_law_divisor, [], []⟩
def dd_law_frac : He.DefD := ⟨("_law_frac", none), "_law_frac", "_law_frac", defArgs s_law_frac, defBody s_law_frac, defScope s_law_frac, [], []⟩
def dd_law_spread : He.DefD := ⟨("_law_spread", none), "_law_spread", "_law_spread", defArgs s_law_spread, defBody s_law_spread, defScope s_law_spread, [], []⟩
def dd_law_choice : He.DefD := ⟨("_law_choice", none), "_law_choice", "_law_choice", defArgs s_law_choice, defBody s_law_choice, defScope s_law_choice, [], []⟩
def dd_law_whole : He.DefD := ⟨("_law_whole", none), "_law_whole", "_law_whole", defArgs s_law_whole, defBody s_law_whole, defScope s_law_whole, [], []⟩
def dd_law_are_picks : He.DefD := ⟨("_law_are_picks", none), "_law_are_picks", "_law_are_picks", defArgs s_law_are_picks, defBody s_law_are_picks, defScope s_law_are_picks, [], []⟩
def dd_law_all_picks : He.DefD := ⟨("_law_all_picks", none), "_law_all_picks", "_law_all_picks", defArgs s_law_all_picks, defBody s_law_all_picks, defScope s_law_all_picks, [], []⟩
def dd_law_goals : He.DefD := ⟨("_law_goals", none), "_law_goals", "_law_goals", defArgs s_law_goals, defBody s_law_goals, defScope s_law_goals, [], []⟩
def dd_law_add : He.DefD := ⟨("_law_add", none), "_law_add", "_law_add", defArgs s_law_add, defBody s_law_add, defScope s_law_add, [], []⟩
def dd_law_below : He.DefD := ⟨("_law_below", none), "_law_below", "_law_below", defArgs s_law_below, defBody s_law_below, defScope s_law_below, [], []⟩
def dd_law_way_cost : He.DefD := ⟨("_law_way_cost", none), "_law_way_cost", "_law_way_cost", defArgs s_law_way_cost, defBody s_law_way_cost, defScope s_law_way_cost, [], []⟩
def dd_law_walked : He.DefD := ⟨("_law_walked", none), "_law_walked", "_law_walked", defArgs s_law_walked, defBody s_law_walked, defScope s_law_walked, [], []⟩
def dd_law : He.DefD := ⟨("law", none), "law", "law", defArgs s_law, defBody s_law, defScope s_law, [], []⟩
def fns : List He.DefD := [dd_divisor, dd_frac, dd_plus, dd_less, dd_times, dd_over, dd_below, dd_summed, dd_is_whole, dd_eased, dd_solved, dd_need_room, dd_need_rooms, dd_made_of, dd_can_come, dd_known_part, dd_solved_for, dd_chances_of, dd_chances, dd_waits, dd_walk_by, dd_picked, dd_better, dd_most, dd_need_costs, dd_costs_by, dd_lies_in, dd_cheaper, dd_values_by, dd_least_costs, dd_law_cell_at, dd_law_mixed, dd_law_divisor, dd_law_frac, dd_law_spread, dd_law_choice, dd_law_whole, dd_law_are_picks, dd_law_all_picks, dd_law_goals, dd_law_add, dd_law_below, dd_law_way_cost, dd_law_walked, dd_law]
def fas : List He.Fa := [.glo "divisor", .glo "frac", .glo "plus", .glo "less", .glo "times", .glo "over", .glo "below", .glo "summed", .glo "is_whole", .glo "eased", .glo "solved", .glo "need_room", .glo "need_rooms", .glo "made_of", .glo "can_come", .glo "known_part", .glo "solved_for", .glo "chances_of", .glo "chances", .glo "waits", .glo "walk_by", .glo "picked", .glo "better", .glo "most", .glo "need_costs", .glo "costs_by", .glo "lies_in", .glo "cheaper", .glo "values_by", .glo "least_costs", .glo "_law_cell_at", .glo "_law_mixed", .glo "_law_divisor", .glo "_law_frac", .glo "_law_spread", .glo "_law_choice", .glo "_law_whole", .glo "_law_are_picks", .glo "_law_all_picks", .glo "_law_goals", .glo "_law_add", .glo "_law_below", .glo "_law_way_cost", .glo "_law_walked", .glo "law", .free "abs", .free "isinstance", .free "int", .free "bool", .free "range", .free "len", .free "zip", .free "list", .free "any", .free "sorted", .free "tuple", .free "all", .free "sum", .glo "NOUGHT", .glo "ONE"]
def exB (K : PySem.W.Frag) : Bool := He.tupB K "NOUGHT" [.int 0, .int 1] && He.tupB K "ONE" [.int 1, .int 1]
abbrev Rw : PySem.W.OpenRow := PySem.W.OpenLaw.row PySem.Challenge.rw_lotwander_k14_whole_costs
abbrev hk : PySem.W.Hook := He.hookX 4 fas fns [] [] exB
def ob (s : PySem.W.SharedT) : He.AlX := He.obsX 4 fas fns [] [] exB (HandSHeadRun.getT s)
theorem ob_eq (s : PySem.W.SharedT) : ob s = hk.obs s.abs := He.obsX_eq (HandSHeadRun.getT_eq s)
def loose0 : List PySem.Str := ["NOUGHT", "ONE", "divisor", "frac", "plus", "less", "times", "over", "below", "summed", "is_whole", "eased", "solved", "ChanceError", "NoRooms", "NoPicks", "NoCosts", "need_room", "need_rooms", "made_of", "can_come", "solved_for", "known_part", "chances_of", "chances"]
def loose1 : List PySem.Str := ["waits", "walk_by", "picked", "better", "most", "need_costs", "costs_by", "lies_in", "cheaper", "values_by", "least_costs", "_law_cell_at", "_law_mixed", "_law_divisor", "_law_frac", "_law_spread", "_law_walk", "_law_choice", "_law_whole", "_law_are_picks", "_law_all_picks", "_law_goals", "_law_add", "_law_made", "_law_below"]
def loose2 : List PySem.Str := ["_law_way_cost", "_law_walked"]
def loose : List PySem.Str := loose0 ++ loose1 ++ loose2
theorem top_run (w : World) : HandSHeadRun.RunEq Rw (PySem.W.view Rw.prog [59]) hk ob 9000 loose w := by
  intro os
  kernel_rfl

section
variable {P : Program} {w : World} {K : PySem.W.Frag} {h : Heap} {mg : Str → Option Value}
theorem txt_mk (X : K.In h) (G : h.Ns mainGlobals mg) (c : He.SaysX fas fns [] [] exB w h K) : Txt K mg := by
  have cd := c.t.d
  have ex : (He.tupB K "NOUGHT" [.int 0, .int 1] && He.tupB K "ONE" [.int 1, .int 1]) = true := c.more
  obtain ⟨ex, e1⟩ := He.ba ex
  have e0 := ex
  exact {
    z_abs := He.free_ok X G (cd.fact 45 (f := .free "abs") rfl),
    z_isinstance := He.free_ok X G (cd.fact 46 (f := .free "isinstance") rfl),
    z_int := He.free_ok X G (cd.fact 47 (f := .free "int") rfl),
    z_bool := He.free_ok X G (cd.fact 48 (f := .free "bool") rfl),
    z_range := He.free_ok X G (cd.fact 49 (f := .free "range") rfl),
    z_len := He.free_ok X G (cd.fact 50 (f := .free "len") rfl),
    z_zip := He.free_ok X G (cd.fact 51 (f := .free "zip") rfl),
    z_list := He.free_ok X G (cd.fact 52 (f := .free "list") rfl),
    z_any := He.free_ok X G (cd.fact 53 (f := .free "any") rfl),
    z_sorted := He.free_ok X G (cd.fact 54 (f := .free "sorted") rfl),
    z_tuple := He.free_ok X G (cd.fact 55 (f := .free "tuple") rfl),
    z_all := He.free_ok X G (cd.fact 56 (f := .free "all") rfl),
    z_sum := He.free_ok X G (cd.fact 57 (f := .free "sum") rfl),
    c_NOUGHT := cst_two (He.glo_ok X G (cd.fact 58 (f := .glo "NOUGHT") rfl)) e0,
    c_ONE := cst_two (He.glo_ok X G (cd.fact 59 (f := .glo "ONE") rfl)) e1,
    d_divisor := ⟨_, (cd.def_ 0 (d := dd_divisor) rfl).choose, He.glo_ok X G (cd.fact 0 (f := .glo "divisor") rfl), (cd.def_ 0 (d := dd_divisor) rfl).choose_spec⟩,
    d_frac := ⟨_, (cd.def_ 1 (d := dd_frac) rfl).choose, He.glo_ok X G (cd.fact 1 (f := .glo "frac") rfl), (cd.def_ 1 (d := dd_frac) rfl).choose_spec⟩,
    d_plus := ⟨_, (cd.def_ 2 (d := dd_plus) rfl).choose, He.glo_ok X G (cd.fact 2 (f := .glo "plus") rfl), (cd.def_ 2 (d := dd_plus) rfl).choose_spec⟩,
    d_less := ⟨_, (cd.def_ 3 (d := dd_less) rfl).choose, He.glo_ok X G (cd.fact 3 (f := .glo "less") rfl), (cd.def_ 3 (d := dd_less) rfl).choose_spec⟩,
    d_times := ⟨_, (cd.def_ 4 (d := dd_times) rfl).choose, He.glo_ok X G (cd.fact 4 (f := .glo "times") rfl), (cd.def_ 4 (d := dd_times) rfl).choose_spec⟩,
    d_over := ⟨_, (cd.def_ 5 (d := dd_over) rfl).choose, He.glo_ok X G (cd.fact 5 (f := .glo "over") rfl), (cd.def_ 5 (d := dd_over) rfl).choose_spec⟩,
    d_below := ⟨_, (cd.def_ 6 (d := dd_below) rfl).choose, He.glo_ok X G (cd.fact 6 (f := .glo "below") rfl), (cd.def_ 6 (d := dd_below) rfl).choose_spec⟩,
    d_summed := ⟨_, (cd.def_ 7 (d := dd_summed) rfl).choose, He.glo_ok X G (cd.fact 7 (f := .glo "summed") rfl), (cd.def_ 7 (d := dd_summed) rfl).choose_spec⟩,
    d_is_whole := ⟨_, (cd.def_ 8 (d := dd_is_whole) rfl).choose, He.glo_ok X G (cd.fact 8 (f := .glo "is_whole") rfl), (cd.def_ 8 (d := dd_is_whole) rfl).choose_spec⟩,
    d_eased := ⟨_, (cd.def_ 9 (d := dd_eased) rfl).choose, He.glo_ok X G (cd.fact 9 (f := .glo "eased") rfl), (cd.def_ 9 (d := dd_eased) rfl).choose_spec⟩,
    d_solved := ⟨_, (cd.def_ 10 (d := dd_solved) rfl).choose, He.glo_ok X G (cd.fact 10 (f := .glo "solved") rfl), (cd.def_ 10 (d := dd_solved) rfl).choose_spec⟩,
    d_need_room := ⟨_, (cd.def_ 11 (d := dd_need_room) rfl).choose, He.glo_ok X G (cd.fact 11 (f := .glo "need_room") rfl), (cd.def_ 11 (d := dd_need_room) rfl).choose_spec⟩,
    d_need_rooms := ⟨_, (cd.def_ 12 (d := dd_need_rooms) rfl).choose, He.glo_ok X G (cd.fact 12 (f := .glo "need_rooms") rfl), (cd.def_ 12 (d := dd_need_rooms) rfl).choose_spec⟩,
    d_made_of := ⟨_, (cd.def_ 13 (d := dd_made_of) rfl).choose, He.glo_ok X G (cd.fact 13 (f := .glo "made_of") rfl), (cd.def_ 13 (d := dd_made_of) rfl).choose_spec⟩,
    d_can_come := ⟨_, (cd.def_ 14 (d := dd_can_come) rfl).choose, He.glo_ok X G (cd.fact 14 (f := .glo "can_come") rfl), (cd.def_ 14 (d := dd_can_come) rfl).choose_spec⟩,
    d_known_part := ⟨_, (cd.def_ 15 (d := dd_known_part) rfl).choose, He.glo_ok X G (cd.fact 15 (f := .glo "known_part") rfl), (cd.def_ 15 (d := dd_known_part) rfl).choose_spec⟩,
    d_solved_for := ⟨_, (cd.def_ 16 (d := dd_solved_for) rfl).choose, He.glo_ok X G (cd.fact 16 (f := .glo "solved_for") rfl), (cd.def_ 16 (d := dd_solved_for) rfl).choose_spec⟩,
    d_chances_of := ⟨_, (cd.def_ 17 (d := dd_chances_of) rfl).choose, He.glo_ok X G (cd.fact 17 (f := .glo "chances_of") rfl), (cd.def_ 17 (d := dd_chances_of) rfl).choose_spec⟩,
    d_chances := ⟨_, (cd.def_ 18 (d := dd_chances) rfl).choose, He.glo_ok X G (cd.fact 18 (f := .glo "chances") rfl), (cd.def_ 18 (d := dd_chances) rfl).choose_spec⟩,
    d_waits := ⟨_, (cd.def_ 19 (d := dd_waits) rfl).choose, He.glo_ok X G (cd.fact 19 (f := .glo "waits") rfl), (cd.def_ 19 (d := dd_waits) rfl).choose_spec⟩,
    d_walk_by := ⟨_, (cd.def_ 20 (d := dd_walk_by) rfl).choose, He.glo_ok X G (cd.fact 20 (f := .glo "walk_by") rfl), (cd.def_ 20 (d := dd_walk_by) rfl).choose_spec⟩,
    d_picked := ⟨_, (cd.def_ 21 (d := dd_picked) rfl).choose, He.glo_ok X G (cd.fact 21 (f := .glo "picked") rfl), (cd.def_ 21 (d := dd_picked) rfl).choose_spec⟩,
    d_better := ⟨_, (cd.def_ 22 (d := dd_better) rfl).choose, He.glo_ok X G (cd.fact 22 (f := .glo "better") rfl), (cd.def_ 22 (d := dd_better) rfl).choose_spec⟩,
    d_most := ⟨_, (cd.def_ 23 (d := dd_most) rfl).choose, He.glo_ok X G (cd.fact 23 (f := .glo "most") rfl), (cd.def_ 23 (d := dd_most) rfl).choose_spec⟩,
    d_need_costs := ⟨_, (cd.def_ 24 (d := dd_need_costs) rfl).choose, He.glo_ok X G (cd.fact 24 (f := .glo "need_costs") rfl), (cd.def_ 24 (d := dd_need_costs) rfl).choose_spec⟩,
    d_costs_by := ⟨_, (cd.def_ 25 (d := dd_costs_by) rfl).choose, He.glo_ok X G (cd.fact 25 (f := .glo "costs_by") rfl), (cd.def_ 25 (d := dd_costs_by) rfl).choose_spec⟩,
    d_lies_in := ⟨_, (cd.def_ 26 (d := dd_lies_in) rfl).choose, He.glo_ok X G (cd.fact 26 (f := .glo "lies_in") rfl), (cd.def_ 26 (d := dd_lies_in) rfl).choose_spec⟩,
    d_cheaper := ⟨_, (cd.def_ 27 (d := dd_cheaper) rfl).choose, He.glo_ok X G (cd.fact 27 (f := .glo "cheaper") rfl), (cd.def_ 27 (d := dd_cheaper) rfl).choose_spec⟩,
    d_values_by := ⟨_, (cd.def_ 28 (d := dd_values_by) rfl).choose, He.glo_ok X G (cd.fact 28 (f := .glo "values_by") rfl), (cd.def_ 28 (d := dd_values_by) rfl).choose_spec⟩,
    d_least_costs := ⟨_, (cd.def_ 29 (d := dd_least_costs) rfl).choose, He.glo_ok X G (cd.fact 29 (f := .glo "least_costs") rfl), (cd.def_ 29 (d := dd_least_costs) rfl).choose_spec⟩,
    d_law_cell_at := ⟨_, (cd.def_ 30 (d := dd_law_cell_at) rfl).choose, He.glo_ok X G (cd.fact 30 (f := .glo "_law_cell_at") rfl), (cd.def_ 30 (d := dd_law_cell_at) rfl).choose_spec⟩,
    d_law_mixed := ⟨_, (cd.def_ 31 (d := dd_law_mixed) rfl).choose, He.glo_ok X G (cd.fact 31 (f := .glo "_law_mixed") rfl), (cd.def_ 31 (d := dd_law_mixed) rfl).choose_spec⟩,
    d_law_divisor := ⟨_, (cd.def_ 32 (d := dd_law_divisor) rfl).choose, He.glo_ok X G (cd.fact 32 (f := .glo "_law_divisor") rfl), (cd.def_ 32 (d := dd_law_divisor) rfl).choose_spec⟩,
    d_law_frac := ⟨_, (cd.def_ 33 (d := dd_law_frac) rfl).choose, He.glo_ok X G (cd.fact 33 (f := .glo "_law_frac") rfl), (cd.def_ 33 (d := dd_law_frac) rfl).choose_spec⟩,
    d_law_spread := ⟨_, (cd.def_ 34 (d := dd_law_spread) rfl).choose, He.glo_ok X G (cd.fact 34 (f := .glo "_law_spread") rfl), (cd.def_ 34 (d := dd_law_spread) rfl).choose_spec⟩,
    d_law_choice := ⟨_, (cd.def_ 35 (d := dd_law_choice) rfl).choose, He.glo_ok X G (cd.fact 35 (f := .glo "_law_choice") rfl), (cd.def_ 35 (d := dd_law_choice) rfl).choose_spec⟩,
    d_law_whole := ⟨_, (cd.def_ 36 (d := dd_law_whole) rfl).choose, He.glo_ok X G (cd.fact 36 (f := .glo "_law_whole") rfl), (cd.def_ 36 (d := dd_law_whole) rfl).choose_spec⟩,
    d_law_are_picks := ⟨_, (cd.def_ 37 (d := dd_law_are_picks) rfl).choose, He.glo_ok X G (cd.fact 37 (f := .glo "_law_are_picks") rfl), (cd.def_ 37 (d := dd_law_are_picks) rfl).choose_spec⟩,
    d_law_all_picks := ⟨_, (cd.def_ 38 (d := dd_law_all_picks) rfl).choose, He.glo_ok X G (cd.fact 38 (f := .glo "_law_all_picks") rfl), (cd.def_ 38 (d := dd_law_all_picks) rfl).choose_spec⟩,
    d_law_goals := ⟨_, (cd.def_ 39 (d := dd_law_goals) rfl).choose, He.glo_ok X G (cd.fact 39 (f := .glo "_law_goals") rfl), (cd.def_ 39 (d := dd_law_goals) rfl).choose_spec⟩,
    d_law_add := ⟨_, (cd.def_ 40 (d := dd_law_add) rfl).choose, He.glo_ok X G (cd.fact 40 (f := .glo "_law_add") rfl), (cd.def_ 40 (d := dd_law_add) rfl).choose_spec⟩,
    d_law_below := ⟨_, (cd.def_ 41 (d := dd_law_below) rfl).choose, He.glo_ok X G (cd.fact 41 (f := .glo "_law_below") rfl), (cd.def_ 41 (d := dd_law_below) rfl).choose_spec⟩,
    d_law_way_cost := ⟨_, (cd.def_ 42 (d := dd_law_way_cost) rfl).choose, He.glo_ok X G (cd.fact 42 (f := .glo "_law_way_cost") rfl), (cd.def_ 42 (d := dd_law_way_cost) rfl).choose_spec⟩,
    d_law_walked := ⟨_, (cd.def_ 43 (d := dd_law_walked) rfl).choose, He.glo_ok X G (cd.fact 43 (f := .glo "_law_walked") rfl), (cd.def_ 43 (d := dd_law_walked) rfl).choose_spec⟩,
    d_law := ⟨_, (cd.def_ 44 (d := dd_law) rfl).choose, He.glo_ok X G (cd.fact 44 (f := .glo "law") rfl), (cd.def_ 44 (d := dd_law) rfl).choose_spec⟩ }
theorem all_walks {base : Heap} (T : Txt K mg) : Def P w K mg base "law" ["_law_script"] 13 1 m_law := by
  have G_divisor := w_divisor (P := P) (w := w) (base := base) T 
  have G_frac := w_frac (P := P) (w := w) (base := base) T G_divisor
  have G_plus := w_plus (P := P) (w := w) (base := base) T G_frac
  have G_less := w_less (P := P) (w := w) (base := base) T G_frac
  have G_times := w_times (P := P) (w := w) (base := base) T G_frac
  have G_over := w_over (P := P) (w := w) (base := base) T G_frac
  have G_below := w_below (P := P) (w := w) (base := base) T 
  have G_summed := w_summed (P := P) (w := w) (base := base) T G_plus
  have G_is_whole := w_is_whole (P := P) (w := w) (base := base) T 
  have G_eased := w_eased (P := P) (w := w) (base := base) T G_over G_less G_times
  have G_solved := w_solved (P := P) (w := w) (base := base) T G_eased
  have G_need_room := w_need_room (P := P) (w := w) (base := base) T G_is_whole
  have G_need_rooms := w_need_rooms (P := P) (w := w) (base := base) T G_need_room
  have G_made_of := w_made_of (P := P) (w := w) (base := base) T G_summed G_times
  have G_can_come := w_can_come (P := P) (w := w) (base := base) T 
  have G_known_part := w_known_part (P := P) (w := w) (base := base) T 
  have G_solved_for := w_solved_for (P := P) (w := w) (base := base) T G_solved G_less G_plus G_known_part
  have G_chances_of := w_chances_of (P := P) (w := w) (base := base) T G_can_come G_solved_for
  have G_chances := w_chances (P := P) (w := w) (base := base) T G_need_rooms G_chances_of
  have G_waits := w_waits (P := P) (w := w) (base := base) T G_need_rooms G_chances_of G_solved_for
  have G_walk_by := w_walk_by (P := P) (w := w) (base := base) T 
  have G_picked := w_picked (P := P) (w := w) (base := base) T G_walk_by G_is_whole
  have G_better := w_better (P := P) (w := w) (base := base) T G_made_of G_below
  have G_most := w_most (P := P) (w := w) (base := base) T G_need_rooms G_chances_of G_better G_walk_by
  have G_need_costs := w_need_costs (P := P) (w := w) (base := base) T G_is_whole
  have G_costs_by := w_costs_by (P := P) (w := w) (base := base) T G_solved G_less
  have G_lies_in := w_lies_in (P := P) (w := w) (base := base) T 
  have G_cheaper := w_cheaper (P := P) (w := w) (base := base) T G_lies_in G_plus G_below G_made_of
  have G_values_by := w_values_by (P := P) (w := w) (base := base) T G_costs_by G_walk_by
  have G_least_costs := w_least_costs (P := P) (w := w) (base := base) T G_need_costs G_need_rooms G_most G_values_by G_cheaper
  have G_law_cell_at := w_law_cell_at (P := P) (w := w) (base := base) T 
  have G_law_mixed := w_law_mixed (P := P) (w := w) (base := base) T G_law_cell_at
  have G_law_divisor := w_law_divisor (P := P) (w := w) (base := base) T 
  have G_law_frac := w_law_frac (P := P) (w := w) (base := base) T G_law_divisor
  have G_law_spread := w_law_spread (P := P) (w := w) (base := base) T G_law_mixed G_law_frac
  have G_law_choice := w_law_choice (P := P) (w := w) (base := base) T G_law_mixed G_law_spread
  have G_law_whole := w_law_whole (P := P) (w := w) (base := base) T 
  have G_law_are_picks := w_law_are_picks (P := P) (w := w) (base := base) T G_law_whole
  have G_law_all_picks := w_law_all_picks (P := P) (w := w) (base := base) T 
  have G_law_goals := w_law_goals (P := P) (w := w) (base := base) T G_law_mixed
  have G_law_add := w_law_add (P := P) (w := w) (base := base) T G_law_frac
  have G_law_below := w_law_below (P := P) (w := w) (base := base) T 
  have G_law_way_cost := w_law_way_cost (P := P) (w := w) (base := base) T G_law_add
  have G_law_walked := w_law_walked (P := P) (w := w) (base := base) T G_law_way_cost G_law_below
  have G_law := w_law (P := P) (w := w) (base := base) T G_law_choice G_law_goals G_least_costs G_chances G_law_mixed G_most G_law_walked G_picked G_law_all_picks G_waits G_law_are_picks G_law_below
  exact G_law
end
end LW
open PySem PySem.W PySem.Calls PyProof.Rows
theorem PySem.Challenge.cw_lotwander_k14_whole_costs_holds : PySem.Challenge.rw_lotwander_k14_whole_costs.Holds := by
  w_on; o_law
  refine HandSHeadRun.head_any (r := OpenLaw.row PySem.Challenge.rw_lotwander_k14_whole_costs) (q := view (OpenLaw.row PySem.Challenge.rw_lotwander_k14_whole_costs).prog [59]) (H := LW.hk) (ob := LW.ob) (M := 9000) (loose := LW.loose) (d := HandSHeadRun.topDef (OpenLaw.row PySem.Challenge.rw_lotwander_k14_whole_costs).prog 59) (kwd := []) LW.ob_eq
    (by kernel_rfl) (fun s => by kernel_rfl) LW.top_run (by kernel_rfl) (by kernel_rfl) (by kernel_rfl) (by rfl) (by first | assumption | decide +kernel) (by decide +kernel) ⟨rfl, rfl, rfl, rfl, rfl, by decide +kernel⟩ ?hw ?hc
  case hw => w_witness2
  case hc =>
    refine L2.walk_ofE (l := PySem.Challenge.rw_lotwander_k14_whole_costs) (n := 63) (k := 13) (x := "_law_script") (CX := L2.CX0) rfl (by decide) (by kernel_rfl) ⟨rfl, by decide, by decide⟩ ?F (fun _ _ _ _ z => z)
    intro w mg fa h Y G hmg0
    obtain ⟨K, KX, c⟩ := Y
    have hmg : mg ("law" : PySem.Str) = some (.ref fa) := by
      have e : (HandSHeadRun.topDef (OpenLaw.row PySem.Challenge.rw_lotwander_k14_whole_costs).prog 59).name = ("law" : PySem.Str) := by kernel_rfl
      rw [← e]
      exact hmg0
    exact DL.law_end (LW.txt_mk KX G c).d_law KX hmg (fun us hl => match us, hl with | [_], _ => rfl) (fun base _ _ => LW.all_walks (LW.txt_mk KX G c)) LW.pure_law
end
