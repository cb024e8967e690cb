import PyProof.Rows.All
import HandS.ForMost
import HandS.Wide
import HandS.Conv
import HandS.Zip
import HandS.IsInst
import HandS.SortInts
import HandS.Deep
import HandS.TupAny
import HandS.TupMul
import HandS.Flow
import HandS.More
import HandS.ForExc
import HandS.Defaults
import HandS.HeadHook4
import KE.KDictSum
import KE.GoesZip
import KE.GoesMore
import KE.GoesEnum
import HandS.TryMany
import HandS.ExcIs
import HandS.Style
import KE.SortData
import HandS.Iter
import HandS.SetFor
import HandS.Strs
import HandS.DictTup
import HandS.ListItems
import PyProof.Transfer
import KE.KDictPairs
import HandS.Codes
import PyProof.P3Eq
import PySem.Challenge.RW_lotwander_k19_texts_refused
import HandS.Head0
import HandS.Head1
import HandS.Head2
import HandS.HeadEnd

section
set_option Elab.async false
set_option linter.all false
set_option maxRecDepth 100000
set_option maxHeartbeats 2000000
set_option autoImplicit false
/-! DL: a layer of values over HandS: what an expression, a block, a def is worth, as a plain function of data. -/
namespace DL
open PySem PySem.Spec PyProof.Rows L2

abbrev D := PyData
abbrev Rho := List (Option D)

/-! ### results -/
inductive Res (α : Type) where
  | ok (a : α)
  | exc (c : Str)
  | bad
def Res.bind {α β : Type} (x : Res α) (f : α → Res β) : Res β :=
  match x with
  | .ok a => f a
  | .exc c => .exc c
  | .bad => .bad
@[simp] theorem bind_ok {α β : Type} (a : α) (f : α → Res β) : (Res.ok a).bind f = f a := rfl
@[simp] theorem bind_exc {α β : Type} (c : Str) (f : α → Res β) : (Res.exc c).bind f = Res.exc c := rfl
@[simp] theorem bind_bad {α β : Type} (f : α → Res β) : (Res.bad : Res α).bind f = Res.bad := rfl
/-- where nothing may be raised -/
def Res.calm {α : Type} : Res α → Res α
  | .ok a => .ok a
  | _ => .bad
@[simp] theorem calm_ok {α : Type} (a : α) : (Res.ok a).calm = .ok a := rfl

/-! ### heaps -/
open Classical in
noncomputable def Cut (A : Addr → Prop) (H : Hp) : Hp := fun a => if A a then none else H a
theorem cut_in {A : Addr → Prop} {H : Hp} {a : Addr} (h : A a) : Cut A H a = none := by unfold Cut; rw [if_pos h]
theorem cut_out {A : Addr → Prop} {H : Hp} {a : Addr} (h : ¬ A a) : Cut A H a = H a := by unfold Cut; rw [if_neg h]
theorem cut_some {A : Addr → Prop} {H : Hp} {a : Addr} {o : HO} (h : Cut A H a = some o) : ¬ A a ∧ H a = some o := by
  by_cases c : A a
  · rw [cut_in c] at h; cases h
  · rw [cut_out c] at h; exact ⟨c, h⟩
theorem cut_same {A : Addr → Prop} {H H' : Hp} (s : Same H H') : Same (Cut A H) (Cut A H') := fun a o h => by
  obtain ⟨c, e⟩ := cut_some h
  rw [cut_out c]; exact s a o e
theorem cut_sub {A : Addr → Prop} {H : Hp} : Same (Cut A H) H := fun a o h => (cut_some h).2
theorem cut_mono {A A' : Addr → Prop} {H : Hp} (s : ∀ a, A' a → A a) : Same (Cut A H) (Cut A' H) := fun a o h => by
  obtain ⟨c, e⟩ := cut_some h
  rw [cut_out fun z => c (s a z)]; exact e
theorem cut_upd_in {A : Addr → Prop} {H : Hp} {a : Addr} {o : HO} (h : A a) : Cut A (upd H a o) = Cut A H := by
  funext b
  by_cases c : A b
  · rw [cut_in c, cut_in c]
  · rw [cut_out c, cut_out c, upd_ne]
    intro e; subst e; exact c h
theorem same_new {H : Hp} {p : Addr} {o : HO} (h : H p = none) : Same H (upd H p o) := fun b x e => by
  rw [upd_ne (ne_of_none e h)]; exact e
theorem cut_new {A : Addr → Prop} {H : Hp} {p : Addr} {o : HO} (h : ¬ A p) : Cut A (upd H p o) p = some o := by
  rw [cut_out h, upd_same]
/-- owned things are tracked -/
def Dom (A : Addr → Prop) (H : Hp) : Prop := ∀ a, A a → H a ≠ none
theorem Dom.new {A : Addr → Prop} {H : Hp} (d : Dom A H) {p : Addr} (h : H p = none) : ¬ A p := fun z => d p z h
theorem Dom.same {A : Addr → Prop} {H H' : Hp} (d : Dom A H) (s : Same H H') : Dom A H' := fun a h z => by
  cases q : H a with
  | none => exact d a h q
  | some o => rw [s a o q] at z; cases z

/-! ### what represents what -/
def keyD : Key → D
  | .inl i => .int i
  | .inr x => .str x
mutual
inductive R (K : PySem.W.Frag) (H : Hp) : V → D → Prop
  | non : R K H .non .none
  | bl (b : Bool) : R K H (.bl b) (.bool b)
  | int (i : Int) : R K H (.int i) (.int i)
  | str (x : Str) : R K H (.str x) (.str x)
  | lst {a : Addr} {xs : List V} {ds : List D} : H a = some (.lst xs) → RAll K H xs ds → R K H (.ref a) (.list ds)
  | scr {a : Addr} {ns : List Int} : SqL K H a (ns.map V.int) → R K H (.ref a) (.dict [(.none, .list (ns.map PyData.int))])
  | tup {a : Addr} {xs : List V} {ds : List D} : SqT K H a xs → RAll K H xs ds → R K H (.ref a) (.tuple ds)
  | dic {a : Addr} {kvs : List (Key × V)} {ds : List (D × D)} : H a = some (.dK kvs) → RKV K H kvs ds → R K H (.ref a) (.dict ds)
  | fdic {a : Addr} {o : Obj} {kvs : List (Key × V)} {ds : List (D × D)} : H a = some (.frz o (.dK kvs)) → RKV K H kvs ds → R K H (.ref a) (.dict ds)
inductive RAll (K : PySem.W.Frag) (H : Hp) : List V → List D → Prop
  | nil : RAll K H [] []
  | cons {v : V} {vs : List V} {d : D} {ds : List D} : R K H v d → RAll K H vs ds → RAll K H (v :: vs) (d :: ds)
inductive RKV (K : PySem.W.Frag) (H : Hp) : List (Key × V) → List (D × D) → Prop
  | nil : RKV K H [] []
  | cons {k : Key} {v : V} {kvs : List (Key × V)} {d : D} {ds : List (D × D)} : R K H v d → RKV K H kvs ds → RKV K H ((k, v) :: kvs) ((keyD k, d) :: ds)
end
section
variable {K : PySem.W.Frag} {H H' : Hp}
theorem sqT_same {a : Addr} {xs : List V} (e : Same H H') (h : SqT K H a xs) : SqT K H' a xs := by
  rcases h with (h | ⟨o, h⟩) | h
  · exact .inl (.inl (e _ _ h))
  · exact .inl (.inr ⟨o, e _ _ h⟩)
  · exact .inr h
mutual
theorem R.mono (s : Same H H') : ∀ {v : V} {d : D}, R K H v d → R K H' v d
  | _, _, .non => .non
  | _, _, .bl b => .bl b
  | _, _, .int i => .int i
  | _, _, .str x => .str x
  | _, _, .lst h r => .lst (s _ _ h) (RAll.mono s r)
  | _, _, .scr h => .scr (s.seq h)
  | _, _, .tup h r => .tup (sqT_same s h) (RAll.mono s r)
  | _, _, .dic h r => .dic (s _ _ h) (RKV.mono s r)
  | _, _, .fdic h r => .fdic (s _ _ h) (RKV.mono s r)
theorem RAll.mono (s : Same H H') : ∀ {vs : List V} {ds : List D}, RAll K H vs ds → RAll K H' vs ds
  | _, _, .nil => .nil
  | _, _, .cons h r => .cons (R.mono s h) (RAll.mono s r)
theorem RKV.mono (s : Same H H') : ∀ {vs : List (Key × V)} {ds : List (D × D)}, RKV K H vs ds → RKV K H' vs ds
  | _, _, .nil => .nil
  | _, _, .cons h r => .cons (R.mono s h) (RKV.mono s r)
end
theorem RAll.length : ∀ {vs : List V} {ds : List D}, RAll K H vs ds → vs.length = ds.length
  | _, _, .nil => rfl
  | _, _, .cons _ r => by rw [List.length_cons, List.length_cons, RAll.length r]
theorem RAll.get : ∀ {vs : List V} {ds : List D}, RAll K H vs ds → ∀ {i : Nat} {d : D}, ds[i]? = some d → ∃ v, vs[i]? = some v ∧ R K H v d
  | _, _, .nil, i, d, h => by simp at h
  | _, _, .cons r _, 0, d, h => by simp at h; subst h; exact ⟨_, rfl, r⟩
  | _, _, .cons _ t, i + 1, d, h => by
    obtain ⟨v, a, b⟩ := RAll.get t (i := i) (d := d) (by simpa using h)
    exact ⟨v, by simpa using a, b⟩
theorem RAll.getV : ∀ {vs : List V} {ds : List D}, RAll K H vs ds → ∀ {i : Nat} {v : V}, vs[i]? = some v → ∃ d, ds[i]? = some d ∧ R K H v d
  | _, _, .nil, i, d, h => by simp at h
  | _, _, .cons r _, 0, d, h => by simp at h; subst h; exact ⟨_, rfl, r⟩
  | _, _, .cons _ t, i + 1, d, h => by
    obtain ⟨v, a, b⟩ := RAll.getV t (i := i) (v := d) (by simpa using h)
    exact ⟨v, by simpa using a, b⟩
theorem RAll.set {v : V} {d : D} (r : R K H v d) : ∀ {vs : List V} {ds : List D} (i : Nat), RAll K H vs ds → RAll K H (vs.set i v) (ds.set i d)
  | _, _, _, .nil => .nil
  | _, _, 0, .cons _ t => .cons r t
  | _, _, i + 1, .cons q t => .cons q (RAll.set r i t)
theorem RAll.append : ∀ {vs ws : List V} {ds es : List D}, RAll K H vs ds → RAll K H ws es → RAll K H (vs ++ ws) (ds ++ es)
  | _, _, _, _, .nil, s => s
  | _, _, _, _, .cons r t, s => .cons r (RAll.append t s)
theorem RAll.take : ∀ {vs : List V} {ds : List D} (n : Nat), RAll K H vs ds → RAll K H (vs.take n) (ds.take n)
  | _, _, 0, _ => .nil
  | _, _, _ + 1, .nil => .nil
  | _, _, n + 1, .cons r t => .cons r (RAll.take n t)
theorem RAll.drop : ∀ {vs : List V} {ds : List D} (n : Nat), RAll K H vs ds → RAll K H (vs.drop n) (ds.drop n)
  | _, _, 0, r => r
  | _, _, _ + 1, .nil => .nil
  | _, _, n + 1, .cons _ t => RAll.drop n t
theorem RAll.reverse {vs : List V} {ds : List D} (h : RAll K H vs ds) : RAll K H vs.reverse ds.reverse := by
  induction vs generalizing ds with
  | nil => cases h; exact .nil
  | cons v r ih =>
    cases h with
    | cons a b => rw [List.reverse_cons, List.reverse_cons]; exact (ih b).append (.cons a .nil)
theorem R.int_of {v : V} {i : Int} (h : R K H v (.int i)) : v = .int i := by cases h; rfl
theorem R.bool_of {v : V} {b : Bool} (h : R K H v (.bool b)) : v = .bl b := by cases h; rfl
theorem R.str_of {v : V} {x : Str} (h : R K H v (.str x)) : v = .str x := by cases h; rfl
theorem R.none_of {v : V} (h : R K H v .none) : v = .non := by cases h; rfl
theorem R.list_of {v : V} {ds : List D} (h : R K H v (.list ds)) : ∃ a xs, v = .ref a ∧ H a = some (.lst xs) ∧ RAll K H xs ds := by cases h with | lst a b => exact ⟨_, _, rfl, a, b⟩
theorem R.tuple_of {v : V} {ds : List D} (h : R K H v (.tuple ds)) : ∃ a xs, v = .ref a ∧ SqT K H a xs ∧ RAll K H xs ds := by cases h with | tup a b => exact ⟨_, _, rfl, a, b⟩
/-- the law's script, of which only the places are read -/
abbrev scrD (ns : List Int) : D := .dict [(.none, .list (ns.map PyData.int))]
/-- no dict within: what == may be asked of -/
def plainD (d : D) : Bool := SeqAt.shaped d
mutual
theorem R.dp : ∀ {v : V} {d : D}, R K H v d → d.canLay0 = true → Dp K H v d
  | _, _, .non, _ => .non
  | _, _, .bl b, _ => .bl b
  | _, _, .int i, _ => .int i
  | _, _, .str x, _ => .str x
  | _, _, .lst h r, c => .lst (.of h) (RAll.dp r (by simpa [PyData.canLay0] using c))
  | _, _, .scr _, c => by simp [PyData.canLay0] at c
  | _, _, .tup h r, c => .tup h (RAll.dp r (by simpa [PyData.canLay0] using c))
  | _, _, .dic _ _, c => by simp [PyData.canLay0] at c
  | _, _, .fdic _ _, c => by simp [PyData.canLay0] at c
theorem RAll.dp : ∀ {vs : List V} {ds : List D}, RAll K H vs ds → PyData.canLayAll0 ds = true → DpAll K H vs ds
  | _, _, .nil, _ => .nil
  | _, _, .cons h r, c => by
    simp only [PyData.canLayAll0, Bool.and_eq_true] at c
    exact .cons (R.dp h c.1) (RAll.dp r c.2)
end
end

/-! ### the names of a def: what each slot is worth; which slots hold lists, dicts of the def's own that it still changes -/
def OwnA (own : List Nat) (σ : L2.St) (a : Addr) : Prop := ∃ i, i ∈ own ∧ σ[i]? = some (some (.ref a))
def AllA (O : Addr → Prop) (own : List Nat) (σ : L2.St) (a : Addr) : Prop := O a ∨ OwnA own σ a
inductive OwnR (K : PySem.W.Frag) (C H : Hp) (a : Addr) : D → Prop
  | lst {vs : List V} {ds : List D} : H a = some (.lst vs) → RAll K C vs ds → OwnR K C H a (.list ds)
  | dic {kvs : List (Key × V)} {ds : List (D × D)} : H a = some (.dK kvs) → RKV K C kvs ds → OwnR K C H a (.dict ds)
structure EnvOk (K : PySem.W.Frag) (O : Addr → Prop) (H0 : Hp) (own : List Nat) (ρ : Rho) (σ : L2.St) (H : Hp) : Prop where
  len : σ.length = ρ.length
  base : Same H0 H
  dom : Dom O H0
  new : ∀ a, OwnA own σ a → H0 a = none
  live : ∀ a, OwnA own σ a → H a ≠ none
  inj : ∀ i j a, i ∈ own → j ∈ own → σ[i]? = some (some (.ref a)) → σ[j]? = some (some (.ref a)) → i = j
  sh : ∀ i d, i ∉ own → ρ[i]? = some (some d) → ∃ v, σ[i]? = some (some v) ∧ R K (Cut (AllA O own σ) H) v d
  ow : ∀ i d, i ∈ own → ρ[i]? = some (some d) → ∃ a, σ[i]? = some (some (.ref a)) ∧ OwnR K (Cut (AllA O own σ) H) H a d
section
variable {K : PySem.W.Frag} {O : Addr → Prop} {H0 H H' : Hp} {own own' : List Nat} {ρ : Rho} {σ : L2.St}
theorem EnvOk.domA (e : EnvOk K O H0 own ρ σ H) : Dom (AllA O own σ) H := fun a h z => by
  rcases h with h | h
  · exact (e.dom.same e.base) a h z
  · exact e.live a h z
theorem EnvOk.notO (e : EnvOk K O H0 own ρ σ H) {a : Addr} (h : OwnA own σ a) : ¬ O a := fun z => e.dom a z (e.new a h)
theorem EnvOk.mono (e : EnvOk K O H0 own ρ σ H) (s : Same H H') : EnvOk K O H0 own ρ σ H' where
  len := e.len
  base := e.base.trans s
  dom := e.dom
  new := e.new
  live := fun a h z => by
    cases q : H a with
    | none => exact e.live a h q
    | some o => rw [s a o q] at z; cases z
  inj := e.inj
  sh := fun i d h q => by
    obtain ⟨v, a, b⟩ := e.sh i d h q
    exact ⟨v, a, b.mono (cut_same s)⟩
  ow := fun i d h q => by
    obtain ⟨a, b, c⟩ := e.ow i d h q
    refine ⟨a, b, ?_⟩
    cases c with
    | lst x y => exact .lst (s _ _ x) (y.mono (cut_same s))
    | dic x y => exact .dic (s _ _ x) (y.mono (cut_same s))
theorem own_sub (s : ∀ i ∈ own', i ∈ own) {a : Addr} (h : OwnA own' σ a) : OwnA own σ a := let ⟨i, m, q⟩ := h; ⟨i, s i m, q⟩
theorem all_sub (s : ∀ i ∈ own', i ∈ own) {a : Addr} (h : AllA O own' σ a) : AllA O own σ a := h.imp id (own_sub s)
/-- a list that is changed no more -/
theorem EnvOk.freeze (e : EnvOk K O H0 own ρ σ H) (s : ∀ i ∈ own', i ∈ own) : EnvOk K O H0 own' ρ σ H where
  len := e.len
  base := e.base
  dom := e.dom
  new := fun a h => e.new a (own_sub s h)
  live := fun a h => e.live a (own_sub s h)
  inj := fun i j a h h' => e.inj i j a (s i h) (s j h')
  sh := fun i d h q => by
    have mo : Same (Cut (AllA O own σ) H) (Cut (AllA O own' σ) H) := cut_mono fun a z => all_sub s z
    by_cases c : i ∈ own
    · obtain ⟨a, b, r⟩ := e.ow i d c q
      have oa : OwnA own σ a := ⟨i, c, b⟩
      have na : ¬ AllA O own' σ a := by
        rintro (z | ⟨j, m, z⟩)
        · exact e.notO oa z
        · exact h (e.inj i j a c (s j m) b z ▸ m)
      refine ⟨.ref a, b, ?_⟩
      cases r with
      | lst x y => exact .lst (by rw [cut_out na]; exact x) (y.mono mo)
      | dic x y => exact .dic (by rw [cut_out na]; exact x) (y.mono mo)
    · obtain ⟨v, a, b⟩ := e.sh i d c q
      exact ⟨v, a, b.mono mo⟩
  ow := fun i d h q => by
    obtain ⟨a, b, c⟩ := e.ow i d (s i h) q
    have mo : Same (Cut (AllA O own σ) H) (Cut (AllA O own' σ) H) := cut_mono fun a z => all_sub s z
    refine ⟨a, b, ?_⟩
    cases c with
    | lst x y => exact .lst x (y.mono mo)
    | dic x y => exact .dic x (y.mono mo)
theorem own_set {i : Nat} {v : V} (h : i ∉ own) {a : Addr} : OwnA own (σ.set i (some v)) a ↔ OwnA own σ a := by
  constructor
  · rintro ⟨j, m, q⟩
    have ne : i ≠ j := fun z => h (z ▸ m)
    rw [List.getElem?_set_ne ne] at q
    exact ⟨j, m, q⟩
  · rintro ⟨j, m, q⟩
    have ne : i ≠ j := fun z => h (z ▸ m)
    exact ⟨j, m, by rw [List.getElem?_set_ne ne]; exact q⟩
theorem all_set {i : Nat} {v : V} (h : i ∉ own) : AllA O own (σ.set i (some v)) = AllA O own σ := by
  funext a
  exact propext (or_congr Iff.rfl (own_set (v := v) h))
/-- a name is given a value that nobody changes -/
theorem EnvOk.setSh (e : EnvOk K O H0 own ρ σ H) {i : Nat} {v : V} {d : D} (h : i ∉ own) (r : R K (Cut (AllA O own σ) H) v d) : EnvOk K O H0 own (ρ.set i (some d)) (σ.set i (some v)) H where
  len := by rw [List.length_set, List.length_set]; exact e.len
  base := e.base
  dom := e.dom
  new := fun a z => e.new a ((own_set h).mp z)
  live := fun a z => e.live a ((own_set h).mp z)
  inj := fun j k a m m' q q' => by
    have ne : i ≠ j := fun z => h (z ▸ m)
    have ne' : i ≠ k := fun z => h (z ▸ m')
    rw [List.getElem?_set_ne ne] at q
    rw [List.getElem?_set_ne ne'] at q'
    exact e.inj j k a m m' q q'
  sh := fun j d' m q => by
    rw [all_set h]
    by_cases c : i = j
    · subst c
      by_cases l : i < ρ.length
      · rw [List.getElem?_set_self l] at q
        cases q
        exact ⟨v, by rw [List.getElem?_set_self (by rw [e.len]; exact l)], r⟩
      · rw [List.getElem?_eq_none (by rw [List.length_set]; omega)] at q; cases q
    · rw [List.getElem?_set_ne c] at q ⊢
      exact e.sh j d' m q
  ow := fun j d' m q => by
    rw [all_set h]
    have ne : i ≠ j := fun z => h (z ▸ m)
    rw [List.getElem?_set_ne ne] at q ⊢
    exact e.ow j d' m q
/-- a slot is forgotten -/
theorem EnvOk.forget (e : EnvOk K O H0 own ρ σ H) {ρ' : Rho} (hl : ρ'.length = ρ.length) (h : ∀ (i : Nat) (d : D), ρ'[i]? = some (some d) → ρ[i]? = some (some d)) : EnvOk K O H0 own ρ' σ H :=
  ⟨e.len.trans hl.symm, e.base, e.dom, e.new, e.live, e.inj, fun i d m q => e.sh i d m (h i d q), fun i d m q => e.ow i d m (h i d q)⟩
theorem own_put {i : Nat} {p : Addr} (h : i ∉ own) {a : Addr} (z : OwnA (i :: own) (σ.set i (some (.ref p))) a) : a = p ∨ OwnA own σ a := by
  obtain ⟨j, m, q⟩ := z
  by_cases c : i = j
  · subst c
    by_cases l : i < σ.length
    · rw [List.getElem?_set_self l] at q
      exact .inl (by cases q; rfl)
    · rw [List.getElem?_eq_none (by rw [List.length_set]; omega)] at q; cases q
  · rw [List.getElem?_set_ne c] at q
    rcases List.mem_cons.mp m with z | z
    · exact (c z.symm).elim
    · exact .inr ⟨j, z, q⟩
/-- a name is given a new list, a new dict that the def is going to change -/
theorem EnvOk.setOw (e : EnvOk K O H0 own ρ σ H) {i : Nat} {p : Addr} {o : HO} {d : D} (h : i ∉ own) (np : H p = none) (r : OwnR K (Cut (AllA O own σ) H) (upd H p o) p d) :
    EnvOk K O H0 (i :: own) (ρ.set i (some d)) (σ.set i (some (.ref p))) (upd H p o) := by
  have sn : Same H (upd H p o) := same_new np
  have mo : Same (Cut (AllA O own σ) H) (Cut (AllA O (i :: own) (σ.set i (some (.ref p)))) (upd H p o)) := fun a x z => by
    obtain ⟨c, q⟩ := cut_some z
    have na : a ≠ p := ne_of_none q np
    rw [cut_out, upd_ne na]
    · exact q
    · rintro (w | w)
      · exact c (.inl w)
      · rcases own_put h w with w | w
        · exact na w
        · exact c (.inr w)
  refine ⟨by rw [List.length_set, List.length_set]; exact e.len, e.base.trans sn, e.dom, fun a z => ?_, fun a z => ?_, fun j k a m m' q q' => ?_, fun j d' m q => ?_, fun j d' m q => ?_⟩
  · rcases own_put h z with w | w
    · subst w; exact e.base.free np
    · exact e.new a w
  · rcases own_put h z with w | w
    · subst w; rw [upd_same]; intro x; cases x
    · intro x
      cases y : H a with
      | none => exact e.live a w y
      | some u => rw [sn a u y] at x; cases x
  · by_cases c : i = j
    · by_cases c' : i = k
      · exact c.symm.trans c'
      · rw [List.getElem?_set_ne c'] at q'
        have m2 : k ∈ own := (List.mem_cons.mp m').resolve_left fun z => c' z.symm
        subst c
        by_cases l : i < σ.length
        · rw [List.getElem?_set_self l] at q
          cases q
          exact (e.live _ ⟨k, m2, q'⟩ np).elim
        · rw [List.getElem?_eq_none (by rw [List.length_set]; omega)] at q; cases q
    · rw [List.getElem?_set_ne c] at q
      have m1 : j ∈ own := (List.mem_cons.mp m).resolve_left fun z => c z.symm
      by_cases c' : i = k
      · subst c'
        by_cases l : i < σ.length
        · rw [List.getElem?_set_self l] at q'
          cases q'
          exact (e.live _ ⟨j, m1, q⟩ np).elim
        · rw [List.getElem?_eq_none (by rw [List.length_set]; omega)] at q'; cases q'
      · rw [List.getElem?_set_ne c'] at q'
        exact e.inj j k a m1 ((List.mem_cons.mp m').resolve_left fun z => c' z.symm) q q'
  · have c : i ≠ j := fun z => m (List.mem_cons.mpr (.inl z.symm))
    rw [List.getElem?_set_ne c] at q ⊢
    obtain ⟨v, a, b⟩ := e.sh j d' (fun z => m (List.mem_cons.mpr (.inr z))) q
    exact ⟨v, a, b.mono mo⟩
  · by_cases c : i = j
    · subst c
      by_cases l : i < ρ.length
      · rw [List.getElem?_set_self l] at q
        cases q
        refine ⟨p, by rw [List.getElem?_set_self (by rw [e.len]; exact l)], ?_⟩
        cases r with
        | lst x y => exact .lst x (y.mono mo)
        | dic x y => exact .dic x (y.mono mo)
      · rw [List.getElem?_eq_none (by rw [List.length_set]; omega)] at q; cases q
    · rw [List.getElem?_set_ne c] at q ⊢
      obtain ⟨a, b, r'⟩ := e.ow j d' ((List.mem_cons.mp m).resolve_left fun z => c z.symm) q
      refine ⟨a, b, ?_⟩
      cases r' with
      | lst x y => exact .lst (sn _ _ x) (y.mono mo)
      | dic x y => exact .dic (sn _ _ x) (y.mono mo)
/-- an own list, an own dict is changed -/
theorem EnvOk.write (e : EnvOk K O H0 own ρ σ H) {i : Nat} {a : Addr} {o : HO} {d : D} (m : i ∈ own) (hi : σ[i]? = some (some (.ref a))) (r : OwnR K (Cut (AllA O own σ) H) (upd H a o) a d) :
    EnvOk K O H0 own (ρ.set i (some d)) σ (upd H a o) := by
  have oa : OwnA own σ a := ⟨i, m, hi⟩
  have ce : Cut (AllA O own σ) (upd H a o) = Cut (AllA O own σ) H := cut_upd_in (.inr oa)
  refine ⟨by rw [List.length_set]; exact e.len, fun b x z => ?_, e.dom, e.new, fun b z => ?_, e.inj, fun j d' m' q => ?_, fun j d' m' q => ?_⟩
  · rw [upd_ne]
    · exact e.base b x z
    · intro w; subst w; rw [e.new _ oa] at z; cases z
  · by_cases w : b = a
    · subst w; rw [upd_same]; intro x; cases x
    · rw [upd_ne w]; exact e.live b z
  · rw [ce]
    have c : i ≠ j := fun z => m' (z ▸ m)
    rw [List.getElem?_set_ne c] at q
    exact e.sh j d' m' q
  · rw [ce]
    by_cases c : i = j
    · subst c
      by_cases l : i < ρ.length
      · rw [List.getElem?_set_self l] at q
        cases q
        exact ⟨a, hi, r⟩
      · rw [List.getElem?_eq_none (by rw [List.length_set]; omega)] at q; cases q
    · rw [List.getElem?_set_ne c] at q
      obtain ⟨b, hb, r'⟩ := e.ow j d' m' q
      have ne : b ≠ a := fun z => c (e.inj i j a m m' hi (z ▸ hb))
      refine ⟨b, hb, ?_⟩
      cases r' with
      | lst x y => exact .lst (by rw [upd_ne ne]; exact x) y
      | dic x y => exact .dic (by rw [upd_ne ne]; exact x) y
end
end DL
end

section
set_option Elab.async false
set_option linter.all false
set_option maxRecDepth 100000
set_option maxHeartbeats 2000000
set_option autoImplicit false
/-! DL2: the rules for expressions. -/
namespace DL
open PySem PySem.Spec PyProof.Rows L2

/-! ### what is wanted of a result -/
def ResW {α : Type} (mg : Str → Option Value) (E : XK) (H : Hp) (P : α → Prop) : Res α → Prop
  | .ok a => P a
  | .exc c => ∃ C, mg c = some (.ref C) ∧ ∀ H', Same H H' → E (.ref C) none H'
  | .bad => False
section
variable {α β : Type} {mg : Str → Option Value} {E : XK} {H H1 : Hp}
theorem resW_bind {P : β → Prop} {x : Res α} {g : α → Res β} : ResW mg E H P (x.bind g) = ResW mg E H (fun a => ResW mg E H P (g a)) x := by cases x <;> rfl
theorem ResW.mono {P P' : α → Prop} {x : Res α} (h : ResW mg E H P x) (s : Same H H1) (hp : ∀ a, P a → P' a) : ResW mg E H1 P' x := by
  cases x with
  | ok a => exact hp a h
  | exc c => obtain ⟨C, a, b⟩ := h; exact ⟨C, a, fun H' s' => b H' (s.trans s')⟩
  | bad => exact h
end
/-- of an operation that raises nothing: none, where the layer does not serve it -/
def OkW {α : Type} (P : α → Prop) : Option α → Prop
  | some a => P a
  | none => False
def ofO {α : Type} : Option α → Res α
  | some a => .ok a
  | none => .bad
@[simp] theorem ofO_some {α : Type} (a : α) : ofO (some a) = .ok a := rfl
@[simp] theorem ofO_none {α : Type} : ofO (none : Option α) = .bad := rfl
theorem okW_of {α : Type} {mg : Str → Option Value} {E : XK} {H : Hp} {P : α → Prop} {x : Option α} (h : ResW mg E H P (ofO x)) : OkW P x := by cases x <;> exact h
theorem OkW.mono {α : Type} {P P' : α → Prop} {x : Option α} (h : OkW P x) (hp : ∀ a, P a → P' a) : OkW P' x := by
  cases x with
  | some a => exact hp a h
  | none => exact h

abbrev Ex := Rho → Res D
abbrev Tx := Rho → Res Bool
abbrev Ax := Rho → Res (List D)

def TEok (K : PySem.W.Frag) (mg : Str → Option Value) (E : XK) (own : List Nat) (t : TE) (f : Ex) : Prop :=
  ∀ (O : Addr → Prop) (H0 : Hp) (ρ : Rho) (σ : L2.St) (H : Hp) (Q : VK), EnvOk K O H0 own ρ σ H → ResW mg E H (fun d => ∀ v H', Same H H' → R K (Cut (AllA O own σ) H') v d → Q v H') (f ρ) → t σ H Q
def TTok (K : PySem.W.Frag) (mg : Str → Option Value) (E : XK) (own : List Nat) (t : TT) (f : Tx) : Prop :=
  ∀ (O : Addr → Prop) (H0 : Hp) (ρ : Rho) (σ : L2.St) (H : Hp) (Q : Bool → Hp → Prop), EnvOk K O H0 own ρ σ H → ResW mg E H (fun b => ∀ H', Same H H' → Q b H') (f ρ) → t σ H Q
def TAok (K : PySem.W.Frag) (mg : Str → Option Value) (E : XK) (own : List Nat) (t : TA) (f : Ax) : Prop :=
  ∀ (O : Addr → Prop) (H0 : Hp) (ρ : Rho) (σ : L2.St) (H : Hp) (Q : List V → Hp → Prop), EnvOk K O H0 own ρ σ H → ResW mg E H (fun ds => ∀ vs H', Same H H' → RAll K (Cut (AllA O own σ) H') vs ds → Q vs H') (f ρ) → t σ H Q

structure DE (X : Cx) (K : PySem.W.Frag) (mg : Str → Option Value) (E : XK) (own : List Nat) (e : Expr) (t : TE) (f : Ex) : Prop where
  pe : PE X e t
  ok : TEok K mg E own t f
structure DT (X : Cx) (K : PySem.W.Frag) (mg : Str → Option Value) (E : XK) (own : List Nat) (e : Expr) (t : TT) (f : Tx) : Prop where
  pt : PT X e t
  ok : TTok K mg E own t f
structure DW (X : Cx) (K : PySem.W.Frag) (mg : Str → Option Value) (E : XK) (own : List Nat) (e : Expr) (t : TT) (f : Tx) : Prop where
  pw : PW X e t
  ok : TTok K mg E own t f
structure DA (X : Cx) (K : PySem.W.Frag) (mg : Str → Option Value) (E : XK) (own : List Nat) (es : List Expr) (t : TA) (f : Ax) : Prop where
  pa : PA X es t
  ok : TAok K mg E own t f

/-! ### what is read of a container: one that stands, or an own one -/
inductive CRep (K : PySem.W.Frag) (C H : Hp) : V → D → Prop
  | sh {v : V} {d : D} : R K C v d → CRep K C H v d
  | ow {a : Addr} {d : D} : OwnR K C H a d → CRep K C H (.ref a) d
section
variable {K : PySem.W.Frag} {C H : Hp} {v : V}
theorem CRep.list_of {ds : List D} (h : CRep K C H v (.list ds)) (s : Same C H) : ∃ a xs, v = .ref a ∧ H a = some (.lst xs) ∧ RAll K C xs ds := by
  cases h with
  | sh r => obtain ⟨a, xs, e, q, z⟩ := r.list_of; exact ⟨a, xs, e, s _ _ q, z⟩
  | ow r => cases r with | lst q z => exact ⟨_, _, rfl, q, z⟩
theorem CRep.tuple_of {ds : List D} (h : CRep K C H v (.tuple ds)) (s : Same C H) : ∃ a xs, v = .ref a ∧ SqT K H a xs ∧ RAll K C xs ds := by
  cases h with
  | sh r => obtain ⟨a, xs, e, q, z⟩ := r.tuple_of; exact ⟨a, xs, e, sqT_same s q, z⟩
  | ow r => cases r
theorem CRep.str_of {x : Str} (h : CRep K C H v (.str x)) : v = .str x := by
  cases h with
  | sh r => exact r.str_of
  | ow r => cases r
/-- a dict, not the script -/
def isDic (kvs : List (D × D)) : Bool := match kvs with
  | (.none, _) :: _ => false
  | _ => true
theorem CRep.dict_of {ds : List (D × D)} (h : CRep K C H v (.dict ds)) (s : Same C H) (hd : isDic ds = true) : ∃ a kvs, v = .ref a ∧ Rd H a (.dK kvs) ∧ RKV K C kvs ds := by
  cases h with
  | sh r => cases r with
    | dic q z => exact ⟨_, _, rfl, .inl (s _ _ q), z⟩
    | fdic q z => exact ⟨_, _, rfl, .inr ⟨_, s _ _ q⟩, z⟩
    | scr q => simp [isDic] at hd
  | ow r => cases r with | dic q z => exact ⟨_, _, rfl, .inl q, z⟩
theorem rd_same {H H' : Hp} {a : Addr} {u : HO} (h : Rd H a u) (s : Same H H') : Rd H' a u := h.imp (s _ _) fun ⟨o, q⟩ => ⟨o, s _ _ q⟩
end
def TCok (K : PySem.W.Frag) (mg : Str → Option Value) (E : XK) (own : List Nat) (t : TE) (f : Ex) : Prop :=
  ∀ (O : Addr → Prop) (H0 : Hp) (ρ : Rho) (σ : L2.St) (H : Hp) (Q : VK), EnvOk K O H0 own ρ σ H → ResW mg E H (fun d => ∀ v H', Same H H' → CRep K (Cut (AllA O own σ) H') H' v d → Q v H') (f ρ) → t σ H Q
structure DC (X : Cx) (K : PySem.W.Frag) (mg : Str → Option Value) (E : XK) (own : List Nat) (e : Expr) (t : TE) (f : Ex) : Prop where
  pe : PE X e t
  ok : TCok K mg E own t f

/-! ### names -/
def rd (i : Nat) : Ex := fun ρ => match ρ[i]? with
  | some (some d) => .ok d
  | _ => .bad
section
variable {X : Cx} {K : PySem.W.Frag} {mg : Str → Option Value} {E : XK} {own : List Nat}
theorem rd_ok {ρ : Rho} {i : Nat} {mg : Str → Option Value} {H : Hp} {P : D → Prop} (h : ResW mg E H P (rd i ρ)) : ∃ d, ρ[i]? = some (some d) ∧ P d := by
  unfold rd at h
  cases q : ρ[i]? with
  | none => rw [q] at h; exact h.elim
  | some o => cases o with
    | none => rw [q] at h; exact h.elim
    | some d => rw [q] at h; exact ⟨d, rfl, h⟩
theorem de_var (i : Nat) {x : Str} {pos : Pos} (hi : i ∉ own := by decide) (hN : X.N[i]? = some x := by rfl) (hv : Vis X.env.scope x := by first | exact Or.inl rfl | exact Or.inr (Or.inl rfl) | exact Or.inr (Or.inr rfl)) (hd : (x == ("__debug__" : Str)) = false := by decide)
    (hcd : (x == ("__classdict__" : Str)) = false := by decide) : DE X K mg E own (.Name x pos) (tVar i) (rd i) :=
  ⟨pe_var hN hv hd hcd, fun O H0 ρ σ H Q e w => by
    obtain ⟨d, q, w⟩ := rd_ok w
    obtain ⟨v, a, b⟩ := e.sh i d hi q
    exact ⟨v, a, w v H (Same.refl H) b⟩⟩
theorem dc_own (i : Nat) {x : Str} {pos : Pos} (hi : i ∈ own := by decide) (hN : X.N[i]? = some x := by rfl) (hv : Vis X.env.scope x := by first | exact Or.inl rfl | exact Or.inr (Or.inl rfl) | exact Or.inr (Or.inr rfl)) (hd : (x == ("__debug__" : Str)) = false := by decide)
    (hcd : (x == ("__classdict__" : Str)) = false := by decide) : DC X K mg E own (.Name x pos) (tVar i) (rd i) :=
  ⟨pe_var hN hv hd hcd, fun O H0 ρ σ H Q e w => by
    obtain ⟨d, q, w⟩ := rd_ok w
    obtain ⟨a, b, c⟩ := e.ow i d hi q
    exact ⟨.ref a, b, w _ H (Same.refl H) (.ow c)⟩⟩
theorem dc_of {e : Expr} {t : TE} {f : Ex} (h : DE X K mg E own e t f) : DC X K mg E own e t f :=
  ⟨h.pe, fun O H0 ρ σ H Q en w => h.ok O H0 ρ σ H Q en (w.mono (Same.refl H) fun d k v H' s r => k v H' s (.sh r))⟩

/-! ### constants -/
def kc (d : D) : Ex := fun _ => .ok d
theorem te_c {v : V} {d : D} {K : PySem.W.Frag} {mg : Str → Option Value} (r : ∀ H, R K H v d) : TEok K mg E own (tC v) (kc d) := fun O H0 ρ σ H Q e w => w v H (Same.refl H) (r _)
theorem de_int {i : Int} {j pos} : DE X K mg E own (.Constant (.int i) j pos) (tC (.int i)) (kc (.int i)) := ⟨pe_int, te_c fun _ => .int i⟩
theorem de_bl {b : Bool} {j pos} : DE X K mg E own (.Constant (.bool b) j pos) (tC (.bl b)) (kc (.bool b)) := ⟨pe_bl, te_c fun _ => .bl b⟩
theorem de_non {j pos} : DE X K mg E own (.Constant .none j pos) (tC .non) (kc .none) := ⟨pe_non, te_c fun _ => .non⟩
theorem de_str {x : Str} {j pos} : DE X K mg E own (.Constant (.str x) j pos) (tC (.str x)) (kc (.str x)) := ⟨pe_str, te_c fun _ => .str x⟩
/-- a constant of the module: an int; a tuple -/
theorem de_glob {x : Str} {v : V} {u : Value} {d : D} {pos : Pos} (hg : Gl X x) (hm : X.mg x = some u) (r : RelV v u) (hr : ∀ H, R X.K H v d) (hd : (x == ("__debug__" : Str)) = false := by decide) (hK : X.K = K := by rfl) : DE X K mg E own (.Name x pos) (tC v) (kc d) := by
  subst hK
  exact ⟨pe_glob hg hm r hd, te_c hr⟩

/-! ### one, two, many in a row -/
def bin (fa fb : Ex) (op : D → D → Option D) : Ex := fun ρ => (fa ρ).bind fun a => (fb ρ).bind fun b => ofO (op a b)
def OpD (K : PySem.W.Frag) (r : R2) (op : D → D → Option D) : Prop :=
  ∀ (A : Addr → Prop) (H : Hp) (x y : V) (a b : D) (Q : VK), Dom A H → R K (Cut A H) x a → R K (Cut A H) y b → OkW (fun d => ∀ v H', Same H H' → R K (Cut A H') v d → Q v H') (op a b) → r x y H Q
/-- the left, the right one a container -/
def OpCL (K : PySem.W.Frag) (r : R2) (op : D → D → Option D) : Prop :=
  ∀ (A : Addr → Prop) (H : Hp) (x y : V) (a b : D) (Q : VK), Dom A H → CRep K (Cut A H) H x a → R K (Cut A H) y b → OkW (fun d => ∀ v H', Same H H' → R K (Cut A H') v d → Q v H') (op a b) → r x y H Q
def OpCR (K : PySem.W.Frag) (r : R2) (op : D → D → Option D) : Prop :=
  ∀ (A : Addr → Prop) (H : Hp) (x y : V) (a b : D) (Q : VK), Dom A H → R K (Cut A H) x a → CRep K (Cut A H) H y b → OkW (fun d => ∀ v H', Same H H' → R K (Cut A H') v d → Q v H') (op a b) → r x y H Q
theorem crep_same {K : PySem.W.Frag} {A : Addr → Prop} {H H' : Hp} {v : V} {d : D} (r : CRep K (Cut A H) H v d) (s : Same H H') : CRep K (Cut A H') H' v d := by
  cases r with
  | sh r => exact .sh (r.mono (cut_same s))
  | ow r => cases r with
    | lst q z => exact .ow (.lst (s _ _ q) (z.mono (cut_same s)))
    | dic q z => exact .ow (.dic (s _ _ q) (z.mono (cut_same s)))
section
variable {K : PySem.W.Frag} {mg : Str → Option Value} {ta tb : TE} {fa fb : Ex} {op : D → D → Option D} {r : R2}
theorem te_op (hr : OpD K r op) (ha : TEok K mg E own ta fa) (hb : TEok K mg E own tb fb) : TEok K mg E own (tOp r ta tb) (bin fa fb op) := fun O H0 ρ σ H Q e w => by
  unfold bin at w
  rw [resW_bind] at w
  refine ha O H0 ρ σ H _ e (w.mono (Same.refl H) fun a wa v1 H1 s1 r1 => ?_)
  rw [resW_bind] at wa
  refine hb O H0 ρ σ H1 _ (e.mono s1) (wa.mono s1 fun b wb v2 H2 s2 r2 => ?_)
  exact hr _ H2 v1 v2 a b Q (e.domA.same (s1.trans s2)) (r1.mono (cut_same s2)) r2 ((okW_of wb).mono fun d k v H' s r => k v H' ((s1.trans s2).trans s) r)
theorem te_opL (hr : OpCL K r op) (ha : TCok K mg E own ta fa) (hb : TEok K mg E own tb fb) : TEok K mg E own (tOp r ta tb) (bin fa fb op) := fun O H0 ρ σ H Q e w => by
  unfold bin at w
  rw [resW_bind] at w
  refine ha O H0 ρ σ H _ e (w.mono (Same.refl H) fun a wa v1 H1 s1 r1 => ?_)
  rw [resW_bind] at wa
  refine hb O H0 ρ σ H1 _ (e.mono s1) (wa.mono s1 fun b wb v2 H2 s2 r2 => ?_)
  exact hr _ H2 v1 v2 a b Q (e.domA.same (s1.trans s2)) (crep_same r1 s2) r2 ((okW_of wb).mono fun d k v H' s r => k v H' ((s1.trans s2).trans s) r)
theorem te_opR (hr : OpCR K r op) (ha : TEok K mg E own ta fa) (hb : TCok K mg E own tb fb) : TEok K mg E own (tOp r ta tb) (bin fa fb op) := fun O H0 ρ σ H Q e w => by
  unfold bin at w
  rw [resW_bind] at w
  refine ha O H0 ρ σ H _ e (w.mono (Same.refl H) fun a wa v1 H1 s1 r1 => ?_)
  rw [resW_bind] at wa
  refine hb O H0 ρ σ H1 _ (e.mono s1) (wa.mono s1 fun b wb v2 H2 s2 r2 => ?_)
  exact hr _ H2 v1 v2 a b Q (e.domA.same (s1.trans s2)) (r1.mono (cut_same s2)) r2 ((okW_of wb).mono fun d k v H' s r => k v H' ((s1.trans s2).trans s) r)
end
def aNil : Ax := fun _ => .ok []
def aCons (fa : Ex) (fr : Ax) : Ax := fun ρ => (fa ρ).bind fun a => (fr ρ).bind fun r => .ok (a :: r)
theorem da_nil : DA X K mg E own [] tNil aNil := ⟨pa_nil, fun O H0 ρ σ H Q e w => w [] H (Same.refl H) .nil⟩
theorem da_cons {e : Expr} {es : List Expr} {te : TE} {t : TA} {f : Ex} {g : Ax} (ha : DE X K mg E own e te f) (hr : DA X K mg E own es t g) (hs : starEach (e :: es) X.env = (false, eval e X.env) :: starEach es X.env := by rfl) : DA X K mg E own (e :: es) (tCons te t) (aCons f g) :=
  ⟨pa_cons ha.pe hr.pa hs, fun O H0 ρ σ H Q en w => by
    unfold aCons at w
    rw [resW_bind] at w
    refine ha.ok O H0 ρ σ H _ en (w.mono (Same.refl H) fun a wa v1 H1 s1 r1 => ?_)
    rw [resW_bind] at wa
    refine hr.ok O H0 ρ σ H1 _ (en.mono s1) (wa.mono s1 fun b wb vs H2 s2 r2 => ?_)
    exact wb (v1 :: vs) H2 (s1.trans s2) (.cons (r1.mono (cut_same s2)) r2)⟩

/-! ### displays -/
def mkTup (g : Ax) : Ex := fun ρ => (g ρ).bind fun ds => if ds.length ≤ sizeLine then .ok (.tuple ds) else .bad
def mkLst (g : Ax) : Ex := fun ρ => (g ρ).bind fun ds => if ds.length ≤ sizeLine then .ok (.list ds) else .bad
theorem de_tup {es : List Expr} {t : TA} {g : Ax} {x1 pos} (h : DA X K mg E own es t g) : DE X K mg E own (.Tuple es x1 pos) (tTup t) (mkTup g) :=
  ⟨pe_tup h.pa, fun O H0 ρ σ H Q en w => by
    unfold mkTup at w
    rw [resW_bind] at w
    refine h.ok O H0 ρ σ H _ en (w.mono (Same.refl H) fun ds wd vs H1 s1 r1 => ?_)
    by_cases c : ds.length ≤ sizeLine
    · rw [if_pos c] at wd
      refine ⟨by rw [r1.length]; exact c, fun p np => wd _ _ (s1.trans (same_new np)) (.tup (.inl (.inl (cut_new ?_))) (r1.mono (cut_same (same_new np))))⟩
      exact (en.domA.same s1).new np
    · rw [if_neg c] at wd; exact wd.elim⟩
theorem te_lst {K : PySem.W.Frag} {mg : Str → Option Value} {t : TA} {g : Ax} (h : TAok K mg E own t g) : TEok K mg E own (tLst t) (mkLst g) := fun O H0 ρ σ H Q en w => by
    unfold mkLst at w
    rw [resW_bind] at w
    refine h O H0 ρ σ H _ en (w.mono (Same.refl H) fun ds wd vs H1 s1 r1 => ?_)
    by_cases c : ds.length ≤ sizeLine
    · rw [if_pos c] at wd
      refine ⟨by rw [r1.length]; exact c, fun p np => wd _ _ (s1.trans (same_new np)) (.lst (cut_new ?_) (r1.mono (cut_same (same_new np))))⟩
      exact (en.domA.same s1).new np
    · rw [if_neg c] at wd; exact wd.elim
theorem de_lst {es : List Expr} {t : TA} {g : Ax} {pos} (h : DA X K mg E own es t g) : DE X K mg E own (.List es pos) (tLst t) (mkLst g) := ⟨pe_lst h.pa, te_lst h.ok⟩

/-! ### operators -/
variable {a b c : Expr} {ta tb : TE} {fa fb : Ex} {op : D → D → Option D} {r : R2} {pos : Pos}
theorem de_op {o : Operator} (ho : OpR X (binaryOp o) r) (hr : OpD K r op) (ha : DE X K mg E own a ta fa) (hb : DE X K mg E own b tb fb) : DE X K mg E own (.BinOp a o b pos) (tOp r ta tb) (bin fa fb op) :=
  ⟨pe_op ho ha.pe hb.pe, te_op hr ha.ok hb.ok⟩
theorem de_cmp {o : CmpOp} (ho : OpR X (compareOp o) r) (hr : OpD K r op) (ha : DE X K mg E own a ta fa) (hb : DE X K mg E own b tb fb) (hm : behindInMarks o b = false) : DE X K mg E own (.Compare a [o] [b] pos) (tOp r ta tb) (bin fa fb op) :=
  ⟨pe_cmpR ho ha.pe hb.pe hm, te_op hr ha.ok hb.ok⟩
theorem de_cmpC {o : CmpOp} (ho : OpR X (compareOp o) r) (hr : OpCR K r op) (ha : DE X K mg E own a ta fa) (hb : DC X K mg E own b tb fb) (hm : behindInMarks o b = false) : DE X K mg E own (.Compare a [o] [b] pos) (tOp r ta tb) (bin fa fb op) :=
  ⟨pe_cmpR ho ha.pe hb.pe hm, te_opR hr ha.ok hb.ok⟩
theorem de_ixC (ho : IxR X r) (hr : OpCL K r op) (ha : DC X K mg E own a ta fa) (hb : DE X K mg E own b tb fb) (hs : PlainIx b) : DE X K mg E own (.Subscript a b pos) (tOp r ta tb) (bin fa fb op) :=
  ⟨pe_ix ho ha.pe hb.pe hs, te_opL hr ha.ok hb.ok⟩

/-! ### tests -/
def asB (f : Ex) : Tx := fun ρ => (f ρ).bind fun d => match d with
  | .bool b => .ok b
  | _ => .bad
theorem dt_val {e : Expr} {t : TE} {f : Ex} (h : DE X K mg E own e t f) (he : ∀ whole, isTrue e X.env whole = (do let v ← whole; standAt e.pos; holding [v] (truthy v)) := by intro _; rfl) : DT X K mg E own e (tB t) (asB f) :=
  ⟨pt_val h.pe he, fun O H0 ρ σ H Q en w => by
    unfold asB at w
    rw [resW_bind] at w
    refine h.ok O H0 ρ σ H _ en (w.mono (Same.refl H) fun d wd v H1 s1 r1 => ?_)
    cases d <;> first | exact wd.elim | skip
    rw [r1.bool_of]
    exact ⟨_, rfl, wd H1 s1⟩⟩
def andT (f g : Tx) : Tx := fun ρ => (f ρ).bind fun b => if b = true then g ρ else .ok false
def orT (f g : Tx) : Tx := fun ρ => (f ρ).bind fun b => if b = true then .ok true else g ρ
def notT (f : Tx) : Tx := fun ρ => (f ρ).bind fun b => .ok (!b)
variable {rest : List Expr} {tt tu : TT} {f g : Tx}
theorem dw_and1 (ha : DT X K mg E own a tt f) : DW X K mg E own (.BoolOp .And [a] pos) tt f := ⟨pw_and1 ha.pt, ha.ok⟩
theorem dw_or1 (ha : DT X K mg E own a tt f) : DW X K mg E own (.BoolOp .Or [a] pos) tt f := ⟨pw_or1 ha.pt, ha.ok⟩
theorem dw_and (ha : DT X K mg E own a tt f) (hb : DW X K mg E own (.BoolOp .And (b :: rest) pos) tu g) : DW X K mg E own (.BoolOp .And (a :: b :: rest) pos) (tAnd tt tu) (andT f g) :=
  ⟨pw_and ha.pt hb.pw, fun O H0 ρ σ H Q en w => by
    unfold andT at w
    rw [resW_bind] at w
    refine ha.ok O H0 ρ σ H _ en (w.mono (Same.refl H) fun k wk H1 s1 => ?_)
    cases k with
    | true => exact iteT (hb.ok O H0 ρ σ H1 _ (en.mono s1) ((show ResW _ _ _ _ (g ρ) from wk).mono s1 fun k h H' s => h H' (s1.trans s)))
    | false => exact iteF (show _ from wk H1 s1)⟩
theorem dw_or (ha : DT X K mg E own a tt f) (hb : DW X K mg E own (.BoolOp .Or (b :: rest) pos) tu g) : DW X K mg E own (.BoolOp .Or (a :: b :: rest) pos) (tOr tt tu) (orT f g) :=
  ⟨pw_or ha.pt hb.pw, fun O H0 ρ σ H Q en w => by
    unfold orT at w
    rw [resW_bind] at w
    refine ha.ok O H0 ρ σ H _ en (w.mono (Same.refl H) fun k wk H1 s1 => ?_)
    cases k with
    | false => exact iteF (hb.ok O H0 ρ σ H1 _ (en.mono s1) ((show ResW _ _ _ _ (g ρ) from wk).mono s1 fun k h H' s => h H' (s1.trans s)))
    | true => exact iteT (show _ from wk H1 s1)⟩
theorem dt_w {e : Expr} (h : DW X K mg E own e tt f) : DT X K mg E own e tt f := ⟨h.pw.pt, h.ok⟩
theorem dt_not (ha : DT X K mg E own a tt f) : DT X K mg E own (.UnaryOp .Not a pos) (tNot tt) (notT f) :=
  ⟨pt_not ha.pt, fun O H0 ρ σ H Q en w => by
    unfold notT at w
    rw [resW_bind] at w
    exact ha.ok O H0 ρ σ H _ en (w.mono (Same.refl H) fun k wk H1 s1 => wk H1 s1)⟩
/-- .. as values -/
def andV (fa fb : Ex) : Ex := fun ρ => (fa ρ).bind fun d => match d with
  | .bool true => fb ρ
  | .bool false => .ok (.bool false)
  | _ => .bad
def orV (fa fb : Ex) : Ex := fun ρ => (fa ρ).bind fun d => match d with
  | .bool true => .ok (.bool true)
  | .bool false => fb ρ
  | _ => .bad
def notV (fa : Ex) : Ex := fun ρ => (fa ρ).bind fun d => match d with
  | .bool b => .ok (.bool (!b))
  | _ => .bad
theorem de_one {o : BoolOp} (h : DE X K mg E own a ta fa) : DE X K mg E own (.BoolOp o [a] pos) ta fa := ⟨pe_one h.pe, h.ok⟩
theorem de_and (ha : DE X K mg E own a ta fa) (hb : DE X K mg E own (.BoolOp .And (b :: rest) pos) tb fb) : DE X K mg E own (.BoolOp .And (a :: b :: rest) pos) (tAndV ta tb) (andV fa fb) :=
  ⟨pe_and ha.pe hb.pe, fun O H0 ρ σ H Q en w => by
    unfold andV at w
    rw [resW_bind] at w
    refine ha.ok O H0 ρ σ H _ en (w.mono (Same.refl H) fun d wd v H1 s1 r1 => ?_)
    cases d <;> first | exact wd.elim | skip
    rename_i k
    rw [r1.bool_of]
    refine ⟨k, rfl, ?_⟩
    cases k with
    | true => exact iteT (hb.ok O H0 ρ σ H1 _ (en.mono s1) (ResW.mono wd s1 fun k h v H' s => h v H' (s1.trans s)))
    | false => exact iteF (wd _ H1 s1 (.bl false))⟩
theorem de_or (ha : DE X K mg E own a ta fa) (hb : DE X K mg E own (.BoolOp .Or (b :: rest) pos) tb fb) : DE X K mg E own (.BoolOp .Or (a :: b :: rest) pos) (tOrV ta tb) (orV fa fb) :=
  ⟨pe_or ha.pe hb.pe, fun O H0 ρ σ H Q en w => by
    unfold orV at w
    rw [resW_bind] at w
    refine ha.ok O H0 ρ σ H _ en (w.mono (Same.refl H) fun d wd v H1 s1 r1 => ?_)
    cases d <;> first | exact wd.elim | skip
    rename_i k
    rw [r1.bool_of]
    refine ⟨k, rfl, ?_⟩
    cases k with
    | false => exact iteF (hb.ok O H0 ρ σ H1 _ (en.mono s1) (ResW.mono wd s1 fun k h v H' s => h v H' (s1.trans s)))
    | true => exact iteT (wd _ H1 s1 (.bl true))⟩
theorem de_not (ha : DE X K mg E own a ta fa) : DE X K mg E own (.UnaryOp .Not a pos) (tNotV ta) (notV fa) :=
  ⟨pe_not ha.pe, fun O H0 ρ σ H Q en w => by
    unfold notV at w
    rw [resW_bind] at w
    refine ha.ok O H0 ρ σ H _ en (w.mono (Same.refl H) fun d wd v H1 s1 r1 => ?_)
    cases d <;> first | exact wd.elim | skip
    rename_i k
    rw [r1.bool_of]
    exact ⟨k, rfl, wd _ H1 s1 (.bl _)⟩⟩
end
end DL
end

section
set_option Elab.async false
set_option linter.all false
set_option maxRecDepth 100000
set_option maxHeartbeats 2000000
set_option autoImplicit false
/-! DL3: the operations on data. -/
namespace DL
open PySem PySem.Spec PyProof.Rows L2

theorem OkW.of_some {α : Type} {P : α → Prop} {x : Option α} (h : OkW P x) : ∃ a, x = some a ∧ P a := by
  cases x with
  | some a => exact ⟨a, rfl, h⟩
  | none => exact h.elim
theorem okW_if {α : Type} {P : α → Prop} {c : Prop} [Decidable c] {a : α} (h : OkW P (if c then some a else none)) : c ∧ P a := by
  by_cases k : c
  · rw [if_pos k] at h; exact ⟨k, h⟩
  · rw [if_neg k] at h; exact h.elim

/-! ### numbers, texts, + -/
def dAdd : D → D → Option D
  | .int i, .int j => some (.int (i + j))
  | .str x, .str y => if x.length + y.length ≤ sizeLine then some (.str (x ++ y)) else none
  | .list xs, .list ys => if xs.length + ys.length ≤ sizeLine then some (.list (xs ++ ys)) else none
  | .tuple xs, .tuple ys => if xs.length + ys.length ≤ sizeLine then some (.tuple (xs ++ ys)) else none
  | _, _ => none
def rAddD (K : PySem.W.Frag) : R2 := fun x y H Q => (rI0 fun i j => V.int (i + j)) x y H Q ∨ (∃ i j, x = .str i ∧ y = .str j ∧ i.length + j.length ≤ sizeLine ∧ Q (.str (i ++ j)) H) ∨ rCat x y H Q ∨ rCatA K x y H Q
theorem op_addD {X : Cx} : OpR X (binaryOp .Add) (rAddD X.K) := op_add.or (op_add_str.or (op_cat.or op_catA))
theorem od_add {K : PySem.W.Frag} : OpD K (rAddD K) dAdd := by
  intro A H x y a b Q dom ra rb w
  unfold dAdd at w
  split at w
  · rw [ra.int_of, rb.int_of]
    exact .inl ⟨_, _, rfl, rfl, w _ H (Same.refl H) (.int _)⟩
  · obtain ⟨c, w⟩ := okW_if w
    rw [ra.str_of, rb.str_of]
    exact .inr (.inl ⟨_, _, rfl, rfl, c, w _ H (Same.refl H) (.str _)⟩)
  · obtain ⟨c, w⟩ := okW_if w
    obtain ⟨l, xs, rfl, h1, r1⟩ := ra.list_of
    obtain ⟨l2, ys, rfl, h2, r2⟩ := rb.list_of
    refine .inr (.inr (.inl ⟨l, l2, xs, ys, rfl, rfl, cut_sub _ _ h1, cut_sub _ _ h2, by rw [r1.length, r2.length]; exact c, fun p np => ?_⟩))
    exact w _ _ (same_new np) (.lst (cut_new (dom.new np)) ((r1.append r2).mono (cut_same (same_new np))))
  · obtain ⟨c, w⟩ := okW_if w
    obtain ⟨l, xs, rfl, h1, r1⟩ := ra.tuple_of
    obtain ⟨l2, ys, rfl, h2, r2⟩ := rb.tuple_of
    refine .inr (.inr (.inr ⟨l, l2, xs, ys, rfl, rfl, sqT_same cut_sub h1, sqT_same cut_sub h2, by rw [r1.length, r2.length]; exact c, fun e => ?_, fun _ e => ?_, fun _ _ p np => ?_⟩))
    · subst e
      cases r1
      exact w _ H (Same.refl H) (.tup h2 r2)
    · subst e
      cases r2
      exact w _ H (Same.refl H) (.tup h1 (by rw [List.append_nil]; exact r1))
    · exact w _ _ (same_new np) (.tup (.inl (.inl (cut_new (dom.new np)))) ((r1.append r2).mono (cut_same (same_new np))))
  · exact w.elim
def dSub : D → D → Option D
  | .int i, .int j => some (.int (i - j))
  | _, _ => none
theorem od_sub {K : PySem.W.Frag} : OpD K (rI0 fun i j => .int (i - j)) dSub := by
  intro A H x y a b Q dom ra rb w
  unfold dSub at w
  split at w
  · rw [ra.int_of, rb.int_of]
    exact ⟨_, _, rfl, rfl, w _ H (Same.refl H) (.int _)⟩
  · exact w.elim
/-- the model's own bound on a product -/
def mulOk (i j : Int) : Bool := !(decide (Builtin.Int.intBits i > shortFactorBits) && decide (Builtin.Int.intBits j > shortFactorBits) && Builtin.Int.intTooBig (Builtin.Int.intBits i + Builtin.Int.intBits j))
theorem mulOk_iff {i j : Int} : mulOk i j = true ↔ IntMulOk i j := by
  unfold mulOk IntMulOk
  rw [Bool.not_eq_true', Bool.not_eq_true]
def dMul : D → D → Option D
  | .int i, .int j => if mulOk i j = true then some (.int (i * j)) else none
  | .tuple xs, .int k => if xs ≠ [] ∧ 2 ≤ k ∧ k ≤ 1000 ∧ xs.length ≤ 1000 then some (.tuple (List.replicate k.toNat xs).flatten) else none
  | .list xs, .int k => if 0 ≤ k ∧ k ≤ 1000 ∧ xs.length ≤ 1000 then some (.list (List.replicate k.toNat xs).flatten) else none
  | _, _ => none
def rMulD (K : PySem.W.Frag) : R2 := fun x y H Q => (rI IntMulOk fun i j => V.int (i * j)) x y H Q ∨ rRepT K x y H Q ∨ rRep x y H Q
theorem op_mulA {X : Cx} : OpR X (binaryOp .Mult) (rI IntMulOk fun i j => .int (i * j)) := opI fun _ _ _ _ _ _ _ hc q => mul_int q hc
theorem op_mulD {X : Cx} : OpR X (binaryOp .Mult) (rMulD X.K) := op_mulA.or (op_repT.or op_rep)
theorem RAll.rep {K : PySem.W.Frag} {H : Hp} {vs : List V} {ds : List D} (h : RAll K H vs ds) : ∀ n : Nat, RAll K H (List.replicate n vs).flatten (List.replicate n ds).flatten
  | 0 => .nil
  | n + 1 => by
    rw [List.replicate_succ, List.replicate_succ, List.flatten_cons, List.flatten_cons]
    exact h.append (RAll.rep h n)
theorem line_le {n : Nat} (h : n ≤ 16000000) : n ≤ sizeLine := by rw [sizeLine_eq]; omega
theorem od_mul {K : PySem.W.Frag} : OpD K (rMulD K) dMul := by
  intro A H x y a b Q dom ra rb w
  unfold dMul at w
  split at w
  · obtain ⟨c, w⟩ := okW_if w
    rw [ra.int_of, rb.int_of]
    exact .inl ⟨_, _, rfl, rfl, mulOk_iff.mp c, w _ H (Same.refl H) (.int _)⟩
  · obtain ⟨⟨c0, c1, c2, c3⟩, w⟩ := okW_if w
    obtain ⟨l, xs, rfl, h1, r1⟩ := ra.tuple_of
    rw [rb.int_of]
    refine .inr (.inl ⟨l, _, xs, rfl, rfl, sqT_same cut_sub h1, fun e => c0 ?_, c1, c2, by rw [r1.length]; exact c3, fun p np => ?_⟩)
    · subst e; cases r1; rfl
    · exact w _ _ (same_new np) (.tup (.inl (.inl (cut_new (dom.new np)))) ((r1.rep _).mono (cut_same (same_new np))))
  · obtain ⟨⟨c1, c2, c3⟩, w⟩ := okW_if w
    obtain ⟨l, xs, rfl, h1, r1⟩ := ra.list_of
    rw [rb.int_of]
    rename_i ys k _
    refine .inr (.inr ⟨l, _, xs, rfl, rfl, cut_sub _ _ h1, by omega, by omega, ?_, fun p np => ?_⟩)
    · rw [r1.length]
      refine line_le ?_
      have h2 : k.toNat ≤ 1000 := by omega
      have := Nat.mul_le_mul c3 h2
      omega
    · exact w _ _ (same_new np) (.lst (cut_new (dom.new np)) ((r1.rep _).mono (cut_same (same_new np))))
  · exact w.elim
def dDiv : D → D → Option D
  | .int i, .int j => if j ≠ 0 ∧ Builtin.divisionGoesByPylong i j = false then some (.int (i.fdiv j)) else none
  | _, _ => none
theorem op_divD {X : Cx} : OpR X (binaryOp .FloorDiv) (rI (fun i j => j ≠ 0 ∧ Builtin.divisionGoesByPylong i j = false) fun i j => .int (i.fdiv j)) := opI fun _ _ _ _ _ _ _ hc q => floordiv_int hc.1 q (.inl hc.2)
theorem od_div {K : PySem.W.Frag} : OpD K (rI (fun i j => j ≠ 0 ∧ Builtin.divisionGoesByPylong i j = false) fun i j => .int (i.fdiv j)) dDiv := by
  intro A H x y a b Q dom ra rb w
  unfold dDiv at w
  split at w
  · obtain ⟨c, w⟩ := okW_if w
    rw [ra.int_of, rb.int_of]
    exact ⟨_, _, rfl, rfl, c, w _ H (Same.refl H) (.int _)⟩
  · exact w.elim
def dMod : D → D → Option D
  | .int i, .int j => if j ≠ 0 then some (.int (i.fmod j)) else none
  | _, _ => none
theorem od_mod {K : PySem.W.Frag} : OpD K (rI (fun _ j => j ≠ 0) fun i j => .int (i.fmod j)) dMod := by
  intro A H x y a b Q dom ra rb w
  unfold dMod at w
  split at w
  · obtain ⟨c, w⟩ := okW_if w
    rw [ra.int_of, rb.int_of]
    exact ⟨_, _, rfl, rfl, c, w _ H (Same.refl H) (.int _)⟩
  · exact w.elim
def dPow : D → D → Option D
  | .int i, .int j => if 0 ≤ j ∧ j ≤ 1000 ∧ i.natAbs < 1000 then some (.int (i ^ j.toNat)) else none
  | _, _ => none
theorem od_pow {K : PySem.W.Frag} : OpD K (rI CPow fun i j => .int (i ^ j.toNat)) dPow := by
  intro A H x y a b Q dom ra rb w
  unfold dPow at w
  split at w
  · obtain ⟨⟨c1, c2, c3⟩, w⟩ := okW_if w
    rw [ra.int_of, rb.int_of]
    refine ⟨_, _, rfl, rfl, ⟨c1, by omega, Nat.lt_trans c3 (by decide)⟩, w _ H (Same.refl H) (.int _)⟩
  · exact w.elim
def dCmp (p : Int → Int → Bool) : D → D → Option D
  | .int i, .int j => some (.bool (p i j))
  | _, _ => none
theorem od_cmp {K : PySem.W.Frag} (p : Int → Int → Bool) : OpD K (rI0 fun i j => .bl (p i j)) (dCmp p) := by
  intro A H x y a b Q dom ra rb w
  unfold dCmp at w
  split at w
  · rw [ra.int_of, rb.int_of]
    exact ⟨_, _, rfl, rfl, w _ H (Same.refl H) (.bl _)⟩
  · exact w.elim
abbrev dLt : D → D → Option D := dCmp fun i j => decide (i < j)
abbrev dLe : D → D → Option D := dCmp fun i j => decide (i ≤ j)
abbrev dGt : D → D → Option D := dCmp fun i j => decide (j < i)
abbrev dGe : D → D → Option D := dCmp fun i j => decide (j ≤ i)

/-! ### == and != -/
/-- the script is a list, where it is compared -/
def deScr : D → D
  | .dict [(.none, .list ds)] => .list ds
  | d => d
def dEq (a b : D) : Option D := if SeqAt.shaped (deScr a) = true ∧ SeqAt.shaped b = true then some (.bool (PyData.eqv (deScr a) b)) else none
def dNe (a b : D) : Option D := if SeqAt.shaped a = true ∧ SeqAt.shaped b = true then some (.bool (!PyData.eqv a b)) else none
theorem Dp_mono {K : PySem.W.Frag} {C H : Hp} (s : Same C H) {v : V} {d : D} (r : R K C v d) (h : SeqAt.shaped d = true) : Dp K H v d := (r.mono s).dp (SeqAt.canLay_of_shaped h)
theorem DpAll_ints {K : PySem.W.Frag} {H : Hp} : ∀ ns : List Int, DpAll K H (ns.map V.int) (ns.map PyData.int)
  | [] => .nil
  | n :: r => .cons (.int n) (DpAll_ints r)
theorem deScr_dp {K : PySem.W.Frag} {C H : Hp} (s : Same C H) {v : V} {d : D} (r : R K C v d) (h : SeqAt.shaped (deScr d) = true) : Dp K H v (deScr d) := by
  cases r with
  | scr q => exact .lst (s.seq q) (DpAll_ints _)
  | dic q r =>
    exfalso
    rename_i kvs ds
    have e : deScr (.dict ds) = .dict ds := by
      cases r with
      | nil => rfl
      | cons a b =>
        rename_i k _ _ _ _
        cases k <;> rfl
    rw [e] at h
    have := SeqAt.canLay_of_shaped h
    simp [PyData.canLay0] at this
  | fdic q r =>
    exfalso
    rename_i kvs ds
    have e : deScr (.dict ds) = .dict ds := by
      cases r with
      | nil => rfl
      | cons a b =>
        rename_i k _ _ _ _
        cases k <;> rfl
    rw [e] at h
    have := SeqAt.canLay_of_shaped h
    simp [PyData.canLay0] at this
  | non => exact Dp_mono s .non h
  | bl b => exact Dp_mono s (.bl b) h
  | int i => exact Dp_mono s (.int i) h
  | str x => exact Dp_mono s (.str x) h
  | lst a b => exact Dp_mono s (.lst a b) h
  | tup a b => exact Dp_mono s (.tup a b) h
theorem od_eq {K : PySem.W.Frag} : OpD K (rEqD K) dEq := by
  intro A H x y a b Q dom ra rb w
  obtain ⟨⟨c1, c2⟩, w⟩ := okW_if w
  exact ⟨deScr a, b, deScr_dp cut_sub ra c1, Dp_mono cut_sub rb c2, c1, c2, w _ H (Same.refl H) (.bl _)⟩
theorem od_ne {K : PySem.W.Frag} : OpD K (rNeD K) dNe := by
  intro A H x y a b Q dom ra rb w
  obtain ⟨⟨c1, c2⟩, w⟩ := okW_if w
  exact ⟨a, b, Dp_mono cut_sub ra c1, Dp_mono cut_sub rb c2, c1, c2, w _ H (Same.refl H) (.bl _)⟩
def isN : D → Bool
  | .none => true
  | _ => false
def dIs (a b : D) : Option D := if isN b = true then some (.bool (isN a)) else none
def dIsNot (a b : D) : Option D := if isN b = true then some (.bool (!isN a)) else none
theorem R.isN {K : PySem.W.Frag} {H : Hp} {v : V} {d : D} (r : R K H v d) : decide (v = V.non) = DL.isN d := by cases r <;> first | rfl | exact decide_eq_false (fun e => nomatch e)
theorem isN_of {d : D} (h : isN d = true) : d = .none := by cases d <;> first | rfl | cases h
theorem od_is {K : PySem.W.Frag} : OpD K (fun x y H Q => y = .non ∧ Q (.bl (decide (x = .non))) H) dIs := by
  intro A H x y a b Q dom ra rb w
  obtain ⟨c, w⟩ := okW_if w
  have e := isN_of c
  subst e
  refine ⟨rb.none_of, ?_⟩
  rw [ra.isN]
  exact w _ H (Same.refl H) (.bl _)
theorem od_isnot {K : PySem.W.Frag} : OpD K (fun x y H Q => y = .non ∧ Q (.bl (!decide (x = .non))) H) dIsNot := by
  intro A H x y a b Q dom ra rb w
  obtain ⟨c, w⟩ := okW_if w
  have e := isN_of c
  subst e
  refine ⟨rb.none_of, ?_⟩
  rw [ra.isN]
  exact w _ H (Same.refl H) (.bl _)

/-! ### dicts -/
def keyOf : D → Option Key
  | .int i => some (.inl i)
  | .str x => some (.inr x)
  | _ => none
theorem keyOf_keyD (k : Key) : keyOf (keyD k) = some k := by cases k <;> rfl
def lookD (kvs : List (D × D)) (k : Key) : Option D := (kvs.find? fun p => decide (keyOf p.1 = some k)).map (·.2)
def putD (kvs : List (D × D)) (k : Key) (v : D) : List (D × D) :=
  if (kvs.any fun p => decide (keyOf p.1 = some k)) = true then kvs.map (fun p => if keyOf p.1 = some k then (p.1, v) else p) else kvs ++ [(keyD k, v)]
section
variable {K : PySem.W.Frag} {H : Hp}
theorem R.key {v : V} {d : D} {k : Key} (r : R K H v d) (h : keyOf d = some k) : v = kV k := by
  cases r <;> first | (cases h; rfl) | cases h
theorem RKV.length : ∀ {kvs : List (Key × V)} {ds : List (D × D)}, RKV K H kvs ds → kvs.length = ds.length
  | _, _, .nil => rfl
  | _, _, .cons _ r => by rw [List.length_cons, List.length_cons, RKV.length r]
theorem RKV.look (k : Key) : ∀ {kvs : List (Key × V)} {ds : List (D × D)}, RKV K H kvs ds → (valV kvs k = none ∧ lookD ds k = none) ∨ ∃ v d, valV kvs k = some v ∧ lookD ds k = some d ∧ R K H v d
  | _, _, .nil => .inl ⟨rfl, rfl⟩
  | _, _, .cons (k := j) (v := v) (kvs := kvs) (d := d) (ds := ds) r t => by
    by_cases e : j = k
    · exact .inr ⟨v, d, valV_pos e, by simp [lookD, keyOf_keyD, e], r⟩
    · have h1 : valV ((j, v) :: kvs) k = valV kvs k := valV_neg e
      have h2 : lookD ((keyD j, d) :: ds) k = lookD ds k := by simp [lookD, keyOf_keyD, e]
      rw [h1, h2]
      exact RKV.look k t
theorem RKV.any (k : Key) : ∀ {kvs : List (Key × V)} {ds : List (D × D)}, RKV K H kvs ds → (kvs.any fun p => decide (p.1 = k)) = ds.any fun p => decide (keyOf p.1 = some k)
  | _, _, .nil => rfl
  | _, _, .cons (k := j) r t => by
    rw [List.any_cons, List.any_cons, RKV.any k t]
    simp [keyOf_keyD]
theorem RKV.repl (k : Key) {y : V} {z : D} (ry : R K H y z) : ∀ {kvs : List (Key × V)} {ds : List (D × D)}, RKV K H kvs ds → RKV K H (kvs.map fun p => if p.1 = k then (p.1, y) else p) (ds.map fun p => if keyOf p.1 = some k then (p.1, z) else p)
  | _, _, .nil => .nil
  | _, _, .cons (k := j) r t => by
    rw [List.map_cons, List.map_cons]
    by_cases e : j = k
    · subst e
      simp only [keyOf_keyD, if_true]
      exact .cons ry (RKV.repl j ry t)
    · have e' : ¬ some j = some k := fun z => e (Option.some.inj z)
      simp only [keyOf_keyD, e, e', if_false]
      exact .cons r (RKV.repl k ry t)
theorem RKV.append : ∀ {kvs kvs' : List (Key × V)} {ds ds' : List (D × D)}, RKV K H kvs ds → RKV K H kvs' ds' → RKV K H (kvs ++ kvs') (ds ++ ds')
  | _, _, _, _, .nil, s => s
  | _, _, _, _, .cons r t, s => .cons r (RKV.append t s)
theorem RKV.put {k : Key} {y : V} {z : D} (ry : R K H y z) {kvs : List (Key × V)} {ds : List (D × D)} (h : RKV K H kvs ds) : RKV K H (putK kvs k y) (putD ds k z) := by
  unfold putK putD
  rw [h.any k]
  split
  · exact h.repl k ry
  · exact h.append (.cons ry .nil)
theorem RKV.keys : ∀ {kvs : List (Key × V)} {ds : List (D × D)}, RKV K H kvs ds → RAll K H (kvs.map fun p => kV p.1) (ds.map (·.1))
  | _, _, .nil => .nil
  | _, _, .cons (k := j) r t => by
    refine .cons ?_ (RKV.keys t)
    cases j with
    | inl i => exact .int i
    | inr x => exact .str x
theorem RKV.vals : ∀ {kvs : List (Key × V)} {ds : List (D × D)}, RKV K H kvs ds → RAll K H (kvs.map fun p => p.2) (ds.map (·.2))
  | _, _, .nil => .nil
  | _, _, .cons r t => .cons r (RKV.vals t)
end

/-! ### in -/
def dHas : D → D → Option Bool
  | d, .list ds => if SeqAt.shaped d = true ∧ SeqAt.shaped (.list ds) = true then some (ds.any fun z => PyData.eqv z d) else none
  | d, .dict kvs => if isDic kvs = true then (keyOf d).map fun k => (lookD kvs k).isSome else none
  | .str x, .str y => some (!(Builtin.Str.occurrences y x 0 y.length 1).isEmpty)
  | _, _ => none
def dIn (a b : D) : Option D := (dHas a b).map .bool
def dNotIn (a b : D) : Option D := (dHas a b).map fun c => .bool (!c)
def rInDic : R2 := fun x y H Q => ∃ a o, y = .ref a ∧ DGet H a x o ∧ Q (.bl o.isSome) H
def rNotInDic : R2 := fun x y H Q => ∃ a o, y = .ref a ∧ DGet H a x o ∧ Q (.bl (!o.isSome)) H
theorem op_inDic {X : Cx} (hu : X.A.units + 1 < cLine) : OpR X (compareOp .In) rInDic := by
  intro pins s σ H x y v u Q I rx ry h
  obtain ⟨a, o, rfl, g, q⟩ := h
  cases ry
  exact d_in hu I g rx fun s' I' => ⟨.bl o.isSome, H, I', rfl, q⟩
theorem op_notInDic {X : Cx} (hu : X.A.units + 1 < cLine) : OpR X (compareOp .NotIn) rNotInDic := by
  intro pins s σ H x y v u Q I rx ry h
  obtain ⟨a, o, rfl, g, q⟩ := h
  cases ry
  exact d_notIn hu I g rx fun s' I' => ⟨.bl (!o.isSome), H, I', rfl, q⟩
def rInA (K : PySem.W.Frag) : R2 := fun x y H Q => rInD K x y H Q ∨ rInDic x y H Q ∨ ∃ i j, x = .str i ∧ y = .str j ∧ Q (.bl (!(Builtin.Str.occurrences j i 0 j.length 1).isEmpty)) H
def rNotInA (K : PySem.W.Frag) : R2 := fun x y H Q => rNotInD K x y H Q ∨ rNotInDic x y H Q ∨ ∃ i j, x = .str i ∧ y = .str j ∧ Q (.bl (!(!(Builtin.Str.occurrences j i 0 j.length 1).isEmpty))) H
theorem op_inA {X : Cx} (hu : X.A.units + 65 < cLine) : OpR X (compareOp .In) (rInA X.K) := (op_inD hu).or ((op_inDic (by omega)).or op_in_str)
theorem op_notInA {X : Cx} (hu : X.A.units + 65 < cLine) : OpR X (compareOp .NotIn) (rNotInA X.K) := (op_notInD hu).or ((op_notInDic (by omega)).or op_notin_str)
theorem CRep.dp {K : PySem.W.Frag} {A : Addr → Prop} {H : Hp} {v : V} {ds : List D} (h : CRep K (Cut A H) H v (.list ds)) (c : SeqAt.shaped (.list ds) = true) : Dp K H v (.list ds) := by
  obtain ⟨a, xs, rfl, q, r⟩ := h.list_of cut_sub
  refine .lst (.of q) ((r.mono cut_sub).dp ?_)
  have := SeqAt.canLay_of_shaped c
  simpa [PyData.canLay0] using this
theorem dget_of {K : PySem.W.Frag} {C H : Hp} {a : Addr} {kvs : List (Key × V)} {ds : List (D × D)} {k : Key} (h : Rd H a (.dK kvs)) (r : RKV K C kvs ds) :
    ∃ o, DGet H a (kV k) o ∧ o.isSome = (lookD ds k).isSome := by
  refine ⟨valV kvs k, .inl ⟨kvs, k, h, rfl, rfl⟩, ?_⟩
  rcases r.look k with ⟨e1, e2⟩ | ⟨v, d, e1, e2, _⟩ <;> rw [e1, e2] <;> rfl
theorem oc_in {K : PySem.W.Frag} : OpCR K (rInA K) dIn := by
  intro A H x y a b Q dom ra rb w
  unfold dIn at w
  obtain ⟨r, e, w2⟩ := OkW.of_some w
  clear w
  obtain ⟨c, e2, rfl⟩ := Option.map_eq_some_iff.mp e
  unfold dHas at e2
  split at e2
  · split at e2
    · rename_i k
      cases e2
      exact .inl ⟨_, _, Dp_mono cut_sub ra k.1, rb.dp k.2, k.1, k.2, w2 _ H (Same.refl H) (.bl _)⟩
    · cases e2
  · split at e2
    · rename_i hd
      obtain ⟨k, hk, e3⟩ := Option.map_eq_some_iff.mp e2
      obtain ⟨p, kvs, rfl, q, r⟩ := rb.dict_of cut_sub hd
      obtain ⟨o, g, ho⟩ := dget_of (k := k) q r
      refine .inr (.inl ⟨p, o, rfl, by rw [ra.key hk]; exact g, ?_⟩)
      rw [ho, e3]
      exact w2 _ H (Same.refl H) (.bl _)
    · cases e2
  · cases e2
    exact .inr (.inr ⟨_, _, ra.str_of, rb.str_of, w2 _ H (Same.refl H) (.bl _)⟩)
  · cases e2
theorem oc_notin {K : PySem.W.Frag} : OpCR K (rNotInA K) dNotIn := by
  intro A H x y a b Q dom ra rb w
  unfold dNotIn at w
  obtain ⟨r, e, w2⟩ := OkW.of_some w
  clear w
  obtain ⟨c, e2, rfl⟩ := Option.map_eq_some_iff.mp e
  unfold dHas at e2
  split at e2
  · split at e2
    · rename_i k
      cases e2
      exact .inl ⟨_, _, Dp_mono cut_sub ra k.1, rb.dp k.2, k.1, k.2, w2 _ H (Same.refl H) (.bl _)⟩
    · cases e2
  · split at e2
    · rename_i hd
      obtain ⟨k, hk, e3⟩ := Option.map_eq_some_iff.mp e2
      obtain ⟨p, kvs, rfl, q, r⟩ := rb.dict_of cut_sub hd
      obtain ⟨o, g, ho⟩ := dget_of (k := k) q r
      refine .inr (.inl ⟨p, o, rfl, by rw [ra.key hk]; exact g, ?_⟩)
      rw [ho, e3]
      exact w2 _ H (Same.refl H) (.bl _)
    · cases e2
  · cases e2
    exact .inr (.inr ⟨_, _, ra.str_of, rb.str_of, w2 _ H (Same.refl H) (.bl _)⟩)
  · cases e2

/-! ### items -/
def allI : List D → Option (List Int)
  | [] => some []
  | .int b :: r => (allI r).map (b :: ·)
  | _ => none
theorem allI_map (bs : List Int) : allI (bs.map .int) = some bs := by
  induction bs with
  | nil => rfl
  | cons b r ih => show (allI (r.map .int)).map (b :: ·) = _; rw [ih]; rfl
theorem RAll.ints {K : PySem.W.Frag} {H : Hp} : ∀ {vs : List V} {ds : List D} {bs : List Int}, RAll K H vs ds → allI ds = some bs → vs = bs.map V.int
  | _, _, _, .nil, h => by cases h; rfl
  | _, _, bs, .cons (d := d) (ds := ds) r t, h => by
    cases d <;> first | cases h | skip
    rename_i k
    have h' : (allI ds).map (k :: ·) = some bs := h
    obtain ⟨cs, e, rfl⟩ := Option.map_eq_some_iff.mp h'
    rw [r.int_of, RAll.ints t e]
    rfl
theorem RAll.ofInts {K : PySem.W.Frag} {H : Hp} : ∀ ns : List Int, RAll K H (ns.map V.int) (ns.map PyData.int)
  | [] => .nil
  | n :: r => .cons (.int n) (RAll.ofInts r)
def dIx : D → D → Option D
  | .list ds, .int i => atI ds i
  | .tuple ds, .int i => atI ds i
  | .str z, .int i => if z.length ≤ sizeLine then (atI z.cps.toList i).map fun c => .str ⟨#[c]⟩ else none
  | .dict [(.none, .list ds)], .int i => (allI ds).bind fun ns => (atI ns i).map .int
  | _, _ => none
theorem RAll.atI {K : PySem.W.Frag} {H : Hp} {vs : List V} {ds : List D} {i : Int} {d : D} (r : RAll K H vs ds) (h : L2.atI ds i = some d) : ∃ v, L2.atI vs i = some v ∧ R K H v d := by
  unfold L2.atI at h ⊢
  rw [r.length]
  obtain ⟨j, e1, e2⟩ := Option.bind_eq_some_iff.mp h
  obtain ⟨v, a, b⟩ := r.get e2
  exact ⟨v, by rw [e1]; exact a, b⟩
theorem allI_eq : ∀ {ds : List D} {ns : List Int}, allI ds = some ns → ds = ns.map PyData.int
  | [], ns, h => by cases h; rfl
  | d :: ds, ns, h => by
    cases d <;> first | cases h | skip
    rename_i k
    have h' : (allI ds).map (k :: ·) = some ns := h
    obtain ⟨cs, e, rfl⟩ := Option.map_eq_some_iff.mp h'
    rw [allI_eq e]
    rfl
theorem CRep.scr_of {K : PySem.W.Frag} {C H : Hp} {v : V} {ds : List D} {ns : List Int} (h : CRep K C H v (.dict [(.none, .list ds)])) (s : Same C H) (e : allI ds = some ns) : ∃ a, v = .ref a ∧ SqL K H a (ns.map V.int) := by
  cases h with
  | sh r =>
    generalize hd : (PyData.dict [(.none, .list ds)]) = d at r
    cases r with
    | scr q =>
      rename_i ms
      injection hd with hd
      injection hd with hd _
      injection hd with _ hd
      injection hd with hd
      rw [hd, allI_map] at e
      cases e
      exact ⟨_, rfl, s.seq q⟩
    | dic q r =>
      injection hd with hd
      subst hd
      exfalso
      generalize hk : (PyData.none) = kd at r
      cases r with
      | cons a b =>
        rename_i k _ _
        cases k <;> cases hk
    | fdic q r =>
      injection hd with hd
      subst hd
      exfalso
      generalize hk : (PyData.none) = kd at r
      cases r with
      | cons a b =>
        rename_i k _ _
        cases k <;> cases hk
    | non => cases hd
    | bl => cases hd
    | int => cases hd
    | str => cases hd
    | lst => cases hd
    | tup => cases hd
  | ow r =>
    exfalso
    generalize hd : (PyData.dict [(.none, .list ds)]) = d at r
    cases r with
    | lst => cases hd
    | dic q r =>
      injection hd with hd
      subst hd
      generalize hk : (PyData.none) = kd at r
      cases r with
      | cons a b =>
        rename_i k _ _
        cases k <;> cases hk
theorem oc_ix {K : PySem.W.Frag} : OpCL K (rIx K) dIx := by
  intro A H x y a b Q dom ra rb w
  obtain ⟨d, e, w2⟩ := OkW.of_some w
  clear w
  unfold dIx at e
  split at e
  · obtain ⟨p, xs, rfl, q, r⟩ := ra.list_of cut_sub
    obtain ⟨v, hv, rv⟩ := r.atI e
    exact .inl ⟨p, xs, _, v, rfl, rb.int_of, .of q, hv, w2 v H (Same.refl H) rv⟩
  · obtain ⟨p, xs, rfl, q, r⟩ := ra.tuple_of cut_sub
    obtain ⟨v, hv, rv⟩ := r.atI e
    exact .inr (.inl ⟨p, xs, _, v, rfl, rb.int_of, q, hv, w2 v H (Same.refl H) rv⟩)
  · split at e
    · rename_i c
      obtain ⟨k, e2, rfl⟩ := Option.map_eq_some_iff.mp e
      exact .inr (.inr ⟨_, _, k, ra.str_of, rb.int_of, c, e2, w2 _ H (Same.refl H) (.str _)⟩)
    · cases e
  · obtain ⟨ns, e1, e2⟩ := Option.bind_eq_some_iff.mp e
    obtain ⟨k, e3, rfl⟩ := Option.map_eq_some_iff.mp e2
    obtain ⟨p, rfl, q⟩ := ra.scr_of cut_sub e1
    refine .inl ⟨p, _, _, .int k, rfl, rb.int_of, q, ?_, w2 _ H (Same.refl H) (.int _)⟩
    unfold L2.atI at e3 ⊢
    rw [List.length_map]
    obtain ⟨j, f1, f2⟩ := Option.bind_eq_some_iff.mp e3
    rw [f1]
    show (ns.map V.int)[j]? = some (V.int k)
    rw [List.getElem?_map, f2]
    rfl
  · cases e
def dDix : D → D → Option D
  | .dict kvs, k => if isDic kvs = true then (keyOf k).bind (lookD kvs) else none
  | _, _ => none
theorem dlook_of {K : PySem.W.Frag} {C H : Hp} {a : Addr} {kvs : List (Key × V)} {ds : List (D × D)} {k : Key} {d : D} (h : Rd H a (.dK kvs)) (r : RKV K C kvs ds) (l : lookD ds k = some d) :
    ∃ v, DGet H a (kV k) (some v) ∧ R K C v d := by
  rcases r.look k with ⟨e1, e2⟩ | ⟨v, d', e1, e2, q⟩
  · rw [e2] at l; cases l
  · rw [e2] at l; cases l
    exact ⟨v, by rw [← e1]; exact .inl ⟨kvs, k, h, rfl, rfl⟩, q⟩
section
variable {X : Cx} {K : PySem.W.Frag} {mg : Str → Option Value} {E : XK} {own : List Nat} {a b c : Expr} {ta tb tc : TE} {fa fb fc : Ex} {pos : Pos}
theorem de_ix (ha : DC X K mg E own a ta fa) (hb : DE X K mg E own b tb fb) (hs : PlainIx b := by intro _ _; rfl) (hK : X.K = K := by rfl) : DE X K mg E own (.Subscript a b pos) (tOp (rIx K) ta tb) (bin fa fb dIx) := by
  subst hK
  exact de_ixC ix_seq oc_ix ha hb hs
theorem de_dix (hu : X.A.units + 1 < cLine) (ha : DC X K mg E own a ta fa) (hb : DE X K mg E own b tb fb) (hs : NoSl b := by intro _ _; rfl) : DE X K mg E own (.Subscript a b pos) (tDGet ta tb) (bin fa fb dDix) :=
  ⟨pe_dget hu ha.pe hb.pe hs, fun O H0 ρ σ H Q e w => by
    unfold bin at w
    rw [resW_bind] at w
    refine ha.ok O H0 ρ σ H _ e (w.mono (Same.refl H) fun a wa v1 H1 s1 r1 => ?_)
    rw [resW_bind] at wa
    refine hb.ok O H0 ρ σ H1 _ (e.mono s1) (wa.mono s1 fun b wb v2 H2 s2 r2 => ?_)
    obtain ⟨d, e1, wd⟩ := OkW.of_some (okW_of wb)
    unfold dDix at e1
    split at e1
    · split at e1
      · rename_i hd
        obtain ⟨k, hk, hl⟩ := Option.bind_eq_some_iff.mp e1
        obtain ⟨p, kvs, rfl, q, r⟩ := (crep_same r1 s2).dict_of cut_sub hd
        obtain ⟨v, g, rv⟩ := dlook_of q r hl
        exact ⟨p, v, rfl, by rw [r2.key hk]; exact g, wd v H2 (s1.trans s2) rv⟩
      · cases e1
    · cases e1⟩
def getV (fa fb fc : Ex) : Ex := fun ρ => (fa ρ).bind fun a => match a with
  | .dict kvs => if isDic kvs = true then (fb ρ).bind fun b => (fc ρ).bind fun c => ofO ((keyOf b).map fun k => (lookD kvs k).getD c) else .bad
  | _ => .bad
theorem isD_k {H : Hp} {a : Addr} {kvs : List (Key × V)} (h : Rd H a (.dK kvs)) : IsD H a := .inl ⟨kvs, h⟩
theorem de_get2 {apos cpos : Pos} (hu : X.A.units + 1 < cLine) (ha : DC X K mg E own a ta fa) (hb : DE X K mg E own b tb fb) (hc : DE X K mg E own c tc fc)
    (m : M2 X a "get" apos b c cpos := by exact ⟨rfl, rfl, rfl, rfl⟩) : DE X K mg E own (.Call (.Attribute a "get" apos) [b, c] [] cpos) (tDGet2 ta tb tc) (getV fa fb fc) :=
  ⟨pe_dget2 hu ha.pe hb.pe hc.pe m, fun O H0 ρ σ H Q e w => by
    unfold getV at w
    rw [resW_bind] at w
    refine ha.ok O H0 ρ σ H _ e (w.mono (Same.refl H) fun a wa v1 H1 s1 r1 => ?_)
    cases a <;> first | exact wa.elim | skip
    rename_i kv0
    by_cases hdic : isDic kv0 = true
    · replace wa : ResW _ _ _ _ (if isDic kv0 = true then (fb ρ).bind fun b => (fc ρ).bind fun c => ofO ((keyOf b).map fun k => (lookD kv0 k).getD c) else .bad) := wa
      rw [if_pos hdic, resW_bind] at wa
      obtain ⟨p, kvs, rfl, q, r⟩ := r1.dict_of cut_sub hdic
      refine ⟨p, rfl, isD_k q, ?_⟩
      refine hb.ok O H0 ρ σ H1 _ (e.mono s1) (wa.mono s1 fun b wb v2 H2 s2 r2 => ?_)
      rw [resW_bind] at wb
      refine hc.ok O H0 ρ σ H2 _ ((e.mono s1).mono s2) (wb.mono (s1.trans s2) fun c wc v3 H3 s3 r3 => ?_)
      obtain ⟨d, e1, wd⟩ := OkW.of_some (okW_of wc)
      obtain ⟨k, hk, rfl⟩ := Option.map_eq_some_iff.mp e1
      have q3 := rd_same q (s2.trans s3)
      have r' := r.mono (cut_same (A := AllA O own σ) (s2.trans s3))
      refine ⟨valV kvs k, by rw [r2.key hk]; exact .inl ⟨kvs, k, q3, rfl, rfl⟩, ?_⟩
      rcases r'.look k with ⟨e1, e2⟩ | ⟨v, d', e1, e2, q⟩
      · rw [e1]
        rw [e2] at wd
        exact wd v3 H3 ((s1.trans s2).trans s3) r3
      · rw [e1]
        rw [e2] at wd
        exact wd v H3 ((s1.trans s2).trans s3) q
    · replace wa : ResW _ _ _ _ (if isDic kv0 = true then (fb ρ).bind fun b => (fc ρ).bind fun c => ofO ((keyOf b).map fun k => (lookD kv0 k).getD c) else .bad) := wa
      rw [if_neg hdic] at wa
      exact wa.elim⟩
end
end DL
end

section
set_option Elab.async false
set_option linter.all false
set_option maxRecDepth 100000
set_option maxHeartbeats 2000000
set_option autoImplicit false
/-! DL4: built-ins, new lists and dicts, comprehensions. -/
namespace DL
open PySem PySem.Spec PyProof.Rows L2

/-! ### built-ins of one argument -/
def un (fa : Ex) (op : D → Option D) : Ex := fun ρ => (fa ρ).bind fun a => ofO (op a)
def CallC (K : PySem.W.Frag) (r : List V → Hp → VK → Prop) (op : D → Option D) : Prop :=
  ∀ (A : Addr → Prop) (H : Hp) (x : V) (a : D) (Q : VK), Dom A H → CRep K (Cut A H) H x a → OkW (fun d => ∀ v H', Same H H' → R K (Cut A H') v d → Q v H') (op a) → r [x] H Q
section
variable {X : Cx} {K : PySem.W.Frag} {mg : Str → Option Value} {E : XK} {own : List Nat} {a b : Expr} {ta tb : TE} {fa fb : Ex} {op : D → Option D} {r : List V → Hp → VK → Prop} {p pos : Pos} {x : Str}
theorem te_call1 {K : PySem.W.Frag} {mg : Str → Option Value} (hr : CallC K r op) (ha : TCok K mg E own ta fa) : TEok K mg E own (tCB r (tCons ta tNil)) (un fa op) := fun O H0 ρ σ H Q e w => by
  unfold un at w
  rw [resW_bind] at w
  refine ha O H0 ρ σ H _ e (w.mono (Same.refl H) fun a wa v1 H1 s1 r1 => ?_)
  exact hr _ H1 v1 a Q (e.domA.same s1) r1 ((okW_of wa).mono fun d k v H' s r => k v H' (s1.trans s) r)
theorem de_callB1 {id : String} (hc : CallR X (.builtin id) r) (hr : CallC K r op) (hg : Gl X x) (hm : X.mg x = none) (hv : bootBuiltins x = some (.builtin id)) (ha : DC X K mg E own a ta fa) (hn : x ≠ "__name__" := by decide) (hdb : (x == ("__debug__" : Str)) = false := by decide)
    (he : starEach (a :: []) X.env = (false, eval a X.env) :: starEach [] X.env := by rfl) (hpl : (backTo pos (starEach [] X.env)).any (·.1) = false := by rfl) : DE X K mg E own (.Call (.Name x p) [a] [] pos) (tCB r (tCons ta tNil)) (un fa op) :=
  ⟨pe_callB hc hg hm hv (pa_cons ha.pe pa_nil he) hn hdb he hpl, te_call1 hr ha.ok⟩
theorem de_callT1 {T : String} (hc : CallR X (.type T) r) (hr : CallC K r op) (hg : Gl X x) (hm : X.mg x = none) (hv : bootBuiltins x = some (.type T)) (ha : DC X K mg E own a ta fa) (hn : x ≠ "__name__" := by decide) (hdb : (x == ("__debug__" : Str)) = false := by decide)
    (he : starEach (a :: []) X.env = (false, eval a X.env) :: starEach [] X.env := by rfl) (hpl : (backTo pos (starEach [] X.env)).any (·.1) = false := by rfl) : DE X K mg E own (.Call (.Name x p) [a] [] pos) (tCB r (tCons ta tNil)) (un fa op) :=
  ⟨pe_callTy hc hg hm hv (pa_cons ha.pe pa_nil he) hn hdb he hpl, te_call1 hr ha.ok⟩
def dLen : D → Option D
  | .list ds => some (.int ds.length)
  | .tuple ds => some (.int ds.length)
  | .str z => if z.length ≤ sizeLine then some (.int z.length) else none
  | .dict [(.none, .list ds)] => (allI ds).map fun ns => .int ns.length
  | .dict kvs => if isDic kvs = true then some (.int kvs.length) else none
  | _ => none
def rLenA (K : PySem.W.Frag) : List V → Hp → VK → Prop := fun xs H Q => (∃ x n, xs = [x] ∧ LenV K x H n ∧ Q (.int n) H) ∨ ∃ a kvs, xs = [V.ref a] ∧ Rd H a (.dK kvs) ∧ Q (.int kvs.length) H
theorem call_lenRd : CallR X (.builtin "len") (fun xs H Q => ∃ a kvs, xs = [V.ref a] ∧ Rd H a (.dK kvs) ∧ Q (.int kvs.length) H) := by
  intro pins s σ H xs us Q I r h
  obtain ⟨a, kvs, rfl, e, q⟩ := h
  obtain ⟨u, rfl, rx⟩ := vals1 r
  cases rx
  exact d_len I e fun t s' I' => ⟨.int kvs.length, H, I', ⟨t, rfl⟩, q⟩
theorem call_lenA : CallR X (.builtin "len") (rLenA X.K) := call_len.or call_lenRd
theorem cc_len {K : PySem.W.Frag} : CallC K (rLenA K) dLen := by
  intro A H x a Q dom ra w
  unfold dLen at w
  split at w
  · obtain ⟨l, xs, rfl, q, r⟩ := ra.list_of cut_sub
    exact .inl ⟨_, _, rfl, .inl ⟨xs, .of q, r.length.symm⟩, w _ H (Same.refl H) (.int _)⟩
  · obtain ⟨l, xs, rfl, q, r⟩ := ra.tuple_of cut_sub
    exact .inl ⟨_, _, rfl, .inr ⟨xs, q, r.length.symm⟩, w _ H (Same.refl H) (.int _)⟩
  · obtain ⟨c, w⟩ := okW_if w
    rw [ra.str_of]
    exact .inl ⟨_, _, rfl, ⟨c, rfl⟩, w _ H (Same.refl H) (.int _)⟩
  · obtain ⟨d, e, w2⟩ := OkW.of_some w
    obtain ⟨ns, e1, rfl⟩ := Option.map_eq_some_iff.mp e
    obtain ⟨l, rfl, q⟩ := ra.scr_of cut_sub e1
    exact .inl ⟨_, _, rfl, .inl ⟨_, q, by rw [List.length_map]⟩, w2 _ H (Same.refl H) (.int _)⟩
  · obtain ⟨c, w⟩ := okW_if w
    obtain ⟨l, kvs, rfl, q, r⟩ := ra.dict_of cut_sub c
    refine .inr ⟨l, kvs, rfl, q, ?_⟩
    rw [r.length]
    exact w _ H (Same.refl H) (.int _)
  · exact w.elim
def dAbs : D → Option D
  | .int i => some (.int (if i < 0 then -i else i))
  | _ => none
theorem CRep.int_of {K : PySem.W.Frag} {C H : Hp} {v : V} {i : Int} (h : CRep K C H v (.int i)) : v = .int i := by
  cases h with
  | sh r => exact r.int_of
  | ow r => cases r
theorem CRep.bool_of {K : PySem.W.Frag} {C H : Hp} {v : V} {i : Bool} (h : CRep K C H v (.bool i)) : v = .bl i := by
  cases h with
  | sh r => exact r.bool_of
  | ow r => cases r
theorem cc_abs {K : PySem.W.Frag} : CallC K (fun xs H Q => ∃ i, xs = [.int i] ∧ Q (.int (if i < 0 then -i else i)) H) dAbs := by
  intro A H x a Q dom ra w
  unfold dAbs at w
  split at w
  · rw [ra.int_of]
    exact ⟨_, rfl, w _ H (Same.refl H) (.int _)⟩
  · exact w.elim
def dInt : D → Option D
  | .int i => some (.int i)
  | .bool k => some (.int (if k then 1 else 0))
  | _ => none
theorem cc_int {K : PySem.W.Frag} : CallC K (fun xs H Q => (∃ i, xs = [V.int i] ∧ Q (.int i) H) ∨ ∃ k, xs = [V.bl k] ∧ Q (.int (if k then 1 else 0)) H) dInt := by
  intro A H x a Q dom ra w
  unfold dInt at w
  split at w
  · rw [ra.int_of]
    exact .inl ⟨_, rfl, w _ H (Same.refl H) (.int _)⟩
  · rw [ra.bool_of]
    exact .inr ⟨_, rfl, w _ H (Same.refl H) (.int _)⟩
  · exact w.elim
def dTuple : D → Option D
  | .list ds => some (.tuple ds)
  | .tuple ds => some (.tuple ds)
  | _ => none
theorem cc_tuple {K : PySem.W.Frag} : CallC K (fun xs H Q => ∃ p ys, xs = [.ref p] ∧ ((SqL K H p ys ∧ ∀ l, H l = none → Q (.ref l) (upd H l (.tup ys))) ∨ (SqT K H p ys ∧ Q (.ref p) H))) dTuple := by
  intro A H x a Q dom ra w
  unfold dTuple at w
  split at w
  · obtain ⟨l, xs, rfl, q, r⟩ := ra.list_of cut_sub
    exact ⟨l, xs, rfl, .inl ⟨.of q, fun p np => w _ _ (same_new np) (.tup (.inl (.inl (cut_new (dom.new np)))) (r.mono (cut_same (same_new np))))⟩⟩
  · cases ra with
    | ow r => cases r
    | sh ra =>
      obtain ⟨l, xs, rfl, q, r⟩ := ra.tuple_of
      exact ⟨l, xs, rfl, .inr ⟨sqT_same cut_sub q, w _ H (Same.refl H) (.tup q r)⟩⟩
  · exact w.elim
/-! any, all -/
def allB : List D → Option (List Bool)
  | [] => some []
  | .bool b :: r => (allB r).map (b :: ·)
  | _ => none
theorem allB_map (bs : List Bool) : allB (bs.map .bool) = some bs := by
  induction bs with
  | nil => rfl
  | cons b r ih => show (allB (r.map .bool)).map (b :: ·) = _; rw [ih]; rfl
theorem RAll.bools {K : PySem.W.Frag} {H : Hp} : ∀ {vs : List V} {ds : List D} {bs : List Bool}, RAll K H vs ds → allB ds = some bs → vs = bs.map V.bl
  | _, _, _, .nil, h => by cases h; rfl
  | _, _, bs, .cons (d := d) (ds := ds) r t, h => by
    cases d <;> first | cases h | skip
    rename_i k
    have h' : (allB ds).map (k :: ·) = some bs := h
    obtain ⟨cs, e, rfl⟩ := Option.map_eq_some_iff.mp h'
    rw [r.bool_of, RAll.bools t e]
    rfl
def dAny : D → Option D
  | .list ds => (allB ds).map fun bs => .bool (bs.any id)
  | _ => none
def dAll : D → Option D
  | .list ds => (allB ds).map fun bs => .bool (bs.all id)
  | _ => none
theorem cc_any {K : PySem.W.Frag} : CallC K (rAny K) dAny := by
  intro A H x a Q dom ra w
  unfold dAny at w
  split at w
  · obtain ⟨d, e, w2⟩ := OkW.of_some w
    obtain ⟨bs, e2, rfl⟩ := Option.map_eq_some_iff.mp e
    obtain ⟨l, xs, rfl, q, r⟩ := ra.list_of cut_sub
    exact ⟨l, bs, rfl, by rw [← r.bools e2]; exact .of q, w2 _ H (Same.refl H) (.bl _)⟩
  · exact w.elim
theorem cc_all {K : PySem.W.Frag} : CallC K (rAll K) dAll := by
  intro A H x a Q dom ra w
  unfold dAll at w
  split at w
  · obtain ⟨d, e, w2⟩ := OkW.of_some w
    obtain ⟨bs, e2, rfl⟩ := Option.map_eq_some_iff.mp e
    obtain ⟨l, xs, rfl, q, r⟩ := ra.list_of cut_sub
    exact ⟨l, bs, rfl, by rw [← r.bools e2]; exact .of q, w2 _ H (Same.refl H) (.bl _)⟩
  · exact w.elim
/-! sorted, of numbers -/
def sortI (ns : List Int) : List Int := ns.mergeSort fun a b => decide (a ≤ b)
theorem sorted_unique : ∀ {xs ys : List Int}, xs.Perm ys → xs.Pairwise (· ≤ ·) → ys.Pairwise (· ≤ ·) → xs = ys
  | [], ys, p, _, _ => (List.nil_perm.mp p).symm
  | x :: xs, [], p, _, _ => absurd p.symm (by simp)
  | x :: xs, y :: ys, p, hx, hy => by
    have e : x = y := by
      rcases List.mem_cons.mp (p.mem_iff.mp List.mem_cons_self : x ∈ y :: ys) with h | h
      · exact h
      · have h1 := List.rel_of_pairwise_cons hy h
        rcases List.mem_cons.mp (p.symm.mem_iff.mp List.mem_cons_self : y ∈ x :: xs) with g | g
        · exact g.symm
        · have h2 := List.rel_of_pairwise_cons hx g
          omega
    subst e
    rw [sorted_unique ((List.perm_cons x).mp p) (List.Pairwise.of_cons hx) (List.Pairwise.of_cons hy)]
theorem sortI_perm (ns : List Int) : (sortI ns).Perm ns := List.mergeSort_perm ns _
theorem sortI_sorted (ns : List Int) : (sortI ns).Pairwise (· ≤ ·) := by
  have h := List.pairwise_mergeSort (le := fun a b : Int => decide (a ≤ b)) (by intro a b c h1 h2; simp at *; omega) (by intro a b; simp; omega) ns
  exact h.imp fun h => by simpa using h
theorem sortI_eq {ns ns' : List Int} (p : ns'.Perm ns) (h : ns'.Pairwise (· ≤ ·)) : ns' = sortI ns := sorted_unique (p.trans (sortI_perm ns).symm) h (sortI_sorted ns)
def dSorted : D → Option D
  | .list ds => (allI ds).map fun ns => .list ((sortI ns).map .int)
  | _ => none
theorem cc_sorted {K : PySem.W.Frag} : CallC K (rSortedI K) dSorted := by
  intro A H x a Q dom ra w
  unfold dSorted at w
  split at w
  · obtain ⟨d, e, w2⟩ := OkW.of_some w
    obtain ⟨ns, e2, rfl⟩ := Option.map_eq_some_iff.mp e
    obtain ⟨l, xs, rfl, q, r⟩ := ra.list_of cut_sub
    refine ⟨l, ns, rfl, by rw [← r.ints e2]; exact .of q, fun ns' p hp hs np => ?_⟩
    rw [sortI_eq hp hs]
    exact w2 _ _ (same_new np) (.lst (cut_new (dom.new np)) (RAll.ofInts _))
  · exact w.elim
/-! - -/
def dNeg : D → Option D
  | .int i => some (.int (-i))
  | _ => none
theorem de_neg (ha : DE X K mg E own a ta fa) : DE X K mg E own (.UnaryOp .USub a pos) (tUn (rU fun i => .int (-i)) ta) (un fa dNeg) :=
  ⟨pe_un un_neg ha.pe, fun O H0 ρ σ H Q e w => by
    unfold un at w
    rw [resW_bind] at w
    refine ha.ok O H0 ρ σ H _ e (w.mono (Same.refl H) fun d wd v H1 s1 r1 => ?_)
    cases d <;> first | exact wd.elim | skip
    rw [r1.int_of]
    exact ⟨_, rfl, wd _ H1 s1 (.int _)⟩⟩
/-! isinstance -/
def tyD : D → Option String
  | .none => some "NoneType"
  | .bool _ => some "bool"
  | .int _ => some "int"
  | .str _ => some "str"
  | .list _ => some "list"
  | .tuple _ => some "tuple"
  | .dict _ => none
def dIsi (T : String) (d : D) : Option D := (tyD d).bind fun n => (kitB n T).map .bool
theorem R.tyx {K : PySem.W.Frag} {H : Hp} {v : V} {d : D} {n : String} (r : R K H v d) (h : tyD d = some n) : TyX K H v (.type n) := by
  cases r <;> simp only [tyD, Option.some.injEq, reduceCtorEq] at h
  · subst h; exact .base .non
  · subst h; exact .base (.bl _)
  · subst h; exact .base (.int _)
  · subst h; exact .base (.str _)
  · subst h
    rename_i q _
    exact .base (.lst q)
  · subst h
    rename_i q _
    rcases q with (q | ⟨o, q⟩) | ⟨o, its, n, q, c, _⟩
    · exact .base (.tup q)
    · exact .fTuple q
    · exact .kTuple q c
theorem de_isi {T : String} {y : Str} {p2 : Pos} (hg : Gl X "isinstance") (hm : X.mg "isinstance" = none) (hgy : Gl X y) (hmy : X.mg y = none) (hvy : bootBuiltins y = some (.type T)) (ha : DE X K mg E own a ta fa) (hn : y ≠ "__name__" := by decide) (hdb : (y == ("__debug__" : Str)) = false := by decide)
    (he : starEach (a :: [.Name y p2]) X.env = (false, eval a X.env) :: starEach [.Name y p2] X.env := by rfl) (he2 : starEach [.Name y p2] X.env = (false, eval (.Name y p2) X.env) :: starEach [] X.env := by rfl)
    (hpl : (backTo pos (starEach [.Name y p2] X.env)).any (·.1) = false := by rfl) (hK : X.K = K := by rfl) :
    DE X K mg E own (.Call (.Name "isinstance" p) [a, .Name y p2] [] pos) (tCB (rIsi K) (tCons ta (tCons (tC (.ty T)) tNil))) (un fa (dIsi T)) := by
  subst hK
  exact ⟨pe_callB call_isi hg hm (by decide +kernel) (pa_cons ha.pe (pa_cons (pe_bltn hgy hmy hvy rfl hn hdb) pa_nil he2) he) (by decide) (by decide) he hpl, fun O H0 ρ σ H Q e w => by
    unfold un at w
    rw [resW_bind] at w
    refine ha.ok O H0 ρ σ H _ e (w.mono (Same.refl H) fun d wd v H1 s1 r1 => ?_)
    obtain ⟨z, e1, w2⟩ := OkW.of_some (okW_of wd)
    unfold dIsi at e1
    obtain ⟨n, e2, e3⟩ := Option.bind_eq_some_iff.mp e1
    obtain ⟨k, e4, rfl⟩ := Option.map_eq_some_iff.mp e3
    exact ⟨v, .ty T, .type n, .type T, k, rfl, .ty T, (r1.mono cut_sub).tyx e2, kit_ty e4, w2 _ H1 s1 (.bl _)⟩⟩
end

/-! ### new lists, new dicts: fit to be a def's own -/
def Plus (A : Addr → Prop) (p : Addr) : Addr → Prop := fun a => A a ∨ a = p
def TFok (K : PySem.W.Frag) (mg : Str → Option Value) (E : XK) (own : List Nat) (t : TE) (f : Ex) : Prop :=
  ∀ (O : Addr → Prop) (H0 : Hp) (ρ : Rho) (σ : L2.St) (H : Hp) (Q : VK), EnvOk K O H0 own ρ σ H →
    ResW mg E H (fun d => ∀ p H', Same H H' → H p = none → OwnR K (Cut (Plus (AllA O own σ) p) H') H' p d → Q (.ref p) H') (f ρ) → t σ H Q
structure DF (X : Cx) (K : PySem.W.Frag) (mg : Str → Option Value) (E : XK) (own : List Nat) (e : Expr) (t : TE) (f : Ex) : Prop where
  pe : PE X e t
  ok : TFok K mg E own t f
theorem plus_sub {A : Addr → Prop} {p : Addr} {H : Hp} : Same (Cut (Plus A p) H) (Cut A H) := cut_mono fun _ h => .inl h
theorem ownR_R {K : PySem.W.Frag} {A : Addr → Prop} {p : Addr} {H : Hp} {d : D} (h : OwnR K (Cut (Plus A p) H) H p d) (n : ¬ A p) : R K (Cut A H) (.ref p) d := by
  cases h with
  | lst x y => exact .lst (by rw [cut_out n]; exact x) (y.mono plus_sub)
  | dic x y => exact .dic (by rw [cut_out n]; exact x) (y.mono plus_sub)
theorem to_plus {A : Addr → Prop} {H H' : Hp} {p : Addr} (np : H p = none) (s : Same H H') : Same (Cut A H) (Cut (Plus A p) H') := fun a o h => by
  obtain ⟨c, e⟩ := cut_some h
  rw [cut_out]
  · exact s a o e
  · rintro (z | z)
    · exact c z
    · subst z; rw [np] at e; cases e
section
variable {X : Cx} {K : PySem.W.Frag} {mg : Str → Option Value} {E : XK} {own : List Nat} {e : Expr} {t : TE} {f : Ex} {pos : Pos}
theorem te_of_tf (h : TFok K mg E own t f) : TEok K mg E own t f := fun O H0 ρ σ H Q e w =>
  h O H0 ρ σ H Q e (w.mono (Same.refl H) fun d k p H' s np r => k _ H' s (ownR_R r (e.domA.new np)))
theorem de_of (h : DF X K mg E own e t f) : DE X K mg E own e t f := ⟨h.pe, te_of_tf h.ok⟩
theorem tf_lst {ta : TA} {g : Ax} (h : TAok K mg E own ta g) : TFok K mg E own (tLst ta) (mkLst g) := fun O H0 ρ σ H Q en w => by
    unfold mkLst at w
    rw [resW_bind] at w
    refine h O H0 ρ σ H _ en (w.mono (Same.refl H) fun ds wd vs H1 s1 r1 => ?_)
    by_cases c : ds.length ≤ sizeLine
    · rw [if_pos c] at wd
      exact ⟨by rw [r1.length]; exact c, fun p np => wd p _ (s1.trans (same_new np)) (s1.free np) (.lst upd_same (r1.mono (to_plus np (same_new np))))⟩
    · rw [if_neg c] at wd; exact wd.elim
theorem df_lst {es : List Expr} {ta : TA} {g : Ax} (h : DA X K mg E own es ta g) : DF X K mg E own (.List es pos) (tLst ta) (mkLst g) := ⟨pe_lst h.pa, tf_lst h.ok⟩
theorem df_dnew : DF X K mg E own (.Dict [] [] pos) tDNewK (kc (.dict [])) :=
  ⟨pe_dnewK, fun O H0 ρ σ H Q en w p np => w p _ (same_new np) np (.dic upd_same .nil)⟩
/-- {k: v} -/
def dOne (fk fv : Ex) : Ex := fun ρ => (fk ρ).bind fun k => (fv ρ).bind fun v => match keyOf k with
  | some q => .ok (.dict [(keyD q, v)])
  | none => .bad
theorem df_one {k v : Expr} {tk tv : TE} {fk fv : Ex} (hk : DE X K mg E own k tk fk) (hv : DE X K mg E own v tv fv) (hK : X.K = K := by rfl) : DF X K mg E own (.Dict [some k] [v] pos) (tDisp [(tk, tv)]) (dOne fk fv) := by
  subst hK
  exact ⟨pe_disp (pps_cons hk.pe hv.pe pps_nil) (by rfl) (by rfl) (fun z => by cases z) (Nat.le_of_ble_eq_true rfl), fun O H0 ρ σ H Q en w p np => by
    unfold dOne at w
    rw [resW_bind] at w
    have s0 : Same H (upd H p (.dK [])) := same_new np
    -- the dict is tracked meanwhile as something of a caller's
    have en2 : EnvOk X.K (Plus O p) (fun a => if a = p then some (.dK []) else H0 a) own ρ σ (upd H p (.dK [])) := by
      have e' := en.mono s0
      have cs : Same (Cut (AllA O own σ) H) (Cut (AllA (Plus O p) own σ) (upd H p (.dK []))) := fun a o h => by
        obtain ⟨c, e⟩ := cut_some h
        have ne : a ≠ p := ne_of_none e np
        rw [cut_out, upd_ne ne]
        · exact e
        · rintro ((z | z) | z)
          · exact c (.inl z)
          · exact ne z
          · exact c (.inr z)
      refine ⟨en.len, fun a o h => ?_, fun a h z => ?_, fun a h => ?_, e'.live, en.inj, fun i d hi q => ?_, fun i d hi q => ?_⟩
      · by_cases z : a = p
        · subst z; rw [if_pos rfl] at h; cases h; exact upd_same
        · rw [if_neg z] at h; rw [upd_ne z]; exact en.base a o h
      · by_cases y : a = p
        · rw [if_pos y] at z; cases z
        · rw [if_neg y] at z
          rcases h with h | h
          · exact en.dom a h z
          · exact y h
      · have ne : a ≠ p := fun z => en.live a h (z ▸ np)
        rw [if_neg ne]; exact en.new a h
      · obtain ⟨v, a, b⟩ := en.sh i d hi q
        exact ⟨v, a, b.mono cs⟩
      · obtain ⟨a, b, c⟩ := en.ow i d hi q
        refine ⟨a, b, ?_⟩
        cases c with
        | lst x y => exact .lst (s0 _ _ x) (y.mono cs)
        | dic x y => exact .dic (s0 _ _ x) (y.mono cs)
    refine hk.ok _ _ ρ σ _ _ en2 (w.mono s0 fun d wd kv H1 s1 r1 => ?_)
    rw [resW_bind] at wd
    refine hv.ok _ _ ρ σ H1 _ (en2.mono s1) (wd.mono (s0.trans s1) fun d2 wd2 vv H2 s2 r2 => ?_)
    have hp : H2 p = some (.dK []) := s2 _ _ (s1 _ _ upd_same)
    refine ⟨hp, ?_⟩
    cases q : keyOf d with
    | none => rw [q] at wd2; exact wd2.elim
    | some k =>
      rw [q] at wd2
      refine ⟨[(k, vv)], by rw [List.map_cons, List.map_nil, ← r1.key q], Nat.le_of_ble_eq_true rfl, ?_⟩
      refine wd2 p _ (fun a o h => ?_) np (.dic (kvs := mergeK [] [(k, vv)]) upd_same ?_)
      · rw [upd_ne (ne_of_none h np)]; exact (s0.trans (s1.trans s2)) a o h
      · have e : mergeK [] [(k, vv)] = [(k, vv)] := rfl
        rw [e]
        refine .cons (r2.mono fun a o h => ?_) .nil
        obtain ⟨c, e⟩ := cut_some h
        have ne : a ≠ p := fun z => c (.inl (.inr z))
        rw [cut_out, upd_ne ne]
        · exact e
        · rintro ((z | z) | z)
          · exact c (.inl (.inl z))
          · exact c (.inr z)
          · exact ne z⟩
/-- list(x) -/
def dList : D → Option D
  | .list ds => some (.list ds)
  | .tuple ds => some (.list ds)
  | .dict kvs => if isDic kvs = true then some (.list (kvs.map (·.1))) else none
  | _ => none
def rListR : List V → Hp → VK → Prop := fun xs H Q => ∃ (a : Addr) (kvs : List (Key × V)), xs = [.ref a] ∧ Rd H a (.dK kvs) ∧ ∀ p, H p = none → Q (.ref p) (upd H p (.lst (kvs.map fun kv => kV kv.1)))
def rListA (K : PySem.W.Frag) : List V → Hp → VK → Prop := fun xs H Q => (∃ p ys, xs = [.ref p] ∧ (SqL K H p ys ∨ SqT K H p ys) ∧ ∀ l, H l = none → Q (.ref l) (upd H l (.lst ys))) ∨ rListR xs H Q
theorem call_listA (hc : X.calm = true) : CallR X (.type "list") (rListA X.K) := call_list_of.or (call_listD hc)
theorem df_list {a : Expr} {ta : TE} {fa : Ex} {p : Pos} (hc : X.calm = true) (hg : Gl X "list") (hm : X.mg "list" = none) (ha : DC X K mg E own a ta fa)
    (he : starEach (a :: []) X.env = (false, eval a X.env) :: starEach [] X.env := by rfl) (hpl : (backTo pos (starEach [] X.env)).any (·.1) = false := by rfl) (hK : X.K = K := by rfl) : DF X K mg E own (.Call (.Name "list" p) [a] [] pos) (tCB (rListA K) (tCons ta tNil)) (un fa dList) := by
  subst hK
  exact ⟨pe_callTy (call_listA hc) hg hm (by decide +kernel) (pa_cons ha.pe pa_nil he) (by decide) (by decide) he hpl, fun O H0 ρ σ H Q en w => by
    unfold un at w
    rw [resW_bind] at w
    refine ha.ok O H0 ρ σ H _ en (w.mono (Same.refl H) fun d wd v1 H1 s1 r1 => ?_)
    replace wd := okW_of wd
    unfold dList at wd
    split at wd
    · obtain ⟨l, xs, rfl, q, r⟩ := r1.list_of cut_sub
      exact .inl ⟨l, xs, rfl, .inl (.of q), fun p np => wd p _ (s1.trans (same_new np)) (s1.free np) (.lst upd_same (r.mono (to_plus np (same_new np))))⟩
    · obtain ⟨l, xs, rfl, q, r⟩ := r1.tuple_of cut_sub
      exact .inl ⟨l, xs, rfl, .inr q, fun p np => wd p _ (s1.trans (same_new np)) (s1.free np) (.lst upd_same (r.mono (to_plus np (same_new np))))⟩
    · obtain ⟨c, wd⟩ := okW_if wd
      obtain ⟨l, kvs, rfl, q, r⟩ := r1.dict_of cut_sub c
      exact .inr ⟨l, kvs, rfl, q, fun p np => wd p _ (s1.trans (same_new np)) (s1.free np) (.lst upd_same (r.keys.mono (to_plus np (same_new np))))⟩
    · exact wd.elim⟩
/-- xs + ys -/
def dCat : D → D → Option D
  | .list xs, .list ys => if xs.length + ys.length ≤ sizeLine then some (.list (xs ++ ys)) else none
  | _, _ => none
theorem df_cat {a b : Expr} {ta tb : TE} {fa fb : Ex} (ha : DE X K mg E own a ta fa) (hb : DE X K mg E own b tb fb) : DF X K mg E own (.BinOp a .Add b pos) (tOp rCat ta tb) (bin fa fb dCat) :=
  ⟨pe_op op_cat ha.pe hb.pe, fun O H0 ρ σ H Q en w => by
    unfold bin at w
    rw [resW_bind] at w
    refine ha.ok O H0 ρ σ H _ en (w.mono (Same.refl H) fun a wa v1 H1 s1 r1 => ?_)
    rw [resW_bind] at wa
    refine hb.ok O H0 ρ σ H1 _ (en.mono s1) (wa.mono s1 fun b wb v2 H2 s2 r2 => ?_)
    replace wb := okW_of wb
    unfold dCat at wb
    split at wb
    · obtain ⟨c, wb⟩ := okW_if wb
      obtain ⟨l, xs, rfl, q1, r1⟩ := r1.list_of
      obtain ⟨l2, ys, rfl, q2, r2⟩ := r2.list_of
      exact ⟨l, l2, xs, ys, rfl, rfl, s2 _ _ (cut_sub _ _ q1), cut_sub _ _ q2, by rw [r1.length, r2.length]; exact c, fun p np =>
        wb p _ ((s1.trans s2).trans (same_new np)) ((s1.trans s2).free np) (.lst upd_same (((r1.mono (cut_same s2)).append r2).mono (to_plus np (same_new np))))⟩
    · exact wb.elim⟩
end
/-- the name takes it as its own -/
theorem EnvOk.setNew {K : PySem.W.Frag} {O : Addr → Prop} {H0 H H' : Hp} {own : List Nat} {ρ : Rho} {σ : L2.St} (e : EnvOk K O H0 own ρ σ H) {i : Nat} {p : Addr} {d : D} (h : i ∉ own) (s : Same H H') (np : H p = none)
    (r : OwnR K (Cut (Plus (AllA O own σ) p) H') H' p d) : EnvOk K O H0 (i :: own) (ρ.set i (some d)) (σ.set i (some (.ref p))) H' := by
  have hp : H' p ≠ none := by cases r with
    | lst x _ => rw [x]; intro z; cases z
    | dic x _ => rw [x]; intro z; cases z
  have mo : Same (Cut (AllA O own σ) H) (Cut (AllA O (i :: own) (σ.set i (some (.ref p)))) H') := fun a x z => by
    obtain ⟨c, q⟩ := cut_some z
    have na : a ≠ p := ne_of_none q np
    rw [cut_out]
    · exact s _ _ q
    · rintro (w | w)
      · exact c (.inl w)
      · rcases own_put h w with w | w
        · exact na w
        · exact c (.inr w)
  have mo2 : Same (Cut (Plus (AllA O own σ) p) H') (Cut (AllA O (i :: own) (σ.set i (some (.ref p)))) H') := cut_mono fun a z => by
    rcases z with z | z
    · exact .inl (.inl z)
    · rcases own_put h z with w | w
      · exact .inr w
      · exact .inl (.inr w)
  have em := e.mono s
  refine ⟨by rw [List.length_set, List.length_set]; exact e.len, e.base.trans s, e.dom, fun a z => ?_, fun a z => ?_, fun j k a m m' q q' => ?_, fun j d' m q => ?_, fun j d' m q => ?_⟩
  · rcases own_put h z with w | w
    · subst w; exact e.base.free np
    · exact e.new a w
  · rcases own_put h z with w | w
    · subst w; exact hp
    · exact em.live a w
  · by_cases c : i = j
    · by_cases c' : i = k
      · exact c.symm.trans c'
      · rw [List.getElem?_set_ne c'] at q'
        have m2 : k ∈ own := (List.mem_cons.mp m').resolve_left fun z => c' z.symm
        subst c
        by_cases l : i < σ.length
        · rw [List.getElem?_set_self l] at q
          cases q
          exact (e.live _ ⟨k, m2, q'⟩ np).elim
        · rw [List.getElem?_eq_none (by rw [List.length_set]; omega)] at q; cases q
    · rw [List.getElem?_set_ne c] at q
      have m1 : j ∈ own := (List.mem_cons.mp m).resolve_left fun z => c z.symm
      by_cases c' : i = k
      · subst c'
        by_cases l : i < σ.length
        · rw [List.getElem?_set_self l] at q'
          cases q'
          exact (e.live _ ⟨j, m1, q⟩ np).elim
        · rw [List.getElem?_eq_none (by rw [List.length_set]; omega)] at q'; cases q'
      · rw [List.getElem?_set_ne c'] at q'
        exact e.inj j k a m1 ((List.mem_cons.mp m').resolve_left fun z => c' z.symm) q q'
  · have c : i ≠ j := fun z => m (List.mem_cons.mpr (.inl z.symm))
    rw [List.getElem?_set_ne c] at q ⊢
    obtain ⟨v, a, b⟩ := e.sh j d' (fun z => m (List.mem_cons.mpr (.inr z))) q
    exact ⟨v, a, b.mono mo⟩
  · by_cases c : i = j
    · subst c
      by_cases l : i < ρ.length
      · rw [List.getElem?_set_self l] at q
        cases q
        refine ⟨p, by rw [List.getElem?_set_self (by rw [e.len]; exact l)], ?_⟩
        cases r with
        | lst x y => exact .lst x (y.mono mo2)
        | dic x y => exact .dic x (y.mono mo2)
      · rw [List.getElem?_eq_none (by rw [List.length_set]; omega)] at q; cases q
    · rw [List.getElem?_set_ne c] at q ⊢
      obtain ⟨a, b, r'⟩ := e.ow j d' ((List.mem_cons.mp m).resolve_left fun z => c z.symm) q
      refine ⟨a, b, ?_⟩
      cases r' with
      | lst x y => exact .lst (s _ _ x) (y.mono mo)
      | dic x y => exact .dic (s _ _ x) (y.mono mo)
end DL
end

section
set_option Elab.async false
set_option linter.all false
set_option maxRecDepth 100000
set_option maxHeartbeats 2000000
set_option autoImplicit false
/-! DL5: what is walked, targets, comprehensions, statements, defs. -/
namespace DL
open PySem PySem.Spec PyProof.Rows L2

/-! ### what is walked -/
structure ItOk (K : PySem.W.Frag) (Hb : Hp) (J : It) (items : List D) : Prop where
  go : ∀ i H, i < items.length → Same Hb H → J.go i H
  stop : ∀ H, Same Hb H → J.stop items.length H
  yld : ∀ i d x H H', items[i]? = some d → Same Hb H → J.yld i H x H' → Same H H' ∧ ∀ A : Addr → Prop, Dom A H → (∀ a, A a → Hb a = none) → R K (Cut A H') x d
def TIok (K : PySem.W.Frag) (mg : Str → Option Value) (E : XK) (own : List Nat) (wi : TI) (f : Ax) : Prop :=
  ∀ (O : Addr → Prop) (H0 : Hp) (ρ : Rho) (σ : L2.St) (H : Hp) (W : It → Hp → Prop), EnvOk K O H0 own ρ σ H →
    ResW mg E H (fun items => ∀ J H', Same H H' → ItOk K (Cut (AllA O own σ) H') J items → W J H') (f ρ) → wi σ H W
structure DI (X : Cx) (K : PySem.W.Frag) (mg : Str → Option Value) (E : XK) (own : List Nat) (tg it : Expr) (wi : TI) (f : Ax) : Prop where
  pi : PI X tg it wi
  ok : TIok K mg E own wi f
theorem cut_back {A A' : Addr → Prop} {H H' : Hp} (s : Same (Cut A H) H') (h : ∀ a, A' a → Cut A H a = none) : Same (Cut A H) (Cut A' H') := fun a o e => by
  rw [cut_out]
  · exact s a o e
  · intro z; rw [h a z] at e; cases e
section
variable {X : Cx} {K : PySem.W.Frag} {mg : Str → Option Value} {E : XK} {own : List Nat} {tg a b : Expr} {ta tb : TE} {fa fb : Ex} {p pos : Pos}
def itL (fa : Ex) : Ax := fun ρ => (fa ρ).bind fun d => match d with
  | .list ds => .ok ds
  | _ => .bad
def itT (fa : Ex) : Ax := fun ρ => (fa ρ).bind fun d => match d with
  | .tuple ds => .ok ds
  | _ => .bad
theorem itOk_list {K : PySem.W.Frag} {Hb : Hp} {l : Addr} {xs : List V} {ds : List D} (q : Hb l = some (.lst xs)) (r : RAll K Hb xs ds) : ItOk K Hb (Itl K l) ds := by
  have uq : ∀ {H : Hp} {ys : List V}, Same Hb H → ∀ zs, SqL K H l zs → (∀ ws, SqL K H l ws → ws[0]? = ws[0]?) → True := fun _ _ _ _ => trivial
  refine ⟨fun i H hi s => ?_, fun H s => ⟨xs, .of (s _ _ q), by rw [r.length]; exact Nat.le_refl _⟩, fun i d x H H' hd s y => ?_⟩
  · have hi' : i < xs.length := by rw [r.length]; exact hi
    exact ⟨xs, xs[i], .of (s _ _ q), by simp [hi']⟩
  · obtain ⟨e, y⟩ := y
    subst e
    obtain ⟨v, hv, rv⟩ := r.get hd
    have := y xs (.of (s _ _ q))
    rw [hv] at this
    cases this
    exact ⟨Same.refl _, fun A dm ha => rv.mono fun b o h => by rw [cut_out]; exact s b o h; intro z; rw [ha b z] at h; cases h⟩
theorem itOk_tup {K : PySem.W.Frag} {Hb : Hp} {l : Addr} {xs : List V} {ds : List D} (q : SqT K Hb l xs) (r : RAll K Hb xs ds) : ItOk K Hb (Itt K l) ds := by
  refine ⟨fun i H hi s => ?_, fun H s => ⟨xs, sqT_same s q, by rw [r.length]; exact Nat.le_refl _⟩, fun i d x H H' hd s y => ?_⟩
  · have hi' : i < xs.length := by rw [r.length]; exact hi
    exact ⟨xs, xs[i], sqT_same s q, by simp [hi']⟩
  · obtain ⟨e, y⟩ := y
    subst e
    obtain ⟨v, hv, rv⟩ := r.get hd
    have := y xs (sqT_same s q)
    rw [hv] at this
    cases this
    exact ⟨Same.refl _, fun A dm ha => rv.mono fun b o h => by rw [cut_out]; exact s b o h; intro z; rw [ha b z] at h; cases h⟩
theorem di_list (ha : DE X K mg E own a ta fa) (hK : X.K = K := by rfl) : DI X K mg E own tg a (iList K ta) (itL fa) := by
  subst hK
  exact ⟨pi_list ha.pe, fun O H0 ρ σ H W e w => by
    unfold itL at w
    rw [resW_bind] at w
    refine ha.ok O H0 ρ σ H _ e (w.mono (Same.refl H) fun d wd v H1 s1 r1 => ?_)
    cases d <;> first | exact wd.elim | skip
    obtain ⟨l, xs, rfl, q, r⟩ := r1.list_of
    exact ⟨l, rfl, ⟨xs, .of (cut_sub _ _ q)⟩, wd _ H1 s1 (itOk_list q r)⟩⟩
theorem di_tup (ha : DE X K mg E own a ta fa) (hK : X.K = K := by rfl) : DI X K mg E own tg a (iTup K ta) (itT fa) := by
  subst hK
  exact ⟨pi_tup ha.pe, fun O H0 ρ σ H W e w => by
    unfold itT at w
    rw [resW_bind] at w
    refine ha.ok O H0 ρ σ H _ e (w.mono (Same.refl H) fun d wd v H1 s1 r1 => ?_)
    cases d <;> first | exact wd.elim | skip
    obtain ⟨l, xs, rfl, q, r⟩ := r1.tuple_of
    exact ⟨l, rfl, ⟨xs, sqT_same cut_sub q⟩, wd _ H1 s1 (itOk_tup q r)⟩⟩
/-- range(n), range(a, b) -/
def rangeD (lo : Int) (n : Nat) : List D := (List.range n).map fun i => .int (lo + (i : Nat))
theorem itOk_rng {K : PySem.W.Frag} {Hb : Hp} {lo : Int} {n : Nat} : ItOk K Hb (Itr lo n) (rangeD lo n) := by
  have hl : (rangeD lo n).length = n := by unfold rangeD; rw [List.length_map, List.length_range]
  refine ⟨fun i H hi s => by rw [hl] at hi; exact hi, fun H s => by rw [hl]; exact Nat.le_refl _, fun i d x H H' hd s y => ?_⟩
  obtain ⟨e, rfl⟩ := y
  subst e
  unfold rangeD at hd
  rw [List.getElem?_map] at hd
  obtain ⟨j, e1, rfl⟩ := Option.map_eq_some_iff.mp hd
  have hi : i < n := by
    have := (List.getElem?_eq_some_iff.mp e1).1
    rwa [List.length_range] at this
  rw [List.getElem?_range hi] at e1
  cases e1
  exact ⟨Same.refl _, fun A _ _ => .int _⟩
def itR1 (fa : Ex) : Ax := fun ρ => (fa ρ).bind fun d => match d with
  | .int n => if n < 1000000000 ∧ -1000000000 < n then .ok (rangeD 0 n.toNat) else .bad
  | _ => .bad
def itR2 (fa fb : Ex) : Ax := fun ρ => (fa ρ).bind fun d => (fb ρ).bind fun e => match d, e with
  | .int m, .int n => if n < 1000000000 ∧ -1000000000 < n ∧ m < 1000000000 ∧ -1000000000 < m then .ok (rangeD m (n - m).toNat) else .bad
  | _, _ => .bad
theorem di_range1 (hg : Gl X "range") (hm : X.mg "range" = none) (ha : DE X K mg E own a ta fa) (he : starEach (a :: []) X.env = (false, eval a X.env) :: starEach [] X.env := by rfl) (hs : starEach [a] X.env = [(false, eval a X.env)] := by rfl) :
    DI X K mg E own tg (.Call (.Name "range" p) [a] [] pos) (iRng1 (tCons ta tNil)) (itR1 fa) :=
  ⟨pi_range1 hg hm (pa_cons ha.pe pa_nil he) hs, fun O H0 ρ σ H W e w => by
    unfold itR1 at w
    rw [resW_bind] at w
    refine ha.ok O H0 ρ σ H _ e (w.mono (Same.refl H) fun d wd v H1 s1 r1 => ?_)
    cases d <;> first | exact wd.elim | skip
    rename_i n
    rw [r1.int_of]
    replace wd : ResW _ _ _ _ (if n < 1000000000 ∧ -1000000000 < n then .ok (rangeD 0 n.toNat) else .bad) := wd
    by_cases c : n < 1000000000 ∧ -1000000000 < n
    · rw [if_pos c] at wd
      exact ⟨n, rfl, by omega, by omega, wd _ H1 s1 itOk_rng⟩
    · rw [if_neg c] at wd; exact wd.elim⟩
theorem di_range2 (hg : Gl X "range") (hm : X.mg "range" = none) (ha : DE X K mg E own a ta fa) (hb : DE X K mg E own b tb fb) (he : starEach (a :: [b]) X.env = (false, eval a X.env) :: starEach [b] X.env := by rfl) (he2 : starEach (b :: []) X.env = (false, eval b X.env) :: starEach [] X.env := by rfl)
    (hs : starEach [a, b] X.env = [(false, eval a X.env), (false, eval b X.env)] := by rfl) (hs2 : starEach [b] X.env = [(false, eval b X.env)] := by rfl) :
    DI X K mg E own tg (.Call (.Name "range" p) [a, b] [] pos) (iRng2 (tCons ta (tCons tb tNil))) (itR2 fa fb) :=
  ⟨pi_range2 hg hm (pa_cons ha.pe (pa_cons hb.pe pa_nil he2) he) hs hs2, fun O H0 ρ σ H W e w => by
    unfold itR2 at w
    rw [resW_bind] at w
    refine ha.ok O H0 ρ σ H _ e (w.mono (Same.refl H) fun d wd v H1 s1 r1 => ?_)
    rw [resW_bind] at wd
    refine hb.ok O H0 ρ σ H1 _ (e.mono s1) (wd.mono s1 fun d2 wd v2 H2 s2 r2 => ?_)
    cases d <;> first | exact wd.elim | skip
    cases d2 <;> first | exact wd.elim | skip
    rename_i m _ n
    rw [r1.int_of, r2.int_of]
    replace wd : ResW _ _ _ _ (if n < 1000000000 ∧ -1000000000 < n ∧ m < 1000000000 ∧ -1000000000 < m then .ok (rangeD m (n - m).toNat) else .bad) := wd
    by_cases c : n < 1000000000 ∧ -1000000000 < n ∧ m < 1000000000 ∧ -1000000000 < m
    · rw [if_pos c] at wd
      exact ⟨m, n, rfl, ⟨by omega, by omega, by omega, by omega⟩, wd _ H2 (s1.trans s2) itOk_rng⟩
    · rw [if_neg c] at wd; exact wd.elim⟩
end

/-! ### targets -/
inductive Tgt where
  | nm (i : Nat)
  | tp (is : List Nat)
def putAll : List Nat → List D → Rho → Option Rho
  | [], [], ρ => some ρ
  | i :: is, d :: ds, ρ => putAll is ds (ρ.set i (some d))
  | _, _, _ => none
def Tgt.put : Tgt → D → Rho → Option Rho
  | .nm i, d, ρ => some (ρ.set i (some d))
  | .tp is, .tuple ds, ρ => putAll is ds ρ
  | _, _, _ => none
def Tgt.slots : Tgt → List Nat
  | .nm i => [i]
  | .tp is => is
/-- σ' differs from σ at the slots is alone -/
def Diff (is : List Nat) (σ σ' : L2.St) : Prop := σ'.length = σ.length ∧ ∀ i, i ∉ is → σ'[i]? = σ[i]?
def TGok (K : PySem.W.Frag) (own : List Nat) (g : TG) (tg : Tgt) : Prop :=
  ∀ (O : Addr → Prop) (H0 : Hp) (ρ : Rho) (σ : L2.St) (H : Hp) (v : V) (d : D) (Q : L2.St → Hp → Prop), EnvOk K O H0 own ρ σ H → R K (Cut (AllA O own σ) H) v d →
    OkW (fun ρ' => ∀ σ', Diff tg.slots σ σ' → AllA O own σ' = AllA O own σ → EnvOk K O H0 own ρ' σ' H → Q σ' H) (tg.put d ρ) → g v σ H Q
structure DG (X : Cx) (K : PySem.W.Frag) (own : List Nat) (e : Expr) (g : TG) (tg : Tgt) : Prop where
  pg : PG X e g
  ok : TGok K own g tg
theorem diff_set {i : Nat} {σ : L2.St} {o : Option V} {is : List Nat} (h : i ∈ is) : Diff is σ (σ.set i o) := ⟨List.length_set, fun j hj => List.getElem?_set_ne fun z => hj (by rw [← z]; exact h)⟩
theorem Diff.trans {is : List Nat} {a b c : L2.St} (h : Diff is a b) (k : Diff is b c) : Diff is a c := ⟨k.1.trans h.1, fun i hi => (k.2 i hi).trans (h.2 i hi)⟩
section
variable {X : Cx} {K : PySem.W.Frag} {own : List Nat} {pos : Pos}
theorem dg_name {i : Nat} {x : Str} (hi' : i ∉ own := by decide) (hN : X.N.Nodup) (hi : X.N[i]? = some x := by rfl) (hx : Loc X.env.scope x := by first | exact Or.inl rfl | exact Or.inr rfl) (hf : X.fn x = true ∨ X.env.scope.names.lookup x = some .local := by first | exact .inl rfl | exact .inr rfl | assumption) :
    DG X K own (.Name x pos) (gName i) (.nm i) :=
  ⟨pg_name hN hi hx hf, fun O H0 ρ σ H v d Q e r w => w _ (diff_set List.mem_cons_self) (all_set hi') (e.setSh hi' r)⟩
def TGsOk (K : PySem.W.Frag) (own : List Nat) (g : TGs) (is : List Nat) : Prop :=
  ∀ (O : Addr → Prop) (H0 : Hp) (ρ : Rho) (σ : L2.St) (H : Hp) (vs : List V) (ds : List D) (Q : L2.St → Hp → Prop), EnvOk K O H0 own ρ σ H → RAll K (Cut (AllA O own σ) H) vs ds →
    OkW (fun ρ' => ∀ σ', Diff is σ σ' → AllA O own σ' = AllA O own σ → EnvOk K O H0 own ρ' σ' H → Q σ' H) (putAll is ds ρ) → g vs σ H Q
structure DGs (X : Cx) (K : PySem.W.Frag) (own : List Nat) (es : List Expr) (g : TGs) (is : List Nat) : Prop where
  pg : PGs X es g
  ok : TGsOk K own g is
theorem dgs_nil : DGs X K own [] gNil [] := ⟨pgs_nil, fun O H0 ρ σ H vs ds Q e r w => by
  cases r with
  | nil => exact ⟨rfl, w σ ⟨rfl, fun _ _ => rfl⟩ rfl e⟩
  | cons _ _ => exact w.elim⟩
theorem dgs_cons {e : Expr} {es : List Expr} {t : TG} {u : TGs} {i : Nat} {is : List Nat} (h1 : DG X K own e t (.nm i)) (h2 : DGs X K own es u is)
    (hs : (assignEach (e :: es) X.env).map (·.2) = assign e X.env :: (assignEach es X.env).map (·.2) := by rfl) : DGs X K own (e :: es) (gCons t u) (i :: is) :=
  ⟨pgs_cons h1.pg h2.pg hs, fun O H0 ρ σ H vs ds Q e r w => by
    cases r with
    | nil => exact w.elim
    | cons r rs =>
      refine ⟨_, _, rfl, h1.ok O H0 ρ σ H _ _ _ e r ?_⟩
      intro σ1 d1 a1 e1
      refine h2.ok O H0 _ σ1 H _ _ Q e1 (by rw [a1]; exact rs) (OkW.mono w fun ρ' k σ' d2 a2 e2 => k σ' ?_ (a2.trans a1) e2)
      refine ⟨d2.1.trans d1.1, fun j hj => (d2.2 j fun z => hj (List.mem_cons_of_mem _ z)).trans (d1.2 j fun z => hj ?_)⟩
      have z : j ∈ [i] := z
      rw [List.mem_singleton.mp z]
      exact List.mem_cons_self⟩
theorem RAll_len {K : PySem.W.Frag} {H : Hp} {vs : List V} {ds : List D} (h : RAll K H vs ds) : vs.length = ds.length := h.length
theorem putAll_len : ∀ {is : List Nat} {ds : List D} {ρ ρ' : Rho}, putAll is ds ρ = some ρ' → is.length = ds.length
  | [], [], _, _, _ => rfl
  | i :: is, d :: ds, ρ, ρ', h => by rw [List.length_cons, List.length_cons, putAll_len (is := is) (ds := ds) h]
  | [], _ :: _, _, _, h => by cases h
  | _ :: _, [], _, _, h => by cases h
theorem dg_tup {es : List Expr} {k : Nat} {t : TGs} {is : List Nat} (hc : X.calm = true) (h : DGs X K own es t is) (hl : es.length = is.length := by rfl)
    (hn : (assignEach es X.env).length = es.length := by rfl) (hst : (assignEach es X.env).findIdx? (·.1) = none := by rfl) (hK : X.K = K := by rfl) : DG X K own (.Tuple es k pos) (gTup K es.length t) (.tp is) := by
  subst hK
  exact ⟨pg_tup hc h.pg hn hst, fun O H0 ρ σ H v d Q e r w => by
    cases d <;> first | exact w.elim | skip
    rename_i ds
    obtain ⟨a, xs, rfl, q, rs⟩ := r.tuple_of
    refine ⟨a, xs, rfl, sqT_same cut_sub q, ?_, h.ok O H0 ρ σ H xs ds Q e rs w⟩
    obtain ⟨ρ', e1, _⟩ := OkW.of_some w
    rw [rs.length, hl]
    exact (putAll_len e1).symm⟩
end

/-! ### comprehensions -/
def wipeR (ρ : Rho) : List Nat → Rho
  | [] => ρ
  | v :: vs => (wipeR ρ vs).set v none
theorem wipeR_length (ρ : Rho) : ∀ vs, (wipeR ρ vs).length = ρ.length
  | [] => rfl
  | v :: vs => by unfold wipeR; rw [List.length_set, wipeR_length ρ vs]
theorem wipeR_get {ρ : Rho} {i : Nat} {d : D} : ∀ {vs : List Nat}, (wipeR ρ vs)[i]? = some (some d) → ρ[i]? = some (some d) ∧ i ∉ vs
  | [], h => ⟨h, by simp⟩
  | v :: vs, h => by
    unfold wipeR at h
    by_cases hi : v = i
    · subst hi
      by_cases hv : v < (wipeR ρ vs).length
      · rw [List.getElem?_set_self hv] at h; cases h
      · rw [List.getElem?_eq_none (by rw [List.length_set]; omega)] at h; cases h
    · rw [List.getElem?_set_ne hi] at h
      obtain ⟨h1, h2⟩ := wipeR_get h
      exact ⟨h1, fun m => by rcases List.mem_cons.mp m with z | z; exact hi z.symm; exact h2 z⟩
theorem wipe_get {σ : L2.St} {i : Nat} : ∀ {vs : List Nat}, i ∉ vs → (wipe σ vs)[i]? = σ[i]?
  | [], _ => rfl
  | v :: vs, h => by
    show ((wipe σ vs).set v none)[i]? = _
    have e : v ≠ i := fun z => h (by rw [z]; exact List.mem_cons_self)
    rw [List.getElem?_set_ne e, wipe_get fun z => h (List.mem_cons_of_mem _ z)]
theorem wipe_none {σ : L2.St} {i : Nat} : ∀ {vs : List Nat}, i ∈ vs → i < σ.length → (wipe σ vs)[i]? = some none
  | v :: vs, h, hl => by
    show ((wipe σ vs).set v none)[i]? = _
    by_cases e : v = i
    · subst e
      rw [List.getElem?_set_self (by rw [wipe_length]; exact hl)]
    · rw [List.getElem?_set_ne e]
      exact wipe_none ((List.mem_cons.mp h).resolve_left fun z => e z.symm) hl
theorem wipe_eq {σ σ' : L2.St} {vs is : List Nat} (d : Diff is (wipe σ vs) σ') (h : ∀ i ∈ is, i ∈ vs) : wipe σ' vs = wipe σ vs := by
  have hl : σ'.length = σ.length := d.1.trans (wipe_length σ vs)
  apply List.ext_getElem?
  intro i
  by_cases m : i ∈ vs
  · by_cases l : i < σ.length
    · rw [wipe_none m l, wipe_none m (by rw [hl]; exact l)]
    · rw [List.getElem?_eq_none (by rw [wipe_length]; omega), List.getElem?_eq_none (by rw [wipe_length]; omega)]
  · rw [wipe_get m, wipe_get m, d.2 i fun z => m (h i z), wipe_get m]
theorem own_wipe {own vs : List Nat} {σ : L2.St} (h : ∀ i ∈ vs, i ∉ own) {a : Addr} : OwnA own (wipe σ vs) a ↔ OwnA own σ a := by
  constructor
  · rintro ⟨i, m, q⟩
    exact ⟨i, m, by rw [wipe_get fun z => h i z m] at q; exact q⟩
  · rintro ⟨i, m, q⟩
    exact ⟨i, m, by rw [wipe_get fun z => h i z m]; exact q⟩
theorem all_wipe {O : Addr → Prop} {own vs : List Nat} {σ : L2.St} (h : ∀ i ∈ vs, i ∉ own) : AllA O own (wipe σ vs) = AllA O own σ := by
  funext a
  exact propext (or_congr Iff.rfl (own_wipe h))
theorem EnvOk.wipe {K : PySem.W.Frag} {O : Addr → Prop} {H0 H : Hp} {own vs : List Nat} {ρ : Rho} {σ : L2.St} (e : EnvOk K O H0 own ρ σ H) (h : ∀ i ∈ vs, i ∉ own) : EnvOk K O H0 own (wipeR ρ vs) (L2.wipe σ vs) H where
  len := by rw [wipe_length, wipeR_length]; exact e.len
  base := e.base
  dom := e.dom
  new := fun a z => e.new a ((own_wipe h).mp z)
  live := fun a z => e.live a ((own_wipe h).mp z)
  inj := fun i j a m m' q q' => by
    rw [wipe_get fun z => h i z m] at q
    rw [wipe_get fun z => h j z m'] at q'
    exact e.inj i j a m m' q q'
  sh := fun i d m q => by
    obtain ⟨q1, q2⟩ := wipeR_get q
    rw [all_wipe h, wipe_get q2]
    exact e.sh i d m q1
  ow := fun i d m q => by
    obtain ⟨q1, q2⟩ := wipeR_get q
    rw [all_wipe h, wipe_get q2]
    exact e.ow i d m q1
def compL (tg : Tgt) (ft : Tx) (fe : Ex) (ρ : Rho) : List D → Res (List D)
  | [] => .ok []
  | d :: r => match tg.put d ρ with
    | none => .bad
    | some ρ' => (ft ρ').calm.bind fun b => if b = true then (fe ρ').calm.bind fun x => (compL tg ft fe ρ r).bind fun xs => .ok (x :: xs) else compL tg ft fe ρ r
def comp (vs : List Nat) (tg : Tgt) (fi : Ax) (ft : Tx) (fe : Ex) : Ex := fun ρ => (fi ρ).bind fun items => if items.length ≤ sizeLine then (compL tg ft fe (wipeR ρ vs) items).bind fun ds => .ok (.list ds) else .bad
/-- the state a comprehension's block sees: what a caller owns, and the list that is made -/
theorem EnvOk.under {K : PySem.W.Frag} {O : Addr → Prop} {H0 H H' : Hp} {own : List Nat} {ρ : Rho} {σ : L2.St} {p : Addr} (e : EnvOk K O H0 own ρ σ H) (np : H p = none) (s : Same H H') (hp : H' p ≠ none) :
    EnvOk K (Plus O p) (fun a => if a = p then H' p else H0 a) own ρ σ H' := by
  have cs : Same (Cut (AllA O own σ) H) (Cut (AllA (Plus O p) own σ) H') := fun a o h => by
    obtain ⟨c, q⟩ := cut_some h
    rw [cut_out]
    · exact s a o q
    · rintro ((z | z) | z)
      · exact c (.inl z)
      · subst z; rw [np] at q; cases q
      · exact c (.inr z)
  refine ⟨e.len, fun a o h => ?_, fun a h z => ?_, fun a h => ?_, (e.mono s).live, e.inj, fun i d hi q => ?_, fun i d hi q => ?_⟩
  · by_cases z : a = p
    · subst z; rw [if_pos rfl] at h; exact h
    · rw [if_neg z] at h; exact s _ _ (e.base a o h)
  · by_cases y : a = p
    · subst y; rw [if_pos rfl] at z; exact hp z
    · rw [if_neg y] at z
      rcases h with h | h
      · exact e.dom a h z
      · exact y h
  · have ne : a ≠ p := fun z => e.live a h (z ▸ np)
    rw [if_neg ne]; exact e.new a h
  · obtain ⟨v, a, b⟩ := e.sh i d hi q
    exact ⟨v, a, b.mono cs⟩
  · obtain ⟨a, b, c⟩ := e.ow i d hi q
    refine ⟨a, b, ?_⟩
    cases c with
    | lst x y => exact .lst (s _ _ x) (y.mono cs)
    | dic x y => exact .dic (s _ _ x) (y.mono cs)
theorem all_under {O : Addr → Prop} {own : List Nat} {σ : L2.St} {p : Addr} : AllA (Plus O p) own σ = Plus (AllA O own σ) p := by
  funext a
  exact propext ⟨fun h => by rcases h with (h | h) | h; exact .inl (.inl h); exact .inr h; exact .inl (.inr h), fun h => by rcases h with (h | h) | h; exact .inl (.inl h); exact .inr h; exact .inl (.inr h)⟩
abbrev E0' : XK := fun _ _ _ => False
theorem resW_calm {α : Type} {mg : Str → Option Value} {E E' : XK} {H : Hp} {P : α → Prop} {x : Res α} (h : ResW mg E H P x.calm) : ResW mg E' H P x := by
  cases x with
  | ok a => exact h
  | exc c => exact h.elim
  | bad => exact h.elim
section
variable {K : PySem.W.Frag} {mg : Str → Option Value} {E : XK} {own vs : List Nat} {wi : TI} {g : TG} {tt : TT} {te : TE} {tg : Tgt} {fi : Ax} {ft : Tx} {fe : Ex}
theorem tf_lc (hi : TIok K mg E own wi fi) (hg : TGok K own g tg) (ht : TTok K mg E0' own tt ft) (he : TEok K mg E0' own te fe) (hv : ∀ i ∈ vs, i ∉ own) (hs : ∀ i ∈ tg.slots, i ∈ vs) : TFok K mg E own (tLc wi g tt te vs) (comp vs tg fi ft fe) := fun O H0 ρ σ H Q en w => by
  unfold comp at w
  rw [resW_bind] at w
  refine hi O H0 ρ σ H _ en (w.mono (Same.refl H) fun items wi J H1 s1 it => ?_)
  by_cases cz : items.length ≤ sizeLine
  case neg => rw [if_neg cz] at wi; exact wi.elim
  rw [if_pos cz] at wi
  intro Dl nD
  generalize hA : AllA O own σ = A at it wi
  have fin : ∃ ds, compL tg ft fe (wipeR ρ vs) items = .ok ds ∧ ∀ p H', Same H H' → H p = none → OwnR K (Cut (Plus A p) H') H' p (.list ds) → Q (.ref p) H' := by
    cases q : compL tg ft fe (wipeR ρ vs) items with
    | ok ds => rw [q] at wi; exact ⟨ds, rfl, wi⟩
    | exc c =>
      exfalso
      have noexc : ∀ l, compL tg ft fe (wipeR ρ vs) l ≠ .exc c := by
        intro l
        induction l with
        | nil => intro z; cases z
        | cons d r ih =>
          intro z
          unfold compL at z
          split at z
          · cases z
          · rename_i ρ' _
            cases hb : (ft ρ') with
            | ok b =>
              rw [hb] at z
              have z : (if b = true then (fe ρ').calm.bind fun x => (compL tg ft fe (wipeR ρ vs) r).bind fun xs => .ok (x :: xs) else compL tg ft fe (wipeR ρ vs) r) = .exc c := z
              split at z
              · cases hx : fe ρ' with
                | ok x =>
                  rw [hx] at z
                  have z : ((compL tg ft fe (wipeR ρ vs) r).bind fun xs => .ok (x :: xs)) = .exc c := z
                  cases hr : compL tg ft fe (wipeR ρ vs) r with
                  | ok xs => rw [hr] at z; cases z
                  | exc c' => rw [hr] at z; cases z; exact ih hr
                  | bad => rw [hr] at z; cases z
                | exc _ => rw [hx] at z; cases z
                | bad => rw [hx] at z; cases z
              · exact ih z
            | exc _ => rw [hb] at z; cases z
            | bad => rw [hb] at z; cases z
      exact noexc items q
    | bad => rw [q] at wi; exact wi.elim
  obtain ⟨ds, hds, k⟩ := fin
  have en1 := en.mono s1
  have hP : ∀ a, Plus A Dl a → Cut A H1 a = none := fun a h => by
    rcases h with h | h
    · exact cut_in h
    · subst h
      by_cases c : A a
      · exact cut_in c
      · rw [cut_out c]; exact nD
  -- the invariant
  refine ⟨fun i m H' => m = items.length - i ∧ i ≤ items.length ∧ ∃ acc xs rest, H' Dl = some (.lst acc) ∧ Same H1 H' ∧ RAll K (Cut (Plus A Dl) H') acc xs ∧ acc.length ≤ i ∧ compL tg ft fe (wipeR ρ vs) (items.drop i) = .ok rest ∧ xs ++ rest = ds,
    ⟨items.length, by simp, Nat.zero_le _, [], [], ds, upd_same, same_new nD, .nil, Nat.zero_le _, hds, rfl⟩, ?_⟩
  rintro i m H' ⟨rfl, hi', acc, xs, rest, hD, sm, ra, la, hr, hx⟩
  have sb : Same (Cut A H1) H' := fun a o h => sm a o (cut_sub a o h)
  by_cases hlt : i < items.length
  · refine .inr ⟨it.go i H' hlt sb, fun H2 => ∃ acc xs rest, H2 Dl = some (.lst acc) ∧ Same H1 H2 ∧ RAll K (Cut (Plus A Dl) H2) acc xs ∧ acc.length ≤ i + 1 ∧ compL tg ft fe (wipeR ρ vs) (items.drop (i + 1)) = .ok rest ∧ xs ++ rest = ds, fun H2 h => ⟨items.length - (i + 1), by omega, rfl, hlt, h⟩, fun x H2 y => ?_⟩
    obtain ⟨s2, rx⟩ := it.yld i items[i] x H' H2 (by simp [hlt]) sb y
    have dm : Dom (Plus A Dl) H' := fun a h z => by
      rcases h with h | h
      · exact (hA ▸ en1.domA).same sm a h z
      · subst h; rw [hD] at z; cases z
    have rx := rx (Plus A Dl) dm hP
    have hD2 : H2 Dl = some (.lst acc) := s2 _ _ hD
    have sm2 : Same H1 H2 := sm.trans s2
    have eu : EnvOk K (Plus O Dl) (fun a => if a = Dl then H2 Dl else H0 a) own (wipeR ρ vs) (L2.wipe σ vs) H2 := (en1.under nD sm2 (by rw [hD2]; intro z; cases z)).wipe hv
    have au : AllA (Plus O Dl) own (L2.wipe σ vs) = Plus A Dl := by rw [all_wipe hv, all_under, hA]
    rw [List.drop_eq_getElem_cons hlt] at hr
    unfold compL at hr
    refine hg _ _ _ _ H2 x items[i] _ eu (by rw [au]; exact rx) ?_
    cases hput : tg.put items[i] (wipeR ρ vs) with
    | none => rw [hput] at hr; cases hr
    | some ρ' =>
      rw [hput] at hr
      intro σ2 d2 a2 e2
      refine ⟨wipe_eq d2 hs, ?_⟩
      replace hr : ((ft ρ').calm.bind fun b => if b = true then (fe ρ').calm.bind fun x => (compL tg ft fe (wipeR ρ vs) (items.drop (i + 1))).bind fun xs => .ok (x :: xs) else compL tg ft fe (wipeR ρ vs) (items.drop (i + 1))) = .ok rest := hr
      refine ht _ _ ρ' σ2 H2 _ e2 ?_
      cases hft : ft ρ' with
      | exc _ => rw [hft] at hr; cases hr
      | bad => rw [hft] at hr; cases hr
      | ok b =>
        rw [hft] at hr
        intro H3 s3
        replace hr : (if b = true then (fe ρ').calm.bind fun x => (compL tg ft fe (wipeR ρ vs) (items.drop (i + 1))).bind fun xs => .ok (x :: xs) else compL tg ft fe (wipeR ρ vs) (items.drop (i + 1))) = .ok rest := hr
        cases b with
        | false =>
          rw [if_neg Bool.false_ne_true] at hr
          exact iteF ⟨acc, xs, rest, s3 _ _ hD2, sm2.trans s3, ra.mono (cut_same (s2.trans s3)), Nat.le_succ_of_le la, hr, hx⟩
        | true =>
          rw [if_pos rfl] at hr
          refine iteT (he _ _ ρ' σ2 H3 _ (e2.mono s3) ?_)
          cases hfe : fe ρ' with
          | exc _ => rw [hfe] at hr; cases hr
          | bad => rw [hfe] at hr; cases hr
          | ok z =>
            rw [hfe] at hr
            intro yv H4 s4 ry
            have hD4 : H4 Dl = some (.lst acc) := s4 _ _ (s3 _ _ hD2)
            have s14 : Same H1 H4 := sm2.trans (s3.trans s4)
            refine ⟨acc, hD4, by omega, ?_⟩
            replace hr : ((compL tg ft fe (wipeR ρ vs) (items.drop (i + 1))).bind fun xs => .ok (z :: xs)) = .ok rest := hr
            cases hrest : compL tg ft fe (wipeR ρ vs) (items.drop (i + 1)) with
            | exc _ => rw [hrest] at hr; cases hr
            | bad => rw [hrest] at hr; cases hr
            | ok rest' =>
              rw [hrest] at hr
              cases hr
              have ce : Cut (Plus A Dl) (upd H4 Dl (.lst (acc ++ [yv]))) = Cut (Plus A Dl) H4 := cut_upd_in (.inr rfl)
              refine ⟨acc ++ [yv], xs ++ [z], rest', upd_same, fun a o h => ?_, ?_, by rw [List.length_append]; simp; exact la, rfl, by rw [List.append_assoc]; exact hx⟩
              · rw [upd_ne (ne_of_none h nD)]; exact s14 a o h
              · rw [ce]
                refine (ra.mono (cut_same (s2.trans (s3.trans s4)))).append (.cons ?_ .nil)
                rw [← au, ← a2]
                exact ry
  · have e : i = items.length := by omega
    subst e
    rw [List.drop_length] at hr
    cases hr
    rw [List.append_nil] at hx
    subst hx
    exact .inl ⟨it.stop H' sb, k Dl H' (s1.trans sm) (s1.free nD) (.lst hD ra)⟩
end
def yes : Tx := fun _ => .ok true
theorem tt_yes {K : PySem.W.Frag} {mg : Str → Option Value} {E : XK} {own : List Nat} : TTok K mg E own tYes yes := fun O H0 ρ σ H Q e w => w H (Same.refl H)
structure DTs (X : Cx) (K : PySem.W.Frag) (mg : Str → Option Value) (E : XK) (own : List Nat) (es : List Expr) (t : TT) (f : Tx) : Prop where
  pt : PTs X es t
  ok : TTok K mg E own t f
theorem dts_nil {X : Cx} {K : PySem.W.Frag} {mg : Str → Option Value} {E : XK} {own : List Nat} : DTs X K mg E own [] tYes yes := ⟨pts_nil, tt_yes⟩
theorem dts_one {X : Cx} {K : PySem.W.Frag} {mg : Str → Option Value} {E : XK} {own : List Nat} {c : Expr} {t : TT} {f : Tx} (h : DT X K mg E own c t f) : DTs X K mg E own [c] t f := ⟨pts_one h.pt, h.ok⟩
section
variable {X : Cx} {K : PySem.W.Frag} {mg : Str → Option Value} {E : XK} {own : List Nat} {elt tgx iter : Expr} {ifs : List Expr} {scope : Scope} {cown : List (Str × Nat)} {pos : Pos} {wi : TI} {g : TG} {tt : TT} {te : TE} {tg : Tgt} {fi : Ax} {ft : Tx} {fe : Ex}
theorem df_lc (hc : X.calm = true) (hN : X.N.Nodup) (hi : DI X K mg E own tgx iter wi fi) (ok : BlkOk X.N X.env.scope scope cown)
    (hg : ∀ (s : Shared) (H : Hp) (C : Addr) (cl : List (Str × Addr)) (fp : List Addr), DG (X.blk s H scope (compEnvC scope cl C X.env) fp) K own tgx g tg)
    (ht : ∀ (s : Shared) (H : Hp) (C : Addr) (cl : List (Str × Addr)) (fp : List Addr), DTs (X.blk s H scope (compEnvC scope cl C X.env) fp) K mg E0' own ifs tt ft)
    (he : ∀ (s : Shared) (H : Hp) (C : Addr) (cl : List (Str × Addr)) (fp : List Addr), DE (X.blk s H scope (compEnvC scope cl C X.env) fp) K mg E0' own elt te fe)
    (hv : ∀ i ∈ cown.map (·.2), i ∉ own := by decide) (hsl : ∀ i ∈ tg.slots, i ∈ cown.map (·.2) := by decide) (hs : ∀ x, foldedSetIterable iter X.env x = pure x := by intro _; rfl) :
    DF X K mg E own (.ListComp elt [⟨tgx, iter, ifs, 0⟩] scope pos) (tLc wi g tt te (cown.map (·.2))) (comp (cown.map (·.2)) tg fi ft fe) :=
  ⟨pe_lc hc hN hi.pi ok (fun s H C cl fp => (hg s H C cl fp).pg) (fun s H C cl fp => (ht s H C cl fp).pt) (fun s H C cl fp => (he s H C cl fp).pe) hs,
    tf_lc hi.ok (hg {} (fun _ => none) 0 [] []).ok (ht {} (fun _ => none) 0 [] []).ok (he {} (fun _ => none) 0 [] []).ok hv hsl⟩
end
end DL
end

section
set_option Elab.async false
set_option linter.all false
set_option maxRecDepth 100000
set_option maxHeartbeats 2000000
set_option autoImplicit false
/-! DL6: statements, defs, calls. -/
namespace DL
open PySem PySem.Spec PyProof.Rows L2

inductive Out where
  | nx (ρ : Rho)
  | rt (d : D)
  | exc (c : Str)
  | bad
abbrev Gx := Rho → Out
def OutW (K : PySem.W.Frag) (mg : Str → Option Value) (E : XK) (O : Addr → Prop) (H0 : Hp) (own : List Nat) (D : Ends) : Out → Prop
  | .nx ρ => ∀ σ H, EnvOk K O H0 own ρ σ H → D.nx σ H
  | .rt d => ∀ v H, Same H0 H → R K (Cut O H) v d → D.rt v H
  | .exc c => ∃ C, mg c = some (.ref C) ∧ ∀ H, Same H0 H → E (.ref C) none H
  | .bad => False
def TSok (K : PySem.W.Frag) (mg : Str → Option Value) (E : XK) (own own' : List Nat) (t : TS) (g : Gx) : Prop :=
  ∀ (O : Addr → Prop) (H0 : Hp) (ρ : Rho) (σ : L2.St) (H : Hp) (D : Ends), EnvOk K O H0 own ρ σ H → OutW K mg E O H0 own' D (g ρ) → t D σ H
structure DS (X : Cx) (K : PySem.W.Frag) (mg : Str → Option Value) (E : XK) (own own' : List Nat) (st : Stmt) (t : TS) (g : Gx) : Prop where
  ps : PS X st t
  ok : TSok K mg E own own' t g
structure DSs (X : Cx) (K : PySem.W.Frag) (mg : Str → Option Value) (E : XK) (own own' : List Nat) (st : List Stmt) (t : TS) (g : Gx) : Prop where
  ps : PSs X st t
  ok : TSok K mg E own own' t g
/-- a result's raise is the statement's -/
def Res.out {α : Type} (x : Res α) (k : α → Out) : Out := match x with
  | .ok a => k a
  | .exc c => .exc c
  | .bad => .bad
@[simp] theorem out_ok {α : Type} (a : α) (k : α → Out) : (Res.ok a).out k = k a := rfl
@[simp] theorem out_exc {α : Type} (c : Str) (k : α → Out) : (Res.exc c : Res α).out k = .exc c := rfl
@[simp] theorem out_bad {α : Type} (k : α → Out) : (Res.bad : Res α).out k = .bad := rfl
section
variable {K : PySem.W.Frag} {mg : Str → Option Value} {E : XK} {O : Addr → Prop} {H0 H : Hp} {own own' own'' : List Nat} {D : Ends}
theorem outW_out {α : Type} {x : Res α} {k : α → Out} {ρ : Rho} {σ : L2.St} (e : EnvOk K O H0 own ρ σ H) (h : OutW K mg E O H0 own' D (x.out k)) : ResW mg E H (fun a => OutW K mg E O H0 own' D (k a)) x := by
  cases x with
  | ok a => exact h
  | exc c => obtain ⟨C, a, b⟩ := h; exact ⟨C, a, fun H' s => b H' (e.base.trans s)⟩
  | bad => exact h
def gSkip : Gx := fun ρ => .nx ρ
def gSeq (g h : Gx) : Gx := fun ρ => match g ρ with
  | .nx ρ' => h ρ'
  | o => o
theorem ts_next : TSok K mg E own own tNext gSkip := fun O H0 ρ σ H D e w => w σ H e
theorem ts_seq {t u : TS} {g h : Gx} (h1 : TSok K mg E own own' t g) (h2 : TSok K mg E own' own'' u h) : TSok K mg E own own'' (tSeq t u) (gSeq g h) := fun O H0 ρ σ H D e w => by
  refine h1 O H0 ρ σ H _ e ?_
  unfold gSeq at w
  cases q : g ρ with
  | nx ρ' => rw [q] at w; exact fun σ' H' e' => h2 O H0 ρ' σ' H' D e' w
  | rt d => rw [q] at w; exact w
  | exc c => rw [q] at w; exact w
  | bad => rw [q] at w; exact w
/-- what is changed no more -/
theorem ts_freeze {t : TS} {g : Gx} {o1 : List Nat} (h : TSok K mg E own' own'' t g) (s : ∀ i ∈ own', i ∈ own) : TSok K mg E own own'' t g := fun O H0 ρ σ H D e w => h O H0 ρ σ H D (e.freeze s) w
theorem ts_out {t : TS} {g : Gx} (h : TSok K mg E own own' t g) (s : ∀ i ∈ own'', i ∈ own') : TSok K mg E own own'' t g := fun O H0 ρ σ H D e w => h O H0 ρ σ H D e (by
  cases q : g ρ with
  | nx ρ' => rw [q] at w; exact fun σ' H' e' => w σ' H' (e'.freeze s)
  | rt d => rw [q] at w; exact w
  | exc c => rw [q] at w; exact w
  | bad => rw [q] at w; exact w)
end
section
variable {X : Cx} {K : PySem.W.Frag} {mg : Str → Option Value} {E : XK} {own own' own'' : List Nat} {st : Stmt} {rest : List Stmt} {t u : TS} {g h : Gx} {e c : Expr} {te : TE} {f : Ex} {pos : Pos}
theorem dss_nil : DSs X K mg E own own [] tNext gSkip := ⟨pss_nil, ts_next⟩
theorem dss_cons (h1 : DS X K mg E own own' st t g) (h2 : DSs X K mg E own' own'' rest u h) : DSs X K mg E own own'' (st :: rest) (tSeq t u) (gSeq g h) := ⟨pss_cons h1.ps h2.ps, ts_seq h1.ok h2.ok⟩
theorem dss_one (h1 : DS X K mg E own own' st t g) : DSs X K mg E own own' [st] t g := ⟨pss_one h1.ps, h1.ok⟩
theorem dss_freeze (own' : List Nat) (h : DSs X K mg E own' own'' rest u g) (s : ∀ i ∈ own', i ∈ own := by decide) : DSs X K mg E own own'' rest u g := ⟨h.ps, ts_freeze (o1 := []) h.ok s⟩
theorem dss_out (own' : List Nat) (h : DSs X K mg E own own' rest u g) (s : ∀ i ∈ own'', i ∈ own' := by decide) : DSs X K mg E own own'' rest u g := ⟨h.ps, ts_out h.ok s⟩
theorem ds_pass : DS X K mg E own own (.Pass pos) tNext gSkip := ⟨ps_pass, ts_next⟩
def gDrop (f : Ex) : Gx := fun ρ => (f ρ).out fun _ => .nx ρ
theorem ds_expr (he : DE X K mg E own e te f) (hs : swapsWith e none pos.line X.env = pure false := by rfl) : DS X K mg E own own (.Expr e pos) (tDrop te) (gDrop f) :=
  ⟨ps_expr he.pe hs, fun O H0 ρ σ H D en w => he.ok O H0 ρ σ H _ en ((outW_out en w).mono (Same.refl H) fun d wd v H1 s1 r1 => wd σ H1 (en.mono s1))⟩
def gRet (f : Ex) : Gx := fun ρ => (f ρ).out fun d => .rt d
theorem ds_ret (he : DE X K mg E own e te f) : DS X K mg E own own' (.Return (some e) pos) (tRet te) (gRet f) :=
  ⟨ps_ret he.pe, fun O H0 ρ σ H D en w => he.ok O H0 ρ σ H _ en ((outW_out en w).mono (Same.refl H) fun d wd v H1 s1 r1 => wd v H1 (en.base.trans s1) (r1.mono (cut_mono fun a h => .inl h)))⟩
def gRetN : Gx := fun _ => .rt .none
theorem ds_retN : DS X K mg E own own' (.Return none pos) tRetN gRetN := ⟨ps_retN, fun O H0 ρ σ H D en w => w .non H en.base .non⟩
def gIf (c : Tx) (g h : Gx) : Gx := fun ρ => (c ρ).out fun b => if b = true then g ρ else h ρ
theorem ds_if {a b : List Stmt} {tc : TT} {fc : Tx} (hc : DT X K mg E own c tc fc) (ha : DSs X K mg E own own' a t g) (hb : DSs X K mg E own own' b u h) : DS X K mg E own own' (.If c a b pos) (tIfS tc t u) (gIf fc g h) :=
  ⟨ps_if hc.pt ha.ps hb.ps, fun O H0 ρ σ H D en w => hc.ok O H0 ρ σ H _ en ((outW_out en w).mono (Same.refl H) fun k wk H1 s1 => by
    cases k with
    | true => exact iteT (ha.ok O H0 ρ σ H1 D (en.mono s1) (show OutW _ _ _ _ _ _ _ (g ρ) from wk))
    | false => exact iteF (hb.ok O H0 ρ σ H1 D (en.mono s1) (show OutW _ _ _ _ _ _ _ (h ρ) from wk)))⟩
def gBad : Gx := fun _ => .bad
/-- what is never come to -/
theorem ds_never : DS X K mg E own own' st tNever gBad := ⟨ps_never, fun O H0 ρ σ H D en w => w.elim⟩
theorem dss_never : DSs X K mg E own own' rest tNever gBad := ⟨pss_never, fun O H0 ρ σ H D en w => w.elim⟩

/-! ### names are given values -/
def gSet (i : Nat) (f : Ex) : Gx := fun ρ => (f ρ).out fun d => .nx (ρ.set i (some d))
theorem ds_set (i : Nat) {x : Str} {pos' : Pos} (hi' : i ∉ own := by decide) (hN : X.N.Nodup) (he : DE X K mg E own e te f) (hi : X.N[i]? = some x := by rfl) (hx : Loc X.env.scope x := by first | exact Or.inl rfl | exact Or.inr rfl)
    (hs : swapsWith e (some (.Name x pos')) pos.line X.env = pure false := by rfl) (hf : X.fn x = true ∨ X.env.scope.names.lookup x = some .local := by first | exact .inl rfl | exact .inr rfl | assumption) :
    DS X K mg E own own (.Assign [.Name x pos'] e pos) (tAsg te (gName i)) (gSet i f) :=
  ⟨ps_set hN hi hx he.pe hs hf, fun O H0 ρ σ H D en w => he.ok O H0 ρ σ H _ en ((outW_out en w).mono (Same.refl H) fun d wd v H1 s1 r1 => wd _ H1 ((en.mono s1).setSh hi' r1))⟩
theorem ds_new (i : Nat) {x : Str} {pos' : Pos} (hi' : i ∉ own := by decide) (hN : X.N.Nodup) (he : DF X K mg E own e te f) (hi : X.N[i]? = some x := by rfl) (hx : Loc X.env.scope x := by first | exact Or.inl rfl | exact Or.inr rfl)
    (hs : swapsWith e (some (.Name x pos')) pos.line X.env = pure false := by rfl) (hf : X.fn x = true ∨ X.env.scope.names.lookup x = some .local := by first | exact .inl rfl | exact .inr rfl | assumption) :
    DS X K mg E own (i :: own) (.Assign [.Name x pos'] e pos) (tAsg te (gName i)) (gSet i f) :=
  ⟨ps_set hN hi hx he.pe hs hf, fun O H0 ρ σ H D en w => he.ok O H0 ρ σ H _ en ((outW_out en w).mono (Same.refl H) fun d wd p H1 s1 np r1 => wd _ H1 (en.setNew hi' s1 np r1))⟩
/-- y = [..]: the comprehension stored within its own frame -/
theorem ds_setC (i : Nat) {x : Str} {pos' : Pos} (h : PS X (.Assign [.Name x pos'] e pos) (tAsg te (gName i))) (ok : TFok K mg E own te f) (hi' : i ∉ own := by decide) : DS X K mg E own own (.Assign [.Name x pos'] e pos) (tAsg te (gName i)) (gSet i f) :=
  ⟨h, fun O H0 ρ σ H D en w => te_of_tf ok O H0 ρ σ H _ en ((outW_out en w).mono (Same.refl H) fun d wd v H1 s1 r1 => wd _ H1 ((en.mono s1).setSh hi' r1))⟩
theorem ds_newC (i : Nat) {x : Str} {pos' : Pos} (h : PS X (.Assign [.Name x pos'] e pos) (tAsg te (gName i))) (ok : TFok K mg E own te f) (hi' : i ∉ own := by decide) : DS X K mg E own (i :: own) (.Assign [.Name x pos'] e pos) (tAsg te (gName i)) (gSet i f) :=
  ⟨h, fun O H0 ρ σ H D en w => ok O H0 ρ σ H _ en ((outW_out en w).mono (Same.refl H) fun d wd p H1 s1 np r1 => wd _ H1 (en.setNew hi' s1 np r1))⟩
section
variable {elt tgx iter : Expr} {ifs : List Expr} {scope : Scope} {cown : List (Str × Nat)} {wi : TI} {gt : TG} {tt : TT} {tf : TE} {tg : Tgt} {fi : Ax} {ft : Tx} {fe : Ex} {spos : Pos}
theorem ds_setLc (i : Nat) {x : Str} {pos' : Pos} (hi' : i ∉ own := by decide) (hc : X.calm = true) (hN : X.N.Nodup) (hi : DI X K mg E own tgx iter wi fi) (ok : BlkOk X.N X.env.scope scope cown)
    (hg : ∀ (s : Shared) (H : Hp) (C : Addr) (cl : List (Str × Addr)) (fp : List Addr), DG (X.blk s H scope (compEnvC scope cl C X.env) fp) K own tgx gt tg)
    (ht : ∀ (s : Shared) (H : Hp) (C : Addr) (cl : List (Str × Addr)) (fp : List Addr), DTs (X.blk s H scope (compEnvC scope cl C X.env) fp) K mg E0' own ifs tt ft)
    (he : ∀ (s : Shared) (H : Hp) (C : Addr) (cl : List (Str × Addr)) (fp : List Addr), DE (X.blk s H scope (compEnvC scope cl C X.env) fp) K mg E0' own elt tf fe)
    (hy : X.N[i]? = some x := by rfl) (hyl : X.env.scope.names.lookup x = some .local := by rfl)
    (hsw : swapsWith (.ListComp elt [⟨tgx, iter, ifs, 0⟩] scope pos) (some (.Name x pos')) spos.line X.env = pure true := by exact sw_true rfl rfl rfl (by decide +kernel))
    (hv : ∀ i ∈ cown.map (·.2), i ∉ own := by decide) (hsl : ∀ i ∈ tg.slots, i ∈ cown.map (·.2) := by decide) (hs : ∀ x, foldedSetIterable iter X.env x = pure x := by intro _; rfl) :
    DS X K mg E own own (.Assign [.Name x pos'] (.ListComp elt [⟨tgx, iter, ifs, 0⟩] scope pos) spos) (tAsg (tLc wi gt tt tf (cown.map (·.2))) (gName i)) (gSet i (comp (cown.map (·.2)) tg fi ft fe)) :=
  ds_setC i (ps_setLc hc hN hy hyl hsw hi.pi ok (fun s H C cl fp => (hg s H C cl fp).pg) (fun s H C cl fp => (ht s H C cl fp).pt) (fun s H C cl fp => (he s H C cl fp).pe) hs) (df_lc (pos := pos) hc hN hi ok hg ht he hv hsl hs).ok hi'
theorem ds_newLc (i : Nat) {x : Str} {pos' : Pos} (hi' : i ∉ own := by decide) (hc : X.calm = true) (hN : X.N.Nodup) (hi : DI X K mg E own tgx iter wi fi) (ok : BlkOk X.N X.env.scope scope cown)
    (hg : ∀ (s : Shared) (H : Hp) (C : Addr) (cl : List (Str × Addr)) (fp : List Addr), DG (X.blk s H scope (compEnvC scope cl C X.env) fp) K own tgx gt tg)
    (ht : ∀ (s : Shared) (H : Hp) (C : Addr) (cl : List (Str × Addr)) (fp : List Addr), DTs (X.blk s H scope (compEnvC scope cl C X.env) fp) K mg E0' own ifs tt ft)
    (he : ∀ (s : Shared) (H : Hp) (C : Addr) (cl : List (Str × Addr)) (fp : List Addr), DE (X.blk s H scope (compEnvC scope cl C X.env) fp) K mg E0' own elt tf fe)
    (hy : X.N[i]? = some x := by rfl) (hyl : X.env.scope.names.lookup x = some .local := by rfl)
    (hsw : swapsWith (.ListComp elt [⟨tgx, iter, ifs, 0⟩] scope pos) (some (.Name x pos')) spos.line X.env = pure true := by exact sw_true rfl rfl rfl (by decide +kernel))
    (hv : ∀ i ∈ cown.map (·.2), i ∉ own := by decide) (hsl : ∀ i ∈ tg.slots, i ∈ cown.map (·.2) := by decide) (hs : ∀ x, foldedSetIterable iter X.env x = pure x := by intro _; rfl) :
    DS X K mg E own (i :: own) (.Assign [.Name x pos'] (.ListComp elt [⟨tgx, iter, ifs, 0⟩] scope pos) spos) (tAsg (tLc wi gt tt tf (cown.map (·.2))) (gName i)) (gSet i (comp (cown.map (·.2)) tg fi ft fe)) :=
  ds_newC i (ps_setLc hc hN hy hyl hsw hi.pi ok (fun s H C cl fp => (hg s H C cl fp).pg) (fun s H C cl fp => (ht s H C cl fp).pt) (fun s H C cl fp => (he s H C cl fp).pe) hs) (df_lc (pos := pos) hc hN hi ok hg ht he hv hsl hs).ok hi'
end
/-- a, b = e -/
def gUn (tg : Tgt) (f : Ex) : Gx := fun ρ => (f ρ).out fun d => match tg.put d ρ with
  | some ρ' => .nx ρ'
  | none => .bad
theorem ds_unpack {tgx : Expr} {gt : TG} {tg : Tgt} (he : DE X K mg E own e te f) (hg : DG X K own tgx gt tg) (hs : swapsWithSole [tgx] e pos.line X.env = pure false := by rfl) (hw : swappedStores [tgx] e X.env = pure none := by rfl)
    (h1 : (assignEach [tgx] X.env).map (·.2) = [assign tgx X.env] := by rfl) :
    DS X K mg E own own (.Assign [tgx] e pos) (tAsg te gt) (gUn tg f) :=
  ⟨ps_asg he.pe hg.pg hs hw h1, fun O H0 ρ σ H D en w => he.ok O H0 ρ σ H _ en ((outW_out en w).mono (Same.refl H) fun d wd v H1 s1 r1 => by
    refine hg.ok O H0 ρ σ H1 v d _ (en.mono s1) r1 ?_
    cases q : tg.put d ρ with
    | none => rw [q] at wd; exact wd.elim
    | some ρ' => rw [q] at wd; exact fun σ' _ _ e' => wd σ' H1 e')⟩
/-! ### own lists, own dicts are changed -/
def lSet (ds : List D) (k : Int) (d : D) : Option (List D) := (ixN ds.length k).map fun j => ds.set j d
/-- x[k] = e, x an own list -/
def gPutL (i : Nat) (fk f : Ex) : Gx := fun ρ => match ρ[i]? with
  | some (some (.list ds)) => (f ρ).out fun d => (fk ρ).out fun k => match k with
    | .int j => match lSet ds j d with
      | some ds' => .nx (ρ.set i (some (.list ds')))
      | none => .bad
    | _ => .bad
  | _ => .bad
theorem ds_putL (i : Nat) {x : Str} {k : Expr} {tk : TE} {fk : Ex} {pos' pos2 : Pos} (hi' : i ∈ own := by decide) (he : DE X K mg E own e te f) (hk : DE X K mg E own k tk fk) (hpg : PE X k tk → PG X (.Subscript (.Name x pos2) k pos') (gSub (tVar i) tk rSetL) := by exact fun h => pg_sub (pv _) h set_list)
    (hs : swapsWithSole [.Subscript (.Name x pos2) k pos'] e pos.line X.env = pure false := by rfl) (hw : swappedStores [.Subscript (.Name x pos2) k pos'] e X.env = pure none := by rfl)
    (h1 : (assignEach [.Subscript (.Name x pos2) k pos'] X.env).map (·.2) = [assign (.Subscript (.Name x pos2) k pos') X.env] := by rfl) :
    DS X K mg E own own (.Assign [.Subscript (.Name x pos2) k pos'] e pos) (tAsg te (gSub (tVar i) tk rSetL)) (gPutL i fk f) :=
  ⟨ps_asg he.pe (hpg hk.pe) hs hw h1, fun O H0 ρ σ H D en w => by
    unfold gPutL at w
    split at w
    · rename_i ds q
      obtain ⟨a, ha, r⟩ := en.ow i _ hi' q
      cases r with
      | lst hl rs =>
      rename_i vs
      refine he.ok O H0 ρ σ H _ en ((outW_out en w).mono (Same.refl H) fun d wd v H1 s1 r1 => ?_)
      refine ⟨.ref a, ha, hk.ok O H0 ρ σ H1 _ (en.mono s1) ((outW_out (en.mono s1) wd).mono (Same.refl H1) fun kd wk kv H2 s2 r2 => ?_)⟩
      cases kd <;> first | exact wk.elim | skip
      rename_i j
      rw [r2.int_of]
      replace wk : OutW _ _ _ _ _ _ _ (match lSet ds j d with | some ds' => .nx (ρ.set i (some (.list ds'))) | none => .bad) := wk
      cases hz : lSet ds j d with
      | none => rw [hz] at wk; exact wk.elim
      | some ds' =>
        rw [hz] at wk
        obtain ⟨n, hn, rfl⟩ := Option.map_eq_some_iff.mp hz
        have hl2 : H2 a = some (.lst vs) := s2 _ _ (s1 _ _ hl)
        refine ⟨a, vs, j, n, rfl, rfl, hl2, by rw [rs.length]; exact hn, ?_⟩
        have en2 := (en.mono s1).mono s2
        refine wk σ _ (en2.write hi' ha (.lst upd_same ?_))
        exact RAll.set (r1.mono (cut_same s2)) n (rs.mono (cut_same (s1.trans s2)))
    · exact w.elim⟩
/-- d[k] = e, d an own dict -/
def gPutD (i : Nat) (fk f : Ex) : Gx := fun ρ => match ρ[i]? with
  | some (some (.dict ds)) => (f ρ).out fun d => (fk ρ).out fun k => match keyOf k with
    | some j => if ds.length < 1000000 then .nx (ρ.set i (some (.dict (putD ds j d)))) else .bad
    | none => .bad
  | _ => .bad
theorem ds_putD (i : Nat) {x : Str} {k : Expr} {tk : TE} {fk : Ex} {pos' pos2 : Pos} (hu : X.A.units + 1 < cLine) (hi' : i ∈ own := by decide) (he : DE X K mg E own e te f) (hk : DE X K mg E own k tk fk) (hN : X.N[i]? = some x := by rfl) (hv : Vis X.env.scope x := by first | exact Or.inl rfl | exact Or.inr (Or.inl rfl) | exact Or.inr (Or.inr rfl))
    (hd : (x == ("__debug__" : Str)) = false := by decide) (hcd : (x == ("__classdict__" : Str)) = false := by decide)
    (hs : swapsWith e (some (.Subscript (.Name x pos2) k pos')) pos.line X.env = pure false := by rfl) :
    DS X K mg E own own (.Assign [.Subscript (.Name x pos2) k pos'] e pos) (sDPut (tVar i) tk te) (gPutD i fk f) :=
  ⟨ps_dput hu (pe_var hN hv hd hcd) hk.pe he.pe hs, fun O H0 ρ σ H D en w => by
    unfold gPutD at w
    split at w
    · rename_i ds q
      obtain ⟨a, ha, r⟩ := en.ow i _ hi' q
      cases r with
      | dic hl rs =>
      rename_i kvs
      refine he.ok O H0 ρ σ H _ en ((outW_out en w).mono (Same.refl H) fun d wd v H1 s1 r1 => ?_)
      refine ⟨.ref a, ha, hk.ok O H0 ρ σ H1 _ (en.mono s1) ((outW_out (en.mono s1) wd).mono (Same.refl H1) fun kd wk kv H2 s2 r2 => ?_)⟩
      cases hz : keyOf kd with
      | none => rw [hz] at wk; exact wk.elim
      | some j =>
        rw [hz] at wk
        by_cases c : ds.length < 1000000
        · replace wk : OutW _ _ _ _ _ _ _ (if ds.length < 1000000 then .nx (ρ.set i (some (.dict (putD ds j d)))) else .bad) := wk
          rw [if_pos c] at wk
          have hl2 : H2 a = some (.dK kvs) := s2 _ _ (s1 _ _ hl)
          refine ⟨a, _, rfl, by rw [r2.key hz]; exact DPut.k hl2 (by rw [rs.length, sizeLine_eq]; omega), ?_⟩
          have en2 := (en.mono s1).mono s2
          refine wk σ _ (en2.write hi' ha (.dic upd_same ?_))
          exact RKV.put (r1.mono (cut_same s2)) (rs.mono (cut_same (s1.trans s2)))
        · replace wk : OutW _ _ _ _ _ _ _ (if ds.length < 1000000 then .nx (ρ.set i (some (.dict (putD ds j d)))) else .bad) := wk
          rw [if_neg c] at wk
          exact wk.elim
    · exact w.elim⟩
/-- x.append(e) -/
def gApp (i : Nat) (f : Ex) : Gx := fun ρ => match ρ[i]? with
  | some (some (.list ds)) => (f ρ).out fun d => if ds.length < 1000000 then .nx (ρ.set i (some (.list (ds ++ [d])))) else .bad
  | _ => .bad
theorem ds_app (i : Nat) {x : Str} {apos cpos npos : Pos} (hi' : i ∈ own := by decide) (he : DE X K mg E own e te f) (hN : X.N[i]? = some x := by rfl) (hv : Vis X.env.scope x := by first | exact Or.inl rfl | exact Or.inr (Or.inl rfl) | exact Or.inr (Or.inr rfl))
    (hd : (x == ("__debug__" : Str)) = false := by decide) (hcd : (x == ("__classdict__" : Str)) = false := by decide)
    (hbase : attributeBase (.Name x npos) "append" X.env (eval (.Name x npos) X.env) = eval (.Name x npos) X.env := by rfl)
    (hfew : ((backTo cpos (starEach (e :: []) X.env)).all (fun x => !x.1) && (backToKw cpos (keywordEach [] X.env)).all (fun x => x.1.isSome)
      && decide ((e :: []).length + ([] : List Keyword).length + (if ([] : List Keyword).isEmpty then 0 else 1) < 30)) = true := by rfl)
    (hline : (apos.endLine == cpos.line) = true := by rfl) (hsx : starEach (e :: []) X.env = (false, eval e X.env) :: starEach [] X.env := by rfl) (hplain : (backTo cpos (starEach [] X.env)).any (·.1) = false := by rfl)
    (hs : swapsWith (.Call (.Attribute (.Name x npos) "append" apos) [e] [] cpos) none pos.line X.env = pure false := by rfl) (hK : X.K = K := by rfl) :
    DS X K mg E own own (.Expr (.Call (.Attribute (.Name x npos) "append" apos) [e] [] cpos) pos) (tDrop (tBM K "list" rAppend (tVar i) (tCons te tNil))) (gApp i f) := by
  subst hK
  exact ⟨ps_expr (pe_bm PySem.F.plainAttrs_list PySem.F.slot_list_append PySem.F.type_list_append mt_append (pe_var hN hv hd hcd) (pa_cons he.pe pa_nil hsx) hbase hfew hline hsx hplain) hs, fun O H0 ρ σ H D en w => by
    unfold gApp at w
    split at w
    · rename_i ds q
      obtain ⟨a, ha, r⟩ := en.ow i _ hi' q
      cases r with
      | lst hl rs =>
      rename_i vs
      refine ⟨.ref a, ha, .inl ⟨rfl, _, .of hl⟩, he.ok O H0 ρ σ H _ en ((outW_out en w).mono (Same.refl H) fun d wd v H1 s1 r1 => ?_)⟩
      by_cases c : ds.length < 1000000
      · replace wd : OutW _ _ _ _ _ _ _ (if ds.length < 1000000 then .nx (ρ.set i (some (.list (ds ++ [d])))) else .bad) := wd
        rw [if_pos c] at wd
        refine ⟨a, vs, v, rfl, rfl, s1 _ _ hl, by rw [rs.length, sizeLine_eq]; omega, ?_⟩
        refine wd σ _ ((en.mono s1).write hi' ha (.lst upd_same ?_))
        exact (rs.mono (cut_same s1)).append (.cons r1 .nil)
      · replace wd : OutW _ _ _ _ _ _ _ (if ds.length < 1000000 then .nx (ρ.set i (some (.list (ds ++ [d])))) else .bad) := wd
        rw [if_neg c] at wd
        exact wd.elim
    · exact w.elim⟩
/-- x.extend(e) -/
def gExt (i : Nat) (f : Ex) : Gx := fun ρ => match ρ[i]? with
  | some (some (.list ds)) => (f ρ).out fun d => match d with
    | .list es => if ds.length + es.length < 1000000 then .nx (ρ.set i (some (.list (ds ++ es)))) else .bad
    | _ => .bad
  | _ => .bad
theorem ds_ext (i : Nat) {x : Str} {apos cpos npos : Pos} (hi' : i ∈ own := by decide) (he : DE X K mg E own e te f) (hN : X.N[i]? = some x := by rfl) (hv : Vis X.env.scope x := by first | exact Or.inl rfl | exact Or.inr (Or.inl rfl) | exact Or.inr (Or.inr rfl))
    (hd : (x == ("__debug__" : Str)) = false := by decide) (hcd : (x == ("__classdict__" : Str)) = false := by decide)
    (hbase : attributeBase (.Name x npos) "extend" X.env (eval (.Name x npos) X.env) = eval (.Name x npos) X.env := by rfl)
    (hfew : ((backTo cpos (starEach (e :: []) X.env)).all (fun x => !x.1) && (backToKw cpos (keywordEach [] X.env)).all (fun x => x.1.isSome)
      && decide ((e :: []).length + ([] : List Keyword).length + (if ([] : List Keyword).isEmpty then 0 else 1) < 30)) = true := by rfl)
    (hline : (apos.endLine == cpos.line) = true := by rfl) (hsx : starEach (e :: []) X.env = (false, eval e X.env) :: starEach [] X.env := by rfl) (hplain : (backTo cpos (starEach [] X.env)).any (·.1) = false := by rfl)
    (hs : swapsWith (.Call (.Attribute (.Name x npos) "extend" apos) [e] [] cpos) none pos.line X.env = pure false := by rfl) (hK : X.K = K := by rfl) :
    DS X K mg E own own (.Expr (.Call (.Attribute (.Name x npos) "extend" apos) [e] [] cpos) pos) (tDrop (tBM K "list" rExtend (tVar i) (tCons te tNil))) (gExt i f) := by
  subst hK
  exact ⟨ps_expr (pe_bm PySem.F.plainAttrs_list PySem.F.slot_list_extend PySem.F.type_list_extend mt_extend (pe_var hN hv hd hcd) (pa_cons he.pe pa_nil hsx) hbase hfew hline hsx hplain) hs, fun O H0 ρ σ H D en w => by
    unfold gExt at w
    split at w
    · rename_i ds q
      obtain ⟨a, ha, r⟩ := en.ow i _ hi' q
      cases r with
      | lst hl rs =>
      rename_i vs
      refine ⟨.ref a, ha, .inl ⟨rfl, _, .of hl⟩, he.ok O H0 ρ σ H _ en ((outW_out en w).mono (Same.refl H) fun d wd v H1 s1 r1 => ?_)⟩
      cases d <;> first | exact wd.elim | skip
      rename_i es
      obtain ⟨b, zs, rfl, hb, rz⟩ := r1.list_of
      replace wd : OutW _ _ _ _ _ _ _ (if ds.length + es.length < 1000000 then .nx (ρ.set i (some (.list (ds ++ es)))) else .bad) := wd
      by_cases c : ds.length + es.length < 1000000
      · rw [if_pos c] at wd
        refine ⟨a, b, vs, zs, rfl, rfl, s1 _ _ hl, cut_sub _ _ hb, by rw [rs.length, rz.length, sizeLine_eq]; omega, ?_⟩
        refine wd σ _ ((en.mono s1).write hi' ha (.lst upd_same ?_))
        exact (rs.mono (cut_same s1)).append rz
      · rw [if_neg c] at wd
        exact wd.elim
    · exact w.elim⟩

/-! ### loops -/
def forL (tg : Tgt) (g : Gx) : List D → Gx
  | [], ρ => .nx ρ
  | d :: r, ρ => match tg.put d ρ with
    | none => .bad
    | some ρ' => match g ρ' with
      | .nx ρ'' => forL tg g r ρ''
      | o => o
def gFor (tg : Tgt) (fi : Ax) (g : Gx) : Gx := fun ρ => (fi ρ).out fun items => forL tg g items ρ
theorem ts_for {K : PySem.W.Frag} {mg : Str → Option Value} {wi : TI} {fi : Ax} {gt : TG} {tg : Tgt} {tb : TS} (hi : TIok K mg E own wi fi) (hg : TGok K own gt tg) (hb : TSok K mg E own own tb g) : TSok K mg E own own (tFor wi gt tb) (gFor tg fi g) := fun O H0 ρ σ H D en w => by
  refine hi O H0 ρ σ H _ en ((outW_out en w).mono (Same.refl H) fun items wd J H1 s1 it => ?_)
  have en1 := en.mono s1
  -- what stands through the loop: all but the def's own
  generalize hB : Cut (OwnA own σ) H1 = B
  have sB : Same B H1 := by rw [← hB]; exact cut_sub
  have s0 : Same H0 B := fun a o h => by
    rw [← hB, cut_out]
    · exact en1.base a o h
    · intro z; rw [en1.new a z] at h; cases h
  have cutB : Cut O B = Cut (AllA O own σ) H1 := by
    funext a
    by_cases c : O a
    · rw [cut_in c, cut_in (.inl c)]
    · rw [cut_out c]
      by_cases c' : OwnA own σ a
      · rw [cut_in (Or.inr c'), ← hB, cut_in c']
      · rw [cut_out (fun z => z.elim c c'), ← hB, cut_out c']
  have dB : Dom O B := en1.dom.same s0
  have eB : EnvOk K O B own ρ σ H1 := ⟨en1.len, sB, dB, fun a h => (by rw [← hB]; exact cut_in h), en1.live, en1.inj, en1.sh, en1.ow⟩
  have back : ∀ {ρ' : Rho} {σ' : L2.St} {H' : Hp}, EnvOk K O B own ρ' σ' H' → EnvOk K O H0 own ρ' σ' H' := fun {ρ' σ' H'} e => ⟨e.len, s0.trans e.base, en1.dom, fun a h => s0.free (e.new a h), e.live, e.inj, e.sh, e.ow⟩
  refine ⟨fun i m σ' H' => m = items.length - i ∧ i ≤ items.length ∧ ∃ ρ', EnvOk K O B own ρ' σ' H' ∧ OutW K mg E O H0 own D (forL tg g (items.drop i) ρ'), ⟨items.length, by simp, Nat.zero_le _, ρ, eB, wd⟩, ?_⟩
  rintro i m σ' H' ⟨rfl, hi', ρ', e', w'⟩
  have sb : Same (Cut (AllA O own σ) H1) H' := by rw [← cutB]; exact fun a o h => e'.base a o (cut_sub a o h)
  by_cases hlt : i < items.length
  · refine .inr ⟨it.go i H' hlt sb, fun σ2 H2 => ∃ ρ2, EnvOk K O B own ρ2 σ2 H2 ∧ OutW K mg E O H0 own D (forL tg g (items.drop (i + 1)) ρ2), fun σ2 H2 h => ⟨items.length - (i + 1), by omega, rfl, hlt, h⟩, fun x H2 y => ?_⟩
    obtain ⟨s2, rx⟩ := it.yld i items[i] x H' H2 (by simp [hlt]) sb y
    have rx := rx (AllA O own σ') e'.domA fun a h => by
      rw [← cutB]
      rcases h with h | h
      · exact cut_in h
      · by_cases c : O a
        · exact cut_in c
        · rw [cut_out c]; exact e'.new a h
    rw [List.drop_eq_getElem_cons hlt] at w'
    unfold forL at w'
    refine hg O B ρ' σ' H2 x items[i] _ (e'.mono s2) rx ?_
    cases hput : tg.put items[i] ρ' with
    | none => rw [hput] at w'; exact w'.elim
    | some ρ2 =>
      rw [hput] at w'
      intro σ2 _ _ e2
      refine hb O B ρ2 σ2 H2 _ e2 ?_
      replace w' : OutW K mg E O H0 own D (match g ρ2 with | .nx ρ'' => forL tg g (items.drop (i + 1)) ρ'' | o => o) := w'
      cases q : g ρ2 with
      | nx ρ3 => rw [q] at w'; exact fun σ3 H3 e3 => ⟨ρ3, e3, w'⟩
      | rt d => rw [q] at w'; exact fun v H3 s3 r3 => w' v H3 (s0.trans s3) r3
      | exc c => rw [q] at w'; obtain ⟨C, a, b⟩ := w'; exact ⟨C, a, fun H3 s3 => b H3 (s0.trans s3)⟩
      | bad => rw [q] at w'; exact w'
  · have e : i = items.length := by omega
    subst e
    rw [List.drop_length] at w'
    exact .inl ⟨it.stop H' sb, w' σ' H' (back e')⟩
theorem ds_for {iter tgx : Expr} {body : List Stmt} {wi : TI} {fi : Ax} {gt : TG} {tg : Tgt} {tb : TS} (hp : PassesOwn (model X.prog X.w) X.A X.env X.xe) (hc : X.calm = true) (hi : DI X K mg E own tgx iter wi fi) (hg : DG X K own tgx gt tg) (hb : DSs X K mg E own own body tb g)
    (hs : ∀ x, foldedSetIterable iter X.env x = pure x := by intro _; rfl) : DS X K mg E own own (.For tgx iter body [] pos) (tFor wi gt tb) (gFor tg fi g) :=
  ⟨ps_for hp hc hi.pi hg.pg hb.ps hs, ts_for hi.ok hg.ok hb.ok⟩
/-- n turns at most -/
def whN (c : Tx) (g : Gx) : Nat → Gx
  | 0, _ => .bad
  | n + 1, ρ => (c ρ).out fun b => if b = true then (match g ρ with
    | .nx ρ' => whN c g n ρ'
    | o => o) else .nx ρ
open Classical in
noncomputable def gWh (c : Tx) (g : Gx) : Gx := fun ρ => if h : ∃ n, whN c g n ρ ≠ .bad then whN c g h.choose ρ else .bad
theorem whN_mono {c : Tx} {g : Gx} : ∀ {n m : Nat} {ρ : Rho}, whN c g n ρ ≠ .bad → n ≤ m → whN c g m ρ = whN c g n ρ
  | 0, _, _, h, _ => absurd rfl h
  | n + 1, 0, _, _, h => absurd h (by omega)
  | n + 1, m + 1, ρ, h, hl => by
    unfold whN at h ⊢
    cases q : c ρ with
    | exc z => rfl
    | bad => rfl
    | ok b =>
      rw [q] at h
      cases b with
      | false => rfl
      | true =>
        show (match g ρ with | .nx ρ' => whN c g m ρ' | o => o) = (match g ρ with | .nx ρ' => whN c g n ρ' | o => o)
        replace h : (match g ρ with | .nx ρ' => whN c g n ρ' | o => o) ≠ .bad := h
        cases q2 : g ρ with
        | nx ρ' => rw [q2] at h; exact whN_mono h (by omega)
        | rt d => rfl
        | exc z => rfl
        | bad => rfl
theorem gWh_of {c : Tx} {g : Gx} {ρ : Rho} {n : Nat} (h : whN c g n ρ ≠ .bad) : gWh c g ρ = whN c g n ρ := by
  have hx : ∃ n, whN c g n ρ ≠ .bad := ⟨n, h⟩
  unfold gWh
  rw [dif_pos hx]
  have h2 := hx.choose_spec
  rcases Nat.le_total n hx.choose with l | l
  · exact whN_mono h l
  · exact (whN_mono h2 l).symm
theorem ts_while {K : PySem.W.Frag} {mg : Str → Option Value} {tc : TT} {fc : Tx} {tb : TS} (hc : TTok K mg E own tc fc) (hb : TSok K mg E own own tb g) : TSok K mg E own own (tWhile tc tb) (gWh fc g) := fun O H0 ρ σ H D en w => by
  have hx : ∃ n, whN fc g n ρ ≠ .bad := Classical.byContradiction fun h => by unfold gWh at w; rw [dif_neg h] at w; exact w
  unfold gWh at w
  rw [dif_pos hx] at w
  generalize hx.choose = n at w
  refine ⟨fun m σ' H' => ∃ ρ', EnvOk K O H0 own ρ' σ' H' ∧ OutW K mg E O H0 own D (whN fc g m ρ'), ⟨n, ρ, en, w⟩, ?_⟩
  rintro m σ' H' ⟨ρ', e', w'⟩
  cases m with
  | zero => exact w'.elim
  | succ m =>
    unfold whN at w'
    refine hc O H0 ρ' σ' H' _ e' ((outW_out e' w').mono (Same.refl H') fun b wb H1 s1 => ?_)
    cases b with
    | false => exact iteF (wb σ' H1 (e'.mono s1))
    | true =>
      refine iteT ⟨fun σ2 H2 => ∃ ρ2, EnvOk K O H0 own ρ2 σ2 H2 ∧ OutW K mg E O H0 own D (whN fc g m ρ2), fun σ2 H2 h => ⟨m, Nat.lt_succ_self m, h⟩, hb O H0 ρ' σ' H1 _ (e'.mono s1) ?_⟩
      replace wb : OutW K mg E O H0 own D (match g ρ' with | .nx ρ'' => whN fc g m ρ'' | o => o) := wb
      cases q : g ρ' with
      | nx ρ3 => rw [q] at wb; exact fun σ3 H3 e3 => ⟨ρ3, e3, wb⟩
      | rt d => rw [q] at wb; exact wb
      | exc c => rw [q] at wb; exact wb
      | bad => rw [q] at wb; exact wb
theorem ds_while {body : List Stmt} {tc : TT} {fc : Tx} {tb : TS} (hp : PassesOwn (model X.prog X.w) X.A X.env X.xe) (hc : DT X K mg E own c tc fc) (hb : DSs X K mg E own own body tb g) : DS X K mg E own own (.While c body [] pos) (tWhile tc tb) (gWh fc g) :=
  ⟨ps_while hp hc.pt hb.ps, ts_while hc.ok hb.ok⟩
end

/-! ### defs and their calls -/
/-- what a def with n parameters is worth, by its body's -/
def run (N : Nat) (g : Gx) (ds : List D) : Res D := match g (ds.map some ++ List.replicate (N - ds.length) none) with
  | .nx _ => .ok .none
  | .rt d => .ok d
  | .exc c => .exc c
  | .bad => .bad
/-- THE PROMISE of a def: it is worth what f says -/
def spD (K : PySem.W.Frag) (mg : Str → Option Value) (n : Nat) (f : List D → Res D) : Sp := fun vs H Q E => vs.length = n ∧ ∃ (O : Addr → Prop) (ds : List D), Dom O H ∧ RAll K (Cut O H) vs ds ∧
  ResW mg E H (fun d => ∀ v H', Same H H' → R K (Cut O H') v d → Q v H') (f ds)
section
variable {P : Program} {w : World} {K : PySem.W.Frag} {mg : Str → Option Value} {base : Heap}
theorem env_start {O : Addr → Prop} {H : Hp} {vs : List V} {ds : List D} {N : List Str} (dom : Dom O H) (r : RAll K (Cut O H) vs ds) : EnvOk K O H [] (ds.map some ++ List.replicate (N.length - ds.length) none) (start N vs) H := by
  have none' : ∀ a, ¬ OwnA [] (start N vs) a := fun a ⟨i, m, _⟩ => by cases m
  have ca : AllA O [] (start N vs) = O := by
    funext a
    exact propext ⟨fun h => h.elim id fun z => (none' a z).elim, .inl⟩
  refine ⟨?_, Same.refl H, dom, fun a h => (none' a h).elim, fun a h => (none' a h).elim, fun i j a m => (by cases m), fun i d m q => ?_, fun i d m => (by cases m)⟩
  · unfold L2.start
    rw [List.length_append, List.length_append, List.length_map, List.length_map, List.length_replicate, List.length_replicate, r.length]
  · rw [ca]
    by_cases c : i < ds.length
    · rw [List.getElem?_append_left (by rw [List.length_map]; exact c), List.getElem?_map] at q
      obtain ⟨d', e, e2⟩ := Option.map_eq_some_iff.mp q
      cases e2
      obtain ⟨v, hv, rv⟩ := r.get e
      refine ⟨v, ?_, rv⟩
      unfold L2.start
      rw [List.getElem?_append_left (by rw [List.length_map, r.length]; exact c), List.getElem?_map, hv]
      rfl
    · rw [List.getElem?_append_right (by rw [List.length_map]; omega), List.getElem?_replicate] at q
      split at q <;> cases q
theorem ends_of {mg : Str → Option Value} {E : XK} {O : Addr → Prop} {H : Hp} {Q : VK} {N : Nat} {g : Gx} {ds : List D} (h : ResW mg E H (fun d => ∀ v H', Same H H' → R K (Cut O H') v d → Q v H') (run N g ds)) :
    OutW K mg E O H [] { nx := fun _ H' => Q .non H', rt := Q } (g (ds.map some ++ List.replicate (N - ds.length) none)) := by
  unfold run at h
  cases q : g (ds.map some ++ List.replicate (N - ds.length) none) with
  | nx ρ => rw [q] at h; exact fun σ' H' e => h .non H' e.base .non
  | rt d => rw [q] at h; exact h
  | exc c => rw [q] at h; exact h
  | bad => rw [q] at h; exact h
def callD (n : Nat) (fM : List D → Res D) (g : Ax) : Ex := fun ρ => (g ρ).bind fun ds => if ds.length = n then fM ds else .bad
theorem de_call {X : Cx} {K : PySem.W.Frag} {mg : Str → Option Value} {E : XK} {own : List Nat} {CX : CXT} {k n : Nat} {f : Addr} {fd : FuncData} {ps : List Str} {fM : List D → Res D} {x : Str} {p pos : Pos} {e : Expr} {es : List Expr} {t : TA} {g : Ax}
    (F : FnOk X.prog X.w X.K X.mg X.base CX k f fd ps (spD X.K X.mg n fM)) (hr : Room k X.A) (hg : Gl X x) (hm : X.mg x = some (.ref f)) (hk : PySem.W.keepIn X.K (.ref f) = true) (hb : Binds X.K fd ps []) (hx : Passes CX X E)
    (ha : DA X K mg E own (e :: es) t g) (hdb : (x == ("__debug__" : Str)) = false := by decide) (he : starEach (e :: es) X.env = (false, eval e X.env) :: starEach es X.env := by rfl) (hpl : (backTo pos (starEach es X.env)).any (·.1) = false := by rfl) (hK : X.K = K := by rfl) (hmg : X.mg = mg := by rfl) :
    DE X K mg E own (.Call (.Name x p) (e :: es) [] pos) (tCall (spD K mg n fM) [] E t) (callD n fM g) := by
  subst hK hmg
  exact ⟨pe_call F hr hg hm hk hb .nil hx ha.pa hdb he hpl, fun O H0 ρ σ H Q en w => by
    unfold callD at w
    rw [resW_bind] at w
    refine ha.ok O H0 ρ σ H _ en (w.mono (Same.refl H) fun ds wd vs H1 s1 r1 => ?_)
    by_cases c : ds.length = n
    · rw [if_pos c] at wd
      rw [List.append_nil]
      exact ⟨by rw [r1.length, c], AllA O own σ, ds, en.domA.same s1, r1, wd.mono s1 fun d k v H' s r => k v H' (s1.trans s) r⟩
    · rw [if_neg c] at wd; exact wd.elim⟩
/-- a def of which nothing is raised -/
theorem def_ok {x qual : Str} {st : Stmt} {f : Addr} {fd : FuncData} {N ps : List Str} {k n : Nat} {g : Gx} (F : Fun K x qual st f fd) (S : FnScope N ps (defScope st)) (hn : ps.length = n)
    (hbody : ∀ (cdv : Value) (A : Around) (outer : List Env) (s : Shared) (H : Hp) (E : XK), Room k (A.deeper (envOfC qual (defScope st) s.heap.objs.size f cdv)) →
      ∃ (own' : List Nat) (t : TS), DSs (cxOf CX0 P w K mg base N qual (defScope st) f cdv A outer s H E).nox K mg E0' [] own' (defBody st) t g) : FnOk P w K mg base CX0 (k + 1) f fd ps (spD K mg n fun ds => (run N.length g ds).calm) := by
  refine F.ok S (fun vs H Q E h => by rw [h.1, hn]) fun cdv A outer s H vs Q E hr h => ?_
  obtain ⟨own', t, hb⟩ := hbody cdv A outer s H E hr
  obtain ⟨_, O, ds, dom, r, w⟩ := h
  refine ⟨t, hb.ps, ts_out hb.ok (fun i m => by cases m) O H _ _ H _ (env_start dom r) (ends_of (resW_calm w))⟩
end
end DL
end

section
set_option Elab.async false
set_option linter.all false
set_option maxRecDepth 100000
set_option maxHeartbeats 2000000
set_option autoImplicit false
/-! DL7: short words for the walks that a program prints. -/
namespace DL
open PySem PySem.Spec PyProof.Rows L2

/-! ### defs as the head tells them -/
structure Def (P : Program) (w : World) (K : PySem.W.Frag) (mg : Str → Option Value) (base : Heap) (x : Str) (ps : List Str) (k n : Nat) (fM : List D → Res D) : Prop where
  ex : ∃ (f : Addr) (fd : FuncData), mg x = some (.ref f) ∧ PySem.W.keepIn K (.ref f) = true ∧ (∃ oc od osl, K.lookup f = some ⟨oc, od, .func fd, osl⟩) ∧ Binds K fd ps [] ∧ FnOk P w K mg base CX0 k f fd ps (spD K mg n fun ds => (fM ds).calm)
/-- where a def of the text stands -/
structure At (K : PySem.W.Frag) (mg : Str → Option Value) (x : Str) (st : Stmt) : Prop where
  ex : ∃ (f : Addr) (fd : FuncData), mg x = some (.ref f) ∧ FunD K x x (defArgs st) (defBody st) (defScope st) [] [] f fd
section
variable {P : Program} {w : World} {K : PySem.W.Frag} {mg : Str → Option Value} {base : Heap}
theorem mkDef {x : Str} {st : Stmt} {N ps : List Str} {n : Nat} (g : Gx) {fM : List D → Res D} (hM : fM = run N.length g) (k : Nat) (T : At K mg x st) (S : FnScope N ps (defScope st)) (hn : ps.length = n)
    (hbind : ∀ (kV doc pm : Value) (an : Option Addr) (cdv ct : Value) (us : List Value), us.length = ps.length → bindArgs (PySem.W.fnOf x x (defArgs st) (defBody st) (defScope st) .none kV doc pm an cdv ct) ⟨us, []⟩ = pure (ps.zip us))
    (hbody : ∀ (cdv : Value) (A : Around) (outer : List Env) (s : Shared) (H : Hp) (E : XK) (f : Addr), Room k (A.deeper (envOfC x (defScope st) s.heap.objs.size f cdv)) →
      ∃ (own' : List Nat) (t : TS), DSs (cxOf CX0 P w K mg base N x (defScope st) f cdv A outer s H E).nox K mg E0' [] own' (defBody st) t g) : Def P w K mg base x ps (k + 1) n fM := by
  subst hM
  obtain ⟨f, fd, hm, F⟩ := T.ex
  refine ⟨f, fd, hm, F.kp, (let ⟨oc, od, _, _, _, _, _, _, _, osl, _, lk, _⟩ := F.ex; ⟨oc, od, osl, lk⟩), F.bindsN hbind, F.ok S (fun vs H Q E h => by rw [h.1, hn]) fun cdv A outer s H vs Q E hr h => ?_⟩
  obtain ⟨own', t, hb⟩ := hbody cdv A outer s H E f hr
  obtain ⟨_, O, ds, dom, r, w⟩ := h
  exact ⟨t, hb.ps.nox, ts_out hb.ok (fun i m => by cases m) O H _ _ H _ (env_start dom r) (ends_of (resW_calm w))⟩
end
/-- a call of a def of which nothing is raised here -/
theorem de_fn {X : Cx} {K : PySem.W.Frag} {mg : Str → Option Value} {own : List Nat} {k n : Nat} {fM : List D → Res D} {x : Str} {ps : List Str} {p pos : Pos} {e : Expr} {es : List Expr} {t : TA} {g : Ax}
    (G : Def X.prog X.w X.K X.mg X.base x ps k n fM) (hr : Room k X.A) (ha : DA X K mg E0' own (e :: es) t g) (hg : Gl X x := by rfl) (hdb : (x == ("__debug__" : Str)) = false := by decide) (he : starEach (e :: es) X.env = (false, eval e X.env) :: starEach es X.env := by rfl) (hpl : (backTo pos (starEach es X.env)).any (·.1) = false := by rfl) (hK : X.K = K := by rfl) (hmg : X.mg = mg := by rfl) :
    DE X K mg E0' own (.Call (.Name x p) (e :: es) [] pos) (tCall (spD K mg n fun ds => (fM ds).calm) [] E0' t) (callD n fM g) := by
  subst hK hmg
  obtain ⟨f, fd, hm, hk, _, hb, F⟩ := G.ex
  have q := de_call (p := p) (E := E0') (own := own) F hr hg hm hk hb pass0 ha hdb he hpl
  refine ⟨q.pe, fun O H0 ρ σ H Q en w => q.ok O H0 ρ σ H Q en ?_⟩
  unfold callD at w ⊢
  rw [resW_bind] at w ⊢
  refine w.mono (Same.refl H) fun ds wd => ?_
  by_cases c : ds.length = n
  · rw [if_pos c] at wd ⊢
    show ResW X.mg E0' H _ ((fM ds).calm)
    cases q : fM ds with
    | ok d => rw [q] at wd; exact wd
    | exc c => rw [q] at wd; obtain ⟨_, _, z⟩ := wd; exact (z H (Same.refl H)).elim
    | bad => rw [q] at wd; exact wd
  · rw [if_neg c] at wd; exact wd.elim
theorem de_fn0 {X : Cx} {K : PySem.W.Frag} {mg : Str → Option Value} {own : List Nat} {k : Nat} {fM : List D → Res D} {x : Str} {ps : List Str} {p pos : Pos}
    (G : Def X.prog X.w X.K X.mg X.base x ps k 0 fM) (hr : Room k X.A) (hg : Gl X x := by rfl) (hdb : (x == ("__debug__" : Str)) = false := by decide) (hK : X.K = K := by rfl) (hmg : X.mg = mg := by rfl) :
    DE X K mg E0' own (.Call (.Name x p) [] [] pos) (tCall (spD K mg 0 fun ds => (fM ds).calm) [] E0' tNil) (callD 0 fM aNil) := by
  subst hK hmg
  obtain ⟨f, fd, hm, hk, _, hb, F⟩ := G.ex
  refine ⟨pe_call0 F hr hg hm hk hb .nil pass0 hdb, fun O H0 ρ σ H Q en w => ⟨rfl, AllA O own σ, [], en.domA, .nil, ?_⟩⟩
  have w : ResW X.mg E0' H (fun d => ∀ v H', Same H H' → R X.K (Cut (AllA O own σ) H') v d → Q v H') (fM []) := w
  show ResW X.mg E0' H _ ((fM []).calm)
  cases q : fM [] with
  | ok d => rw [q] at w; exact w
  | exc c => rw [q] at w; obtain ⟨_, _, z⟩ := w; exact (z H (Same.refl H)).elim
  | bad => rw [q] at w; exact w
/-- a raise that is never come to -/
def gRaise (c : Str) : Gx := fun _ => .exc c
theorem ds_raise0 {X : Cx} {K : PySem.W.Frag} {mg : Str → Option Value} {own own' : List Nat} {st : Stmt} (c : Str) : DS X K mg E0' own own' st tNever (gRaise c) :=
  ⟨ps_never, fun O H0 ρ σ H D en w => by obtain ⟨_, _, z⟩ := w; exact z H en.base⟩

/-! ### the module's constants -/
structure Cst (K : PySem.W.Frag) (mg : Str → Option Value) (x : Str) (v : V) (d : D) : Prop where
  u : ∃ u, mg x = some u ∧ RelV v u
  r : ∀ H, R K H v d
theorem cst_int {K : PySem.W.Frag} {mg : Str → Option Value} {x : Str} {i : Int} (h : ∃ t, mg x = some (.int i t)) : Cst K mg x (.int i) (.int i) := by
  obtain ⟨t, h⟩ := h
  exact ⟨⟨_, h, ⟨t, rfl⟩⟩, fun _ => .int i⟩
theorem cst_two {K : PySem.W.Frag} {mg : Str → Option Value} {x : Str} {i j : Int} (h : mg x = some (.ref (He.ga K x))) (q : He.tupB K x [.int i, .int j] = true) : Cst K mg x (.ref (He.ga K x)) (.tuple [.int i, .int j]) :=
  ⟨⟨_, h, rfl⟩, fun H => .tup (He.tupB_ok q H) (.cons (.int i) (.cons (.int j) .nil))⟩
section
variable {X : Cx} {K : PySem.W.Frag} {mg : Str → Option Value} {E : XK} {own : List Nat} {a b c e : Expr} {ta tb tc : TE} {fa fb fc : Ex} {p pos : Pos}
theorem de_cst {x : Str} {v : V} {d : D} (h : Cst X.K X.mg x v d) (hg : Gl X x := by rfl) (hd : (x == ("__debug__" : Str)) = false := by decide) (hK : X.K = K := by rfl) : DE X K mg E own (.Name x pos) (tC v) (kc d) := by
  subst hK
  obtain ⟨⟨u, hm, r⟩, hr⟩ := h
  exact de_glob hg hm r hr hd

/-! ### operators in short -/
theorem de_add (ha : DE X K mg E own a ta fa) (hb : DE X K mg E own b tb fb) (hK : X.K = K := by rfl) : DE X K mg E own (.BinOp a .Add b pos) (tOp (rAddD K) ta tb) (bin fa fb dAdd) := by
  subst hK
  exact de_op op_addD od_add ha hb
theorem de_sub (ha : DE X K mg E own a ta fa) (hb : DE X K mg E own b tb fb) : DE X K mg E own (.BinOp a .Sub b pos) (tOp (rI0 fun i j => .int (i - j)) ta tb) (bin fa fb dSub) := de_op op_sub od_sub ha hb
theorem de_mul (ha : DE X K mg E own a ta fa) (hb : DE X K mg E own b tb fb) (hK : X.K = K := by rfl) : DE X K mg E own (.BinOp a .Mult b pos) (tOp (rMulD K) ta tb) (bin fa fb dMul) := by
  subst hK
  exact de_op op_mulD od_mul ha hb
theorem de_div (ha : DE X K mg E own a ta fa) (hb : DE X K mg E own b tb fb) : DE X K mg E own (.BinOp a .FloorDiv b pos) (tOp (rI (fun i j => j ≠ 0 ∧ Builtin.divisionGoesByPylong i j = false) fun i j => .int (i.fdiv j)) ta tb) (bin fa fb dDiv) := de_op op_divD od_div ha hb
theorem de_mod (ha : DE X K mg E own a ta fa) (hb : DE X K mg E own b tb fb) : DE X K mg E own (.BinOp a .Mod b pos) (tOp (rI (fun _ j => j ≠ 0) fun i j => .int (i.fmod j)) ta tb) (bin fa fb dMod) := de_op op_modN od_mod ha hb
theorem de_pow (ha : DE X K mg E own a ta fa) (hb : DE X K mg E own b tb fb) : DE X K mg E own (.BinOp a .Pow b pos) (tOp (rI CPow fun i j => .int (i ^ j.toNat)) ta tb) (bin fa fb dPow) := de_op op_pow od_pow ha hb
theorem hu64 {A : Around} {k : Nat} (hr : Room k A) : A.units + 64 < cLine := by have := hr.un; omega
theorem hu65 {A : Around} {k : Nat} (hr : Room k A) : A.units + 65 < cLine := by have := hr.un; omega
theorem hu1 {A : Around} {k : Nat} (hr : Room k A) : A.units + 1 < cLine := by have := hr.un; omega
theorem de_eq {k : Nat} (hr : Room k X.A) (ha : DE X K mg E own a ta fa) (hb : DE X K mg E own b tb fb) (hK : X.K = K := by rfl) : DE X K mg E own (.Compare a [.Eq] [b] pos) (tOp (rEqD K) ta tb) (bin fa fb dEq) := by
  subst hK
  exact de_cmp (op_eqD (hu64 hr)) od_eq ha hb (nomark _)
theorem de_ne {k : Nat} (hr : Room k X.A) (ha : DE X K mg E own a ta fa) (hb : DE X K mg E own b tb fb) (hK : X.K = K := by rfl) : DE X K mg E own (.Compare a [.NotEq] [b] pos) (tOp (rNeD K) ta tb) (bin fa fb dNe) := by
  subst hK
  exact de_cmp (op_neD (hu64 hr)) od_ne ha hb (nomark _)
theorem de_lt (ha : DE X K mg E own a ta fa) (hb : DE X K mg E own b tb fb) : DE X K mg E own (.Compare a [.Lt] [b] pos) (tOp (rI0 fun i j => .bl (decide (i < j))) ta tb) (bin fa fb dLt) := de_cmp op_lt (od_cmp _) ha hb (nomark _)
theorem de_le (ha : DE X K mg E own a ta fa) (hb : DE X K mg E own b tb fb) : DE X K mg E own (.Compare a [.LtE] [b] pos) (tOp (rI0 fun i j => .bl (decide (i ≤ j))) ta tb) (bin fa fb dLe) := de_cmp op_le (od_cmp _) ha hb (nomark _)
theorem de_gt (ha : DE X K mg E own a ta fa) (hb : DE X K mg E own b tb fb) : DE X K mg E own (.Compare a [.Gt] [b] pos) (tOp (rI0 fun i j => .bl (decide (j < i))) ta tb) (bin fa fb dGt) := de_cmp op_gt (od_cmp _) ha hb (nomark _)
theorem de_ge (ha : DE X K mg E own a ta fa) (hb : DE X K mg E own b tb fb) : DE X K mg E own (.Compare a [.GtE] [b] pos) (tOp (rI0 fun i j => .bl (decide (j ≤ i))) ta tb) (bin fa fb dGe) := de_cmp op_ge (od_cmp _) ha hb (nomark _)
theorem de_is (ha : DE X K mg E own a ta fa) (hb : DE X K mg E own b tb fb) : DE X K mg E own (.Compare a [.Is] [b] pos) (tOp (fun x y H Q => y = .non ∧ Q (.bl (decide (x = .non))) H) ta tb) (bin fa fb dIs) := de_cmp op_isN od_is ha hb (nomark _)
theorem de_isnot (ha : DE X K mg E own a ta fa) (hb : DE X K mg E own b tb fb) : DE X K mg E own (.Compare a [.IsNot] [b] pos) (tOp (fun x y H Q => y = .non ∧ Q (.bl (!decide (x = .non))) H) ta tb) (bin fa fb dIsNot) := de_cmp op_notN od_isnot ha hb (nomark _)
theorem de_in {k : Nat} (hr : Room k X.A) (ha : DE X K mg E own a ta fa) (hb : DC X K mg E own b tb fb) (hm : behindInMarks .In b = false := by rfl) (hK : X.K = K := by rfl) : DE X K mg E own (.Compare a [.In] [b] pos) (tOp (rInA K) ta tb) (bin fa fb dIn) := by
  subst hK
  exact de_cmpC (op_inA (hu65 hr)) oc_in ha hb hm
theorem de_notin {k : Nat} (hr : Room k X.A) (ha : DE X K mg E own a ta fa) (hb : DC X K mg E own b tb fb) (hm : behindInMarks .NotIn b = false := by rfl) (hK : X.K = K := by rfl) : DE X K mg E own (.Compare a [.NotIn] [b] pos) (tOp (rNotInA K) ta tb) (bin fa fb dNotIn) := by
  subst hK
  exact de_cmpC (op_notInA (hu65 hr)) oc_notin ha hb hm

/-! ### comparisons as tests -/
theorem tt_of_te {K : PySem.W.Frag} {mg : Str → Option Value} {t : TE} {f : Ex} (h : TEok K mg E own t f) : TTok K mg E own (tTest t) (asB f) := fun O H0 ρ σ H Q en w => by
  unfold asB at w
  rw [resW_bind] at w
  refine h O H0 ρ σ H _ en (w.mono (Same.refl H) fun d wd v H1 s1 r1 => ?_)
  cases d <;> first | exact wd.elim | skip
  rw [r1.bool_of]
  exact ⟨_, rfl, wd H1 s1⟩
theorem dt_cmp {o : CmpOp} {op : D → D → Option D} {r : R2} (ho : OpR X (compareOp o) r) (hr : OpD K r op) (ha : DE X K mg E own a ta fa) (hb : DE X K mg E own b tb fb) (hm : behindInMarks o b = false) : DT X K mg E own (.Compare a [o] [b] pos) (tTest (tOp r ta tb)) (asB (bin fa fb op)) :=
  ⟨pt_cmpR ho ha.pe hb.pe hm, tt_of_te (te_op hr ha.ok hb.ok)⟩
theorem dt_cmpC {o : CmpOp} {op : D → D → Option D} {r : R2} (ho : OpR X (compareOp o) r) (hr : OpCR K r op) (ha : DE X K mg E own a ta fa) (hb : DC X K mg E own b tb fb) (hm : behindInMarks o b = false) : DT X K mg E own (.Compare a [o] [b] pos) (tTest (tOp r ta tb)) (asB (bin fa fb op)) :=
  ⟨pt_cmpR ho ha.pe hb.pe hm, tt_of_te (te_opR hr ha.ok hb.ok)⟩
theorem dt_eq {k : Nat} (hr : Room k X.A) (ha : DE X K mg E own a ta fa) (hb : DE X K mg E own b tb fb) (hK : X.K = K := by rfl) : DT X K mg E own (.Compare a [.Eq] [b] pos) (tTest (tOp (rEqD K) ta tb)) (asB (bin fa fb dEq)) := by
  subst hK
  exact dt_cmp (op_eqD (hu64 hr)) od_eq ha hb (nomark _)
theorem dt_ne {k : Nat} (hr : Room k X.A) (ha : DE X K mg E own a ta fa) (hb : DE X K mg E own b tb fb) (hK : X.K = K := by rfl) : DT X K mg E own (.Compare a [.NotEq] [b] pos) (tTest (tOp (rNeD K) ta tb)) (asB (bin fa fb dNe)) := by
  subst hK
  exact dt_cmp (op_neD (hu64 hr)) od_ne ha hb (nomark _)
theorem dt_lt (ha : DE X K mg E own a ta fa) (hb : DE X K mg E own b tb fb) : DT X K mg E own (.Compare a [.Lt] [b] pos) (tTest (tOp (rI0 fun i j => .bl (decide (i < j))) ta tb)) (asB (bin fa fb dLt)) := dt_cmp op_lt (od_cmp _) ha hb (nomark _)
theorem dt_le (ha : DE X K mg E own a ta fa) (hb : DE X K mg E own b tb fb) : DT X K mg E own (.Compare a [.LtE] [b] pos) (tTest (tOp (rI0 fun i j => .bl (decide (i ≤ j))) ta tb)) (asB (bin fa fb dLe)) := dt_cmp op_le (od_cmp _) ha hb (nomark _)
theorem dt_gt (ha : DE X K mg E own a ta fa) (hb : DE X K mg E own b tb fb) : DT X K mg E own (.Compare a [.Gt] [b] pos) (tTest (tOp (rI0 fun i j => .bl (decide (j < i))) ta tb)) (asB (bin fa fb dGt)) := dt_cmp op_gt (od_cmp _) ha hb (nomark _)
theorem dt_ge (ha : DE X K mg E own a ta fa) (hb : DE X K mg E own b tb fb) : DT X K mg E own (.Compare a [.GtE] [b] pos) (tTest (tOp (rI0 fun i j => .bl (decide (j ≤ i))) ta tb)) (asB (bin fa fb dGe)) := dt_cmp op_ge (od_cmp _) ha hb (nomark _)
theorem dt_is (ha : DE X K mg E own a ta fa) (hb : DE X K mg E own b tb fb) : DT X K mg E own (.Compare a [.Is] [b] pos) (tTest (tOp (fun x y H Q => y = .non ∧ Q (.bl (decide (x = .non))) H) ta tb)) (asB (bin fa fb dIs)) := dt_cmp op_isN od_is ha hb (nomark _)
theorem dt_isnot (ha : DE X K mg E own a ta fa) (hb : DE X K mg E own b tb fb) : DT X K mg E own (.Compare a [.IsNot] [b] pos) (tTest (tOp (fun x y H Q => y = .non ∧ Q (.bl (!decide (x = .non))) H) ta tb)) (asB (bin fa fb dIsNot)) := dt_cmp op_notN od_isnot ha hb (nomark _)
theorem dt_in {k : Nat} (hr : Room k X.A) (ha : DE X K mg E own a ta fa) (hb : DC X K mg E own b tb fb) (hm : behindInMarks .In b = false := by rfl) (hK : X.K = K := by rfl) : DT X K mg E own (.Compare a [.In] [b] pos) (tTest (tOp (rInA K) ta tb)) (asB (bin fa fb dIn)) := by
  subst hK
  exact dt_cmpC (op_inA (hu65 hr)) oc_in ha hb hm
theorem dt_notin {k : Nat} (hr : Room k X.A) (ha : DE X K mg E own a ta fa) (hb : DC X K mg E own b tb fb) (hm : behindInMarks .NotIn b = false := by rfl) (hK : X.K = K := by rfl) : DT X K mg E own (.Compare a [.NotIn] [b] pos) (tTest (tOp (rNotInA K) ta tb)) (asB (bin fa fb dNotIn)) := by
  subst hK
  exact dt_cmpC (op_notInA (hu65 hr)) oc_notin ha hb hm

/-! ### built-ins in short -/
theorem bt_len : bootBuiltins "len" = some (.builtin "len") := by decide +kernel
theorem bt_abs : bootBuiltins "abs" = some (.builtin "abs") := by decide +kernel
theorem bt_any : bootBuiltins "any" = some (.builtin "any") := by decide +kernel
theorem bt_all : bootBuiltins "all" = some (.builtin "all") := by decide +kernel
theorem bt_sorted : bootBuiltins "sorted" = some (.builtin "sorted") := by decide +kernel
theorem bt_sum : bootBuiltins "sum" = some (.builtin "sum") := by decide +kernel
theorem bt_int : bootBuiltins "int" = some (.type "int") := by decide +kernel
theorem bt_bool : bootBuiltins "bool" = some (.type "bool") := by decide +kernel
theorem bt_str : bootBuiltins "str" = some (.type "str") := by decide +kernel
theorem bt_tuple : bootBuiltins "tuple" = some (.type "tuple") := by decide +kernel
theorem bt_list : bootBuiltins "list" = some (.type "list") := by decide +kernel
section
variable (he : starEach (a :: []) X.env = (false, eval a X.env) :: starEach [] X.env := by rfl) (hpl : (backTo pos (starEach [] X.env)).any (·.1) = false := by rfl)
theorem de_len (hm : X.mg "len" = none) (ha : DC X K mg E own a ta fa) (hg : Gl X "len" := by rfl) (he : starEach (a :: []) X.env = (false, eval a X.env) :: starEach [] X.env := by rfl) (hpl : (backTo pos (starEach [] X.env)).any (·.1) = false := by rfl) (hK : X.K = K := by rfl) :
    DE X K mg E own (.Call (.Name "len" p) [a] [] pos) (tCB (rLenA K) (tCons ta tNil)) (un fa dLen) := by
  subst hK
  exact de_callB1 call_lenA cc_len hg hm bt_len ha (by decide) (by decide) he hpl
theorem de_abs (hm : X.mg "abs" = none) (ha : DC X K mg E own a ta fa) (hg : Gl X "abs" := by rfl) (he : starEach (a :: []) X.env = (false, eval a X.env) :: starEach [] X.env := by rfl) (hpl : (backTo pos (starEach [] X.env)).any (·.1) = false := by rfl) :
    DE X K mg E own (.Call (.Name "abs" p) [a] [] pos) (tCB (fun xs H Q => ∃ i, xs = [.int i] ∧ Q (.int (if i < 0 then -i else i)) H) (tCons ta tNil)) (un fa dAbs) := de_callB1 call_abs cc_abs hg hm bt_abs ha (by decide) (by decide) he hpl
theorem de_any (hm : X.mg "any" = none) (hc : X.calm = true) (ha : DC X K mg E own a ta fa) (hg : Gl X "any" := by rfl) (he : starEach (a :: []) X.env = (false, eval a X.env) :: starEach [] X.env := by rfl) (hpl : (backTo pos (starEach [] X.env)).any (·.1) = false := by rfl) (hK : X.K = K := by rfl) :
    DE X K mg E own (.Call (.Name "any" p) [a] [] pos) (tCB (rAny K) (tCons ta tNil)) (un fa dAny) := by
  subst hK
  exact de_callB1 (cr_any hc) cc_any hg hm bt_any ha (by decide) (by decide) he hpl
theorem de_all (hm : X.mg "all" = none) (hc : X.calm = true) (ha : DC X K mg E own a ta fa) (hg : Gl X "all" := by rfl) (he : starEach (a :: []) X.env = (false, eval a X.env) :: starEach [] X.env := by rfl) (hpl : (backTo pos (starEach [] X.env)).any (·.1) = false := by rfl) (hK : X.K = K := by rfl) :
    DE X K mg E own (.Call (.Name "all" p) [a] [] pos) (tCB (rAll K) (tCons ta tNil)) (un fa dAll) := by
  subst hK
  exact de_callB1 (cr_all hc) cc_all hg hm bt_all ha (by decide) (by decide) he hpl
theorem de_sorted (hm : X.mg "sorted" = none) (ha : DC X K mg E own a ta fa) (hg : Gl X "sorted" := by rfl) (he : starEach (a :: []) X.env = (false, eval a X.env) :: starEach [] X.env := by rfl) (hpl : (backTo pos (starEach [] X.env)).any (·.1) = false := by rfl) (hK : X.K = K := by rfl) :
    DE X K mg E own (.Call (.Name "sorted" p) [a] [] pos) (tCB (rSortedI K) (tCons ta tNil)) (un fa dSorted) := by
  subst hK
  exact de_callB1 cr_sortedI cc_sorted hg hm bt_sorted ha (by decide) (by decide) he hpl
theorem de_intOf (hm : X.mg "int" = none) (ha : DC X K mg E own a ta fa) (hg : Gl X "int" := by rfl) (he : starEach (a :: []) X.env = (false, eval a X.env) :: starEach [] X.env := by rfl) (hpl : (backTo pos (starEach [] X.env)).any (·.1) = false := by rfl) :
    DE X K mg E own (.Call (.Name "int" p) [a] [] pos) (tCB (fun xs H Q => (∃ i, xs = [V.int i] ∧ Q (.int i) H) ∨ ∃ k, xs = [V.bl k] ∧ Q (.int (if k then 1 else 0)) H) (tCons ta tNil)) (un fa dInt) := de_callT1 call_int1 cc_int hg hm bt_int ha (by decide) (by decide) he hpl
theorem de_tupleOf (hm : X.mg "tuple" = none) (ha : DC X K mg E own a ta fa) (hg : Gl X "tuple" := by rfl) (he : starEach (a :: []) X.env = (false, eval a X.env) :: starEach [] X.env := by rfl) (hpl : (backTo pos (starEach [] X.env)).any (·.1) = false := by rfl) (hK : X.K = K := by rfl) :
    DE X K mg E own (.Call (.Name "tuple" p) [a] [] pos) (tCB (fun xs H Q => ∃ p ys, xs = [.ref p] ∧ ((SqL K H p ys ∧ ∀ l, H l = none → Q (.ref l) (upd H l (.tup ys))) ∨ (SqT K H p ys ∧ Q (.ref p) H))) (tCons ta tNil)) (un fa dTuple) := by
  subst hK
  exact de_callT1 call_tuple_of cc_tuple hg hm bt_tuple ha (by decide) (by decide) he hpl
end

/-! ### sum(d.values()) -/
def dSumV : D → Option D
  | .dict kvs => if isDic kvs = true then (allI (kvs.map (·.2))).map fun ns => .int ns.sum else none
  | _ => none
/-- d's value, then the sum of its values -/
def tSumV (td : TE) : TE := fun σ H Q => td σ H fun x H1 => ∃ d kvs, ∃ ns : List Int, x = .ref d ∧ Rd H1 d (.dK kvs) ∧ kvs.map (·.2) = ns.map V.int ∧ Q (.int ns.sum) H1
section
open PySem.W PyProof.V
theorem sum_of_src {prog : Program} {w : World} {A : Around} {E : Value → Shared → Prop} {s : Shared} {T : String} {r d : Addr} {n : Nat} {Pi : Nat → Value → Prop} {Good : Heap → Prop} {Q : Value → Shared → Prop}
    (src : KdlSrc prog w T r d n Pi Good) (hA : A.handled = none) (good : Good s.heap) (val : Nat → Int) (hv : ∀ i v, Pi i v → ∃ t, v = .int (val i) t)
    (fin : ∀ h' tk t', (∀ b o, s.heap.get? b = some o → h'.get? b = some o) → Q (.int (preSum val n) t') { s with heap := h', toks := tk }) : wpAny (model prog w) A (call (.builtin "sum") [.ref r]) Q E s := by
  obtain ⟨oI, St, begins, walk, st0⟩ := src.iter A.in1 s hA good
  refine call_sum_walkAnyS (begins _ _ ⟨s.heap.objs.size, _, _, _, n, Pi, _, val, rfl, walk.toS, st0, fun b hb => ?_, hv, fun s' t' mv => ?_⟩)
  · have e : (s.heap.push oI).objs.size = s.heap.objs.size + 1 := Heap.size_push _ _
    have h2 := (src.there _ good).2
    show b < (s.heap.push oI).objs.size
    rw [e]
    have hb' : b = s.heap.objs.size ∨ b = d := by simpa using hb
    rcases hb' with z | z
    · rw [z]; exact Nat.lt_succ_self _
    · rw [z]; exact Nat.lt_succ_of_lt h2
  · rw [Moved.eq_with mv]
    refine fin s'.heap s'.toks t' fun b o e => mv.heap b o (fun z => ?_) (Heap.get?_push_of_some _ e)
    rw [List.mem_singleton.mp z] at e
    exact absurd (Heap.lt_size e) (Nat.lt_irrefl _)
end
theorem preSum_map (ns : List Int) : PySem.preSum (fun i => ns.getD i 0) ns.length = ns.sum := by
  have gen : ∀ n, n ≤ ns.length → PySem.preSum (fun i => ns.getD i 0) n = (ns.take n).sum := by
    intro n
    induction n with
    | zero => intro _; rfl
    | succ n ih =>
      intro h
      show PySem.preSum (fun i => ns.getD i 0) n + ns.getD n 0 = _
      rw [ih (by omega), List.take_succ_eq_append_getElem (by omega), List.sum_append]
      simp [List.getD, List.getElem?_eq_getElem (show n < ns.length by omega)]
  rw [gen _ (Nat.le_refl _), List.take_length]
theorem paired_getR {α β : Type} {G : α → β → Prop} {l₁ : List α} {l₂ : List β} (h : Paired G l₁ l₂) : ∀ {i : Nat} {b : β}, l₂[i]? = some b → ∃ a, l₁[i]? = some a ∧ G a b := by
  induction h with
  | nil => intro i b e; simp at e
  | cons r t ih =>
    intro i b e
    cases i with
    | zero => simp at e; subst e; exact ⟨_, rfl, r⟩
    | succ i => obtain ⟨a, x, y⟩ := ih (i := i) (b := b) (by simpa using e); exact ⟨a, by simpa using x, y⟩
theorem pe_sumV {td : TE} {apos cpos : Pos} (hc : X.calm = true) (hg : Gl X "sum") (hm : X.mg "sum" = none) (he : PE X e td) (hbase : attributeBase e "values" X.env (eval e X.env) = eval e X.env := by rfl) (hline : (apos.endLine == cpos.line) = true := by rfl)
    (hs : starEach [.Call (.Attribute e "values" apos) [] [] cpos] X.env = (false, eval (.Call (.Attribute e "values" apos) [] [] cpos) X.env) :: starEach [] X.env := by rfl) (hpl : (backTo pos (starEach [] X.env)).any (·.1) = false := by rfl) :
    PE X (.Call (.Name "sum" p) [.Call (.Attribute e "values" apos) [] [] cpos] [] pos) (tSumV td) := by
  refine ⟨fun pins s σ H Q I h => ?_⟩
  refine wpAny_Call_Name_kw (ld_blt I hg hm bt_sum ?_ (by decide) (by decide))
  refine PyProof.Rows.callWith_builtin1 ?_ hs hpl
  -- the argument: the view
  have arg : wpAny (model X.prog X.w) X.A (eval (.Call (.Attribute e "values" apos) [] [] cpos) X.env) (fun u s1 => ∃ d kvs vs, ∃ ns : List Int, ∃ H1, u = .ref d ∧ Inv X pins σ H1 s1 ∧ (∃ dd ep, s1.heap.IsValuesView d dd ∧ s1.heap.DictAt (mixKind X.prog X.w) dd vs ep) ∧ KV kvs vs ∧ kvs.map (·.2) = ns.map V.int ∧ Q (.int ns.sum) H1) X.xe s := by
    refine wpAny_Call_method (T := "dict") (id := "dict.values") hbase rfl hline PySem.F.plainAttrs_dict PySem.F.slot_dict_values PySem.F.type_dict_values (thn (he.run pins s σ H _ I h) fun u s1 ⟨x, H1, I1, rx, d, kvs, ns, ex, hd, hk, q⟩ => ?_)
    subst ex
    obtain rfl : u = Value.ref d := rx
    obtain ⟨z, hsys, vs, kv, dd⟩ := dk_rd I1.hok hd
    refine ⟨dd.typeIs, dd.mapOf.noDict, ?_⟩
    obtain ⟨ep, da⟩ := dd.dictAt
    have I2 : Inv X pins σ H1 { s1 with heap := s1.heap.push { cls := .type "dict_values", data := .fields #[.ref d] } } := I1.kept (t' := s1.toks) fun b ob q => Heap.get?_push_of_some _ q
    show wpAny _ _ (callWith cpos (.builtin "dict.values") [.ref d] [] []) _ X.xe s1
    refine method_meetsIn PySem.F.slot_dict_values PySem.F.entry_dict_values rfl (PySem.evalArgs_none ⟨rfl, dd.typeIs, PySem.F.args_dict_values_1 _, _, meets_dict_values (mixKind X.prog X.w) d hsys, ⟨vs, dd⟩, ?_⟩)
    exact ⟨_, kvs, vs, ns, H1, rfl, I2, ⟨d, ep, ⟨_, Heap.get?_push_size _ rfl, rfl, rfl⟩, da.push _⟩, kv, hk, q⟩
  rw [hs]
  show wpAny _ _ (spliced ((false, eval (.Call (.Attribute e "values" apos) [] [] cpos) X.env) :: backTo pos (starEach [] X.env))) _ _ s
  refine Calls.spliced_cons (thn arg fun u s1 hh => ?_)
  obtain ⟨v, kvs, vs, ns, H1, rfl, I1, ⟨d, ep, hv, da⟩, kv, hk, q⟩ := hh
  refine Calls.spliced_nil ?_
  have hlen : vs.length = ns.length := by rw [← kv.length, ← List.length_map (f := (·.2)) (as := kvs), hk, List.length_map]
  refine sum_of_src (PySem.W.kdl_values (knd := mixKind X.prog X.w) (kvs := vs) (ep := ep)) (I1.ok.hd hc) ⟨hv, da⟩ (fun i => ns.getD i 0) (fun i u hu => ?_) fun h' tk t' keep => ?_
  · obtain ⟨k, hu⟩ := hu
    obtain ⟨⟨k', y⟩, hy, hr⟩ := paired_getR kv hu
    have e1 : (kvs.map (·.2))[i]? = some y := by rw [List.getElem?_map, hy]; rfl
    rw [hk, List.getElem?_map] at e1
    obtain ⟨z, hz, rfl⟩ := Option.map_eq_some_iff.mp e1
    obtain ⟨t, ht⟩ := hr.2
    refine ⟨t, ?_⟩
    rw [show ns.getD i 0 = z by simp [List.getD, hz]]
    exact ht
  · rw [hlen, preSum_map]
    exact ⟨.int _, H1, I1.kept keep, ⟨t', rfl⟩, q⟩
theorem de_sumV {td : TE} {fd : Ex} {apos cpos : Pos} (hm : X.mg "sum" = none) (hc : X.calm = true) (he : DC X K mg E own e td fd) (hg : Gl X "sum" := by rfl) (hbase : attributeBase e "values" X.env (eval e X.env) = eval e X.env := by rfl) (hline : (apos.endLine == cpos.line) = true := by rfl)
    (hs : starEach [.Call (.Attribute e "values" apos) [] [] cpos] X.env = (false, eval (.Call (.Attribute e "values" apos) [] [] cpos) X.env) :: starEach [] X.env := by rfl) (hpl : (backTo pos (starEach [] X.env)).any (·.1) = false := by rfl) :
    DE X K mg E own (.Call (.Name "sum" p) [.Call (.Attribute e "values" apos) [] [] cpos] [] pos) (tSumV td) (un fd dSumV) :=
  ⟨pe_sumV hc hg hm he.pe hbase hline hs hpl, fun O H0 ρ σ H Q en w => by
    unfold un at w
    rw [resW_bind] at w
    refine he.ok O H0 ρ σ H _ en (w.mono (Same.refl H) fun d wd v H1 s1 r1 => ?_)
    obtain ⟨z, e1, w2⟩ := OkW.of_some (okW_of wd)
    unfold dSumV at e1
    split at e1
    · split at e1
      · rename_i hd
        obtain ⟨ns, e2, rfl⟩ := Option.map_eq_some_iff.mp e1
        obtain ⟨a, kvs, rfl, q, r⟩ := r1.dict_of cut_sub hd
        exact ⟨a, kvs, ns, rfl, q, r.vals.ints e2, w2 _ H1 s1 (.int _)⟩
      · cases e1
    · cases e1⟩

/-! ### what is walked: a list, a tuple, a text -/
def itS (fa : Ex) : Ax := fun ρ => (fa ρ).bind fun d => match d with
  | .list ds => .ok ds
  | .tuple ds => .ok ds
  | .str x => .ok (x.cps.toList.map fun c => .str ⟨#[c]⟩)
  | _ => .bad
theorem PI.or {tg it : Expr} {w1 w2 : TI} (h1 : PI X tg it w1) (h2 : PI X tg it w2) : PI X tg it (fun σ H W => w1 σ H W ∨ w2 σ H W) :=
  ⟨fun pins s σ H W I h => h.elim (h1.run pins s σ H W I) (h2.run pins s σ H W I)⟩
theorem itOk_str {K : PySem.W.Frag} {Hb : Hp} {x : Str} : ItOk K Hb (Its x) (x.cps.toList.map fun c => .str ⟨#[c]⟩) := by
  refine ⟨fun i H hi s => (show i < x.cps.size by simpa using hi), fun H s => (show x.cps.size ≤ _ by simp), fun i d y H H' hd s q => ?_⟩
  obtain ⟨e, c, hc, rfl⟩ := q
  subst e
  rw [List.getElem?_map, Array.getElem?_toList, hc] at hd
  cases hd
  exact ⟨Same.refl _, fun A _ _ => .str _⟩
theorem di_seq {tg : Expr} (ha : DE X K mg E own a ta fa) (hK : X.K = K := by rfl) : DI X K mg E own tg a (fun σ H W => iList K ta σ H W ∨ (iTup K ta σ H W ∨ iStr ta σ H W)) (itS fa) := by
  subst hK
  exact ⟨PI.or (pi_list ha.pe) (PI.or (pi_tup ha.pe) (pi_str ha.pe)), fun O H0 ρ σ H W e w => by
    unfold itS at w
    cases q : fa ρ with
    | exc c =>
      rw [q] at w
      exact .inl (ha.ok O H0 ρ σ H _ e (by rw [q]; exact w))
    | bad => rw [q] at w; exact w.elim
    | ok d =>
      rw [q] at w
      cases d with
      | list ds =>
        refine .inl (ha.ok O H0 ρ σ H _ e ?_)
        rw [q]
        intro v H1 s1 r1
        obtain ⟨l, xs, rfl, q, r⟩ := r1.list_of
        exact ⟨l, rfl, ⟨xs, .of (cut_sub _ _ q)⟩, w _ H1 s1 (itOk_list q r)⟩
      | tuple ds =>
        refine .inr (.inl (ha.ok O H0 ρ σ H _ e ?_))
        rw [q]
        intro v H1 s1 r1
        obtain ⟨l, xs, rfl, q, r⟩ := r1.tuple_of
        exact ⟨l, rfl, ⟨xs, sqT_same cut_sub q⟩, w _ H1 s1 (itOk_tup q r)⟩
      | str x =>
        refine .inr (.inr (ha.ok O H0 ρ σ H _ e ?_))
        rw [q]
        intro v H1 s1 r1
        rw [r1.str_of]
        exact ⟨x, rfl, w _ H1 s1 itOk_str⟩
      | none => exact w.elim
      | bool _ => exact w.elim
      | int _ => exact w.elim
      | dict _ => exact w.elim⟩
end
end DL

namespace DL
open PySem PySem.Spec PyProof.Rows L2
/-- the law's end: what its def is worth, at every script -/
theorem law_end {P : Program} {w : World} {K : PySem.W.Frag} {mg : Str → Option Value} {h : Heap} {fa : Addr} {st : Stmt} {k : Nat} {fM : List D → Res D} {x : Str}
    (T : At K mg "law" st) (KX : K.In h) (hfa : mg "law" = some (.ref fa))
    (hbind : ∀ {kV doc pm : Value} {an : Option Addr} {cdv ct : Value} (us : List Value), us.length = ([x] : List Str).length → bindArgs (PySem.W.fnOf "law" "law" (defArgs st) (defBody st) (defScope st) .none kV doc pm an cdv ct) ⟨us, []⟩ = pure (([x] : List Str).zip us))
    (G : ∀ base : Heap, K.In base → base.Ns mainGlobals mg → Def P w K mg base "law" [x] k 1 fM)
    (pure_law : ∀ ns : List Int, ns.length ≤ 63 → fM [scrD ns] = .ok (.bool true)) :
    ∃ (K : PySem.W.Frag) (fd : FuncData) (sp : Sp), K.In h ∧ (∀ (s : Shared) (u : Value), BindsTo s fd ⟨[u], []⟩ [(x, u)]) ∧
        (∀ (H : Hp) (a : Addr) (ns : List Int), ns.length ≤ 63 → Only H → SqL K H a (ns.map V.int) → sp [.ref a] H (fun v _ => v = .bl true) fun _ _ _ => False) ∧
        ∀ base : Heap, K.In base → base.Ns mainGlobals mg → FnOk P w K mg base CX0 k fa fd [x] sp := by
  obtain ⟨f, fd, hm, F⟩ := T.ex
  have e : f = fa := by rw [hm] at hfa; cases hfa; rfl
  subst e
  have b : Binds K fd [x] [] := F.bindsN fun _ _ _ _ _ _ us hl => hbind us hl
  refine ⟨K, fd, spD K mg 1 fun ds => (fM ds).calm, KX, fun s u => ?_, fun H a ns hl _ hS => ?_, fun base hb G' => ?_⟩
  · obtain ⟨oc, od, dV, kV, doc, pm, an, cdv, ct, osl, rfl, lk, hcd, hD, hK⟩ := F.ex
    rcases hD with ⟨_, rfl⟩ | ⟨e, _⟩
    · exact .of_eq (hbind [u] rfl)
    · exact absurd rfl e
  · refine ⟨rfl, fun _ => False, [scrD ns], fun a h => h.elim, .cons (.scr ?_) .nil, ?_⟩
    · rcases hS with (q | ⟨o, q⟩) | q
      · exact .inl (.inl (by rw [cut_out id]; exact q))
      · exact .inl (.inr ⟨o, by rw [cut_out id]; exact q⟩)
      · exact .inr q
    · show ResW _ _ _ _ ((fM [scrD ns]).calm)
      rw [pure_law ns hl]
      intro v H' _ r
      exact r.bool_of
  · obtain ⟨f2, fd2, hm2, _, ⟨oc, od, osl, lk⟩, hb2, F2⟩ := (G base hb G').ex
    obtain ⟨oc', od', _, _, _, _, _, _, _, osl', _, lk', _⟩ := F.ex
    rw [hm] at hm2
    cases hm2
    rw [lk'] at lk
    cases lk
    exact F2
end DL
end

section
set_option Elab.async false
set_option linter.all false
set_option maxRecDepth 100000
set_option maxHeartbeats 2000000
set_option autoImplicit false
/-! DL8: zip, slices, index. -/
namespace DL
open PySem PySem.Spec PyProof.Rows L2 RZ
section
variable {X : Cx} {K : PySem.W.Frag} {mg : Str → Option Value} {E : XK} {own : List Nat} {a b c e : Expr} {ta tb tc : TE} {fa fb fc : Ex} {p pos : Pos}

/-! ### zip of two lists, of two tuples -/
def zipD (xs ys : List D) : List D := List.zipWith (fun x y => .tuple [x, y]) xs ys
def itZ (fa fb : Ex) : Ax := fun ρ => (fa ρ).bind fun x => (fb ρ).bind fun y => match x, y with
  | .list xs, .list ys => .ok (zipD xs ys)
  | .tuple xs, .tuple ys => .ok (zipD xs ys)
  | _, _ => .bad
theorem zipD_get {xs ys : List D} {i : Nat} {d : D} (h : (zipD xs ys)[i]? = some d) : ∃ x y, xs[i]? = some x ∧ ys[i]? = some y ∧ d = .tuple [x, y] := by
  unfold zipD at h
  rw [List.getElem?_zipWith] at h
  cases h1 : xs[i]? with
  | none => rw [h1] at h; cases h
  | some x =>
    cases h2 : ys[i]? with
    | none => rw [h1, h2] at h; cases h
    | some y => rw [h1, h2] at h; cases h; exact ⟨x, y, rfl, rfl, rfl⟩
theorem zipD_len (xs ys : List D) : (zipD xs ys).length = min xs.length ys.length := List.length_zipWith
theorem itOk_zip {Hb : Hp} {l l2 : Addr} {xs ys : List V} {ds es : List D} (q : Hb l = some (.lst xs)) (r : RAll K Hb xs ds) (q2 : Hb l2 = some (.lst ys)) (r2 : RAll K Hb ys es) : ItOk K Hb (Itz K l l2) (zipD ds es) := by
  refine ⟨fun i H hi s => ?_, fun H s => ⟨xs, ys, .of (s _ _ q), .of (s _ _ q2), ?_⟩, fun i d x H H' hd s y => ?_⟩
  · rw [zipD_len] at hi
    have h1 : i < xs.length := by rw [r.length]; omega
    have h2 : i < ys.length := by rw [r2.length]; omega
    exact ⟨xs, ys, xs[i], ys[i], .of (s _ _ q), .of (s _ _ q2), by simp [h1], by simp [h2]⟩
  · rw [zipD_len, r.length, r2.length]; omega
  · obtain ⟨T, x1, x2, rfl, nT, rfl, f1, f2⟩ := y
    obtain ⟨d1, d2, e1, e2, rfl⟩ := zipD_get hd
    obtain ⟨v1, g1, rv1⟩ := r.get e1
    obtain ⟨v2, g2, rv2⟩ := r2.get e2
    have z1 := f1 xs (.of (s _ _ q)); rw [g1] at z1; cases z1
    have z2 := f2 ys (.of (s _ _ q2)); rw [g2] at z2; cases z2
    refine ⟨same_new nT, fun A dm ha => .tup (.inl (.inl (cut_new (dm.new nT)))) (.cons (rv1.mono ?_) (.cons (rv2.mono ?_) .nil))⟩
    all_goals
      intro b o h
      have h' := (s.trans (same_new (o := .tup [x1, x2]) nT)) b o h
      rw [cut_out]
      · exact h'
      · intro z; rw [ha b z] at h; cases h
theorem itOk_zipT {Hb : Hp} {l l2 : Addr} {xs ys : List V} {ds es : List D} (q : SqT K Hb l xs) (r : RAll K Hb xs ds) (q2 : SqT K Hb l2 ys) (r2 : RAll K Hb ys es) : ItOk K Hb (ItzT K l l2) (zipD ds es) := by
  refine ⟨fun i H hi s => ?_, fun H s => ⟨xs, ys, sqT_same s q, sqT_same s q2, ?_⟩, fun i d x H H' hd s y => ?_⟩
  · rw [zipD_len] at hi
    have h1 : i < xs.length := by rw [r.length]; omega
    have h2 : i < ys.length := by rw [r2.length]; omega
    exact ⟨xs, ys, xs[i], ys[i], sqT_same s q, sqT_same s q2, by simp [h1], by simp [h2]⟩
  · rw [zipD_len, r.length, r2.length]; omega
  · obtain ⟨T, x1, x2, rfl, nT, rfl, f1, f2⟩ := y
    obtain ⟨d1, d2, e1, e2, rfl⟩ := zipD_get hd
    obtain ⟨v1, g1, rv1⟩ := r.get e1
    obtain ⟨v2, g2, rv2⟩ := r2.get e2
    have z1 := f1 xs (sqT_same s q); rw [g1] at z1; cases z1
    have z2 := f2 ys (sqT_same s q2); rw [g2] at z2; cases z2
    refine ⟨same_new nT, fun A dm ha => .tup (.inl (.inl (cut_new (dm.new nT)))) (.cons (rv1.mono ?_) (.cons (rv2.mono ?_) .nil))⟩
    all_goals
      intro b o h
      have h' := (s.trans (same_new (o := .tup [x1, x2]) nT)) b o h
      rw [cut_out]
      · exact h'
      · intro z; rw [ha b z] at h; cases h
theorem di_zip {elts : List Expr} {kk : Nat} {tpos : Pos} (hg : Gl X "zip") (hm : X.mg "zip" = none) (ha : DE X K mg E own a ta fa) (hb : DE X K mg E own b tb fb)
    (he : starEach (a :: [b]) X.env = (false, eval a X.env) :: starEach [b] X.env := by rfl) (he2 : starEach (b :: []) X.env = (false, eval b X.env) :: starEach [] X.env := by rfl)
    (hs : starEach [a, b] X.env = (false, eval a X.env) :: starEach [b] X.env := by rfl) (hpl : (backTo pos (starEach [b] X.env)).any (·.1) = false := by rfl) (hK : X.K = K := by rfl) :
    DI X K mg E own (.Tuple elts kk tpos) (.Call (.Name "zip" p) [a, b] [] pos) (iZipA K (tCons ta (tCons tb tNil))) (itZ fa fb) := by
  subst hK
  exact ⟨pi_zipA hg hm (pa_cons ha.pe (pa_cons hb.pe pa_nil he2) he) hs hpl, fun O H0 ρ σ H W e w => by
    unfold itZ at w
    rw [resW_bind] at w
    refine ha.ok O H0 ρ σ H _ e (w.mono (Same.refl H) fun d wd v1 H1 s1 r1 => ?_)
    rw [resW_bind] at wd
    refine hb.ok O H0 ρ σ H1 _ (e.mono s1) (wd.mono s1 fun d2 wd v2 H2 s2 r2 => ?_)
    cases d <;> first | exact wd.elim | skip
    · cases d2 <;> first | exact wd.elim | skip
      obtain ⟨l, xs, rfl, q, r⟩ := (r1.mono (cut_same s2)).list_of
      obtain ⟨l2, ys, rfl, q2, r2⟩ := r2.list_of
      exact ⟨l, l2, xs, ys, rfl, .inl ⟨.of (cut_sub _ _ q), .of (cut_sub _ _ q2), wd _ H2 (s1.trans s2) (itOk_zip q r q2 r2)⟩⟩
    · cases d2 <;> first | exact wd.elim | skip
      obtain ⟨l, xs, rfl, q, r⟩ := (r1.mono (cut_same s2)).tuple_of
      obtain ⟨l2, ys, rfl, q2, r2⟩ := r2.tuple_of
      exact ⟨l, l2, xs, ys, rfl, .inr ⟨sqT_same cut_sub q, sqT_same cut_sub q2, wd _ H2 (s1.trans s2) (itOk_zipT q r q2 r2)⟩⟩⟩
def itE (fa : Ex) : Ax := fun ρ => (fa ρ).bind fun x => match x with
  | .list xs => .ok (zipD ((List.range xs.length).map fun i => .int (i : Nat)) xs)
  | .tuple xs => .ok (zipD ((List.range xs.length).map fun i => .int (i : Nat)) xs)
  | _ => .bad

/-! ### x.index(y) -/
def dIndex : D → D → Option D
  | .list ds, d => if SeqAt.shaped d = true ∧ SeqAt.shaped (.list ds) = true then (ds.findIdx? fun z => PyData.eqv z d).map fun j => .int (j : Nat) else none
  | _, _ => none
def idx (fa fb : Ex) : Ex := fun ρ => (fa ρ).bind fun x => match x with
  | .list ds => (fb ρ).bind fun d => ofO (dIndex (.list ds) d)
  | _ => .bad
theorem de_index {apos cpos : Pos} (hu : X.A.units + 65 < cLine) (ha : DC X K mg E own a ta fa) (hb : DE X K mg E own b tb fb)
    (hbase : attributeBase a "index" X.env (eval a X.env) = eval a X.env := by rfl)
    (hfew : ((backTo cpos (starEach (b :: []) X.env)).all (fun x => !x.1) && (backToKw cpos (keywordEach [] X.env)).all (fun x => x.1.isSome)
      && decide ((b :: []).length + ([] : List Keyword).length + (if ([] : List Keyword).isEmpty then 0 else 1) < 30)) = true := by rfl)
    (hline : (apos.endLine == cpos.line) = true := by rfl) (hs : starEach (b :: []) X.env = (false, eval b X.env) :: starEach [] X.env := by rfl) (hplain : (backTo cpos (starEach [] X.env)).any (·.1) = false := by rfl) (hK : X.K = K := by rfl) :
    DE X K mg E own (.Call (.Attribute a "index" apos) [b] [] cpos) (tBM K "list" (rIndexD K) ta (tCons tb tNil)) (idx fa fb) := by
  subst hK
  exact ⟨pe_bm PySem.F.plainAttrs_list PySem.F.slot_list_index PySem.F.type_list_index (mt_indexD hu) ha.pe (pa_cons hb.pe pa_nil hs) hbase hfew hline hs hplain, fun O H0 ρ σ H Q en w => by
    unfold idx at w
    rw [resW_bind] at w
    refine ha.ok O H0 ρ σ H _ en (w.mono (Same.refl H) fun d wd v1 H1 s1 r1 => ?_)
    cases d <;> first | exact wd.elim | skip
    rename_i ds
    have r1' := r1
    obtain ⟨l, xs, rfl, q, r⟩ := r1.list_of cut_sub
    refine ⟨.inl ⟨rfl, _, .of q⟩, ?_⟩
    replace wd : ResW mg E H _ ((fb ρ).bind fun d => ofO (dIndex (.list ds) d)) := wd
    rw [resW_bind] at wd
    refine hb.ok O H0 ρ σ H1 _ (en.mono s1) (wd.mono s1 fun d2 wd v2 H2 s2 r2 => ?_)
    obtain ⟨z, e1, w2⟩ := OkW.of_some (okW_of wd)
    replace e1 : (if SeqAt.shaped d2 = true ∧ SeqAt.shaped (.list ds) = true then (ds.findIdx? fun z => PyData.eqv z d2).map (fun j => PyData.int (j : Nat)) else none) = some z := e1
    split at e1
    · rename_i cnd
      obtain ⟨j, e2, rfl⟩ := Option.map_eq_some_iff.mp e1
      obtain ⟨hj, hjd, hno⟩ := List.findIdx?_eq_some_iff_getElem.mp e2
      refine ⟨l, v2, d2, ds, j, ds[j], rfl, rfl, (crep_same r1' s2).dp cnd.2, Dp_mono cut_sub r2 cnd.1, cnd.2, cnd.1, by simp [hj], hjd, fun m z' hm hz => ?_, w2 _ H2 (s1.trans s2) (.int _)⟩
      have hm' : m < ds.length := by omega
      rw [List.getElem?_eq_getElem hm'] at hz
      cases hz
      have := hno m hm
      simpa using this
    · cases e1⟩

/-! ### slices -/
abbrev Px := Rho → Res (Option Int)
def pNo : Px := fun _ => .ok none
def pIs (f : Ex) : Px := fun ρ => (f ρ).bind fun d => match d with
  | .int i => .ok (some i)
  | _ => .bad
structure DP (X : Cx) (K : PySem.W.Frag) (mg : Str → Option Value) (E : XK) (own : List Nat) (e : Option Expr) (t : TO) (f : Px) : Prop where
  po : PO X e t
  ok : ∀ (O : Addr → Prop) (H0 : Hp) (ρ : Rho) (σ : L2.St) (H : Hp) (Q : Option Int → Hp → Prop), EnvOk K O H0 own ρ σ H → ResW mg E H (fun i => ∀ H', Same H H' → Q i H') (f ρ) → t σ H Q
theorem dp_no : DP X K mg E own none tNoPart pNo := ⟨po_none, fun O H0 ρ σ H Q e w => w H (Same.refl H)⟩
theorem dp_is (h : DE X K mg E own a ta fa) : DP X K mg E own (some a) (tPart ta) (pIs fa) := ⟨po_some h.pe, fun O H0 ρ σ H Q e w => by
  unfold pIs at w
  rw [resW_bind] at w
  refine h.ok O H0 ρ σ H _ e (w.mono (Same.refl H) fun d wd v H1 s1 r1 => ?_)
  cases d <;> first | exact wd.elim | skip
  exact ⟨_, r1.int_of, wd H1 s1⟩⟩
def cutD (xs : List D) (lo hi : Option Int) : List D := (xs.drop (HT.sIx xs.length 0 lo)).take (HT.sIx xs.length xs.length hi - HT.sIx xs.length 0 lo)
def dSl : D → Option Int → Option Int → Option D
  | .list ds, lo, hi => some (.list (cutD ds lo hi))
  | .tuple ds, lo, hi => some (.tuple (cutD ds lo hi))
  | .str z, lo, hi => if z.length ≤ sizeLine then some (.str (cutS z lo hi)) else none
  | _, _, _ => none
def slc (fa : Ex) (pl ph : Px) : Ex := fun ρ => (fa ρ).bind fun d => (pl ρ).bind fun lo => (ph ρ).bind fun hi => ofO (dSl d lo hi)
theorem RAll.cut {H : Hp} {vs : List V} {ds : List D} (r : RAll K H vs ds) (lo hi : Option Int) : RAll K H (cutV vs lo hi) (cutD ds lo hi) := by
  unfold cutV cutD
  rw [r.length]
  exact (r.drop _).take _
theorem cutD_whole {H : Hp} {vs : List V} {ds : List D} {i j : Option Int} (r : RAll K H vs ds) (z1 : HT.sIx vs.length 0 i = 0) (z2 : HT.sIx vs.length vs.length j = vs.length) : cutD ds i j = ds := by
  unfold cutD
  rw [← r.length, z1, z2, List.drop_zero, Nat.sub_zero, r.length, List.take_length]
theorem de_sl {lo hi : Option Expr} {tl th : TO} {pl ph : Px} {p2 : Pos} (ha : DC X K mg E own a ta fa) (hl : DP X K mg E own lo tl pl) (hh : DP X K mg E own hi th ph) (hK : X.K = K := by rfl) :
    DE X K mg E own (.Subscript a (.Slice lo hi none p2) pos) (tSl (fun x l h H Q => rSlL K x l h H Q ∨ (rSlA K x l h H Q ∨ rSlS x l h H Q)) ta tl th) (slc fa pl ph) := by
  subst hK
  exact ⟨pe_slice (sl_list.or (sl_tupA.or sl_str)) ha.pe hl.po hh.po, fun O H0 ρ σ H Q e w => by
    unfold slc at w
    rw [resW_bind] at w
    refine ha.ok O H0 ρ σ H _ e (w.mono (Same.refl H) fun d wd v1 H1 s1 r1 => ?_)
    rw [resW_bind] at wd
    refine hl.ok O H0 ρ σ H1 _ (e.mono s1) (wd.mono s1 fun i wi H2 s2 => ?_)
    rw [resW_bind] at wi
    refine hh.ok O H0 ρ σ H2 _ ((e.mono s1).mono s2) (wi.mono (s1.trans s2) fun j wj H3 s3 => ?_)
    have s13 : Same H1 H3 := s2.trans s3
    have s03 : Same H H3 := s1.trans s13
    have r3 := crep_same r1 s13
    have dm : Dom (AllA O own σ) H3 := e.domA.same s03
    replace wj := okW_of wj
    unfold dSl at wj
    split at wj
    · obtain ⟨l, xs, rfl, q, r⟩ := r3.list_of cut_sub
      exact .inl ⟨l, xs, rfl, .of q, fun p np => wj _ _ (s03.trans (same_new np)) (.lst (cut_new (dm.new np)) ((r.cut i j).mono (cut_same (same_new np))))⟩
    · cases r3 with
      | ow r => cases r
      | sh r3 =>
      obtain ⟨l, xs, rfl, q, r⟩ := r3.tuple_of
      refine .inr (.inl ⟨l, xs, rfl, sqT_same cut_sub q, fun ⟨z1, z2⟩ => ?_, fun _ p np => wj _ _ (s03.trans (same_new np)) (.tup (.inl (.inl (cut_new (dm.new np)))) ((r.cut i j).mono (cut_same (same_new np))))⟩)
      refine wj _ H3 s03 ?_
      rw [cutD_whole r z1 z2]
      exact .tup q r
    · obtain ⟨c, wj⟩ := okW_if wj
      rw [r3.str_of]
      exact .inr (.inr ⟨_, rfl, c, wj _ H3 s03 (.str _)⟩)
    · exact wj.elim⟩
end
end DL
end

section
set_option Elab.async false
set_option linter.all false
set_option maxRecDepth 100000
set_option maxHeartbeats 2000000
set_option autoImplicit false
/-! DL9: zip of a tuple with a list. -/
namespace DL
open PySem PySem.Spec PyProof.Rows L2 RZ

/-- a tuple at a, a list at b, walked side by side -/
def ItzM (K : PySem.W.Frag) (a b : Addr) : It where
  go := fun i H => ∃ (xs ys : List V) (x y : V), SqT K H a xs ∧ SqL K H b ys ∧ xs[i]? = some x ∧ ys[i]? = some y
  yld := fun i H v H' => ∃ T x y, v = .ref T ∧ H T = none ∧ H' = upd H T (.tup [x, y]) ∧ (∀ xs, SqT K H a xs → xs[i]? = some x) ∧ ∀ ys, SqL K H b ys → ys[i]? = some y
  stop := fun i H => ∃ xs ys : List V, SqT K H a xs ∧ SqL K H b ys ∧ i ≤ xs.length ∧ i ≤ ys.length ∧ (i = xs.length ∨ i = ys.length)

section
variable {P : Program} {w : World} {K : PySem.W.Frag} {elts : List Expr} {kk : Nat} {tpos : Pos} {a b z TI TO i1 i2 : Addr}
theorem turn_mix (S : ZipSep2 z TI TO i1 i2 [i1, a] [i2, b]) (na : a ≠ i1) (nb : b ≠ i2) :
    Turn P w K (.Tuple elts kk tpos) (ItzM K a b) [z, TI, TO, i1, i2] z (fun i h => IsZip h z TI TO .none ∧ IsTupOf2 h TI (.ref i1) (.ref i2) ∧ (∃ x y, IsTupOf2 h TO x y) ∧ h.IsTupleIter i1 a i ∧ h.IsListIter i2 b i) where
  mem := List.mem_cons_self
  obj := by
    rintro i h ⟨k1, k2, ⟨x, y, k3⟩, ⟨o1, e1, _, d1⟩, ⟨o2, e2, _, d2⟩⟩ c hc
    simp only [List.mem_cons, List.not_mem_nil, or_false] at hc
    rcases hc with rfl | rfl | rfl | rfl | rfl
    · exact ⟨_, k1, fun v => nofun⟩
    · exact ⟨_, k2, fun v => nofun⟩
    · exact ⟨_, k3, fun v => nofun⟩
    · exact ⟨o1, e1, fun v q => by rw [d1] at q; cases q⟩
    · exact ⟨o2, e2, fun v q => by rw [d2] at q; cases q⟩
  keep := by
    rintro i h h' ⟨k1, k2, ⟨x, y, k3⟩, m1, m2⟩ k
    exact ⟨k _ (by simp) _ k1, k _ (by simp) _ k2, ⟨x, y, k _ (by simp) _ k3⟩, m1.at (k i1 (by simp)), m2.at (k i2 (by simp))⟩
  item := by
    rintro X rfl rfl rfl hc i pins s σ H E I hf ⟨k1, k2, ⟨x0, y0, k3⟩, m1, m2⟩ ⟨xs, ys, x, y, qx, qy, gx, gy⟩
    obtain ⟨us, rv, pa, _⟩ := I.tuple qx
    obtain ⟨ts, rv2, pb, _⟩ := I.list qy
    obtain ⟨u, gu, ru⟩ := rv.get gx
    obtain ⟨t, gt, rt⟩ := rv2.get gy
    have hd : X.A.in1.handled = none := I.ok.hd hc
    have hpa : s.heap.IsTuple a us.toArray := pa
    have hu' : us.toArray[i]? = some u := by simpa using gu
    have ht' : ts.toArray[i]? = some t := by simpa using gt
    have lu : i < us.toArray.size := (Array.getElem?_eq_some_iff.mp hu').1
    have lt' : i < ts.toArray.size := (Array.getElem?_eq_some_iff.mp ht').1
    have zl := Heap.lt_size k1
    refine wpAny_pyNext_zipD2_item S (Draws.tuple hd i1 a na us.toArray) (Draws.list hd i2 b nb ts.toArray) k1 k2 k3 ⟨m1, hpa⟩ ⟨m2, pb.isList⟩ lu lt' ?_
    intro x1 x2 h1 tk f1 f2 z1 TO1 st1 st2 new1 sz kp
    rw [hu'] at f1
    rw [ht'] at f2
    cases f1
    cases f2
    refine ⟨_, rfl, wpAny_letOwnedTupleGo_zip (s := { s with heap := h1, toks := tk }) z1 ?_⟩
    intro h2 z2 sb
    have keeps : ∀ c o, c ∉ [z, TI, TO, i1, i2] → s.heap.get? c = some o → h2.get? c = some o := fun c o hb q => by
      simp only [List.mem_cons, List.not_mem_nil, or_false, not_or] at hb
      exact (sb.2 c hb.1).trans (kp c o hb.1 hb.2.2.1 hb.2.2.2.1 hb.2.2.2.2 q)
    have new2 := (sb.2 _ (Nat.ne_of_gt zl)).trans new1
    have ob : ObjOk X.prog X.w (upd H s.heap.objs.size (.tup [x, y])) h2 s.heap.objs.size (.tup [x, y]) := ⟨by show 2 ≤ sizeLine; decide, [u, t], .cons ru (.cons rt .nil), ⟨_, new2, rfl, _, rfl⟩⟩
    have I2 := I.turnedNew (t' := tk) (ch := [z, TI, TO, i1, i2]) keeps hf (Nat.le_refl _) ob
    refine ⟨.ref s.heap.objs.size, _, I2, rfl, ⟨_, x, y, rfl, I.hok.fresh (Nat.le_refl _), rfl, fun l hl => ?_, fun l hl => ?_⟩, ⟨z2, ?_, ⟨u, t, ?_⟩, ?_, ?_⟩, fun c hcm => ?_⟩
    · rw [I.tuple_inj hl qx]
      exact gx
    · rw [I.list_inj hl qy]
      exact gy
    · exact (sb.2 TI S.TIz).trans (kp TI _ S.TIz S.TITO S.TIi1 S.TIi2 k2)
    · exact (sb.2 TO S.TOz).trans TO1
    · exact st1.1.at fun o q => (sb.2 i1 S.zi1.symm).trans q
    · exact st2.1.at fun o q => (sb.2 i2 S.zi2.symm).trans q
    · have below : c < s.heap.objs.size := by
        simp only [List.mem_cons, List.not_mem_nil, or_false] at hcm
        rcases hcm with rfl | rfl | rfl | rfl | rfl
        · exact zl
        · exact Heap.lt_size k2
        · exact Heap.lt_size k3
        · obtain ⟨_, e, _⟩ := m1
          exact Heap.lt_size e
        · obtain ⟨_, e, _⟩ := m2
          exact Heap.lt_size e
      rw [upd_ne (Nat.ne_of_lt below)]
      exact (hf c hcm).1
  done := by
    rintro X rfl rfl rfl hc i pins s σ H E I hf ⟨k1, k2, ⟨x0, y0, k3⟩, m1, m2⟩ ⟨xs, ys, qx, qy, l1, l2, he⟩
    obtain ⟨us, rv, pa, _⟩ := I.tuple qx
    obtain ⟨ts, rv2, pb, _⟩ := I.list qy
    have hd : X.A.in1.handled = none := I.ok.hd hc
    have hpa : s.heap.IsTuple a us.toArray := pa
    have e1 : xs.length = us.toArray.size := by rw [rv.length]; simp
    have e2 : ys.length = ts.toArray.size := by rw [rv2.length]; simp
    refine wpAny_pyNext_zipD2_end S (Draws.tuple hd i1 a na us.toArray) (Draws.list hd i2 b nb ts.toArray) k1 k2 k3 (i := i) ⟨m1, hpa⟩ ⟨m2, pb.isList⟩ (by omega) (by omega) (by omega) ?_
    intro h1 tk kp
    have keeps : ∀ c o, c ∉ [z, TI, TO, i1, i2] → s.heap.get? c = some o → h1.get? c = some o := fun c o hb q => by
      simp only [List.mem_cons, List.not_mem_nil, or_false, not_or] at hb
      exact kp c o hb.1 hb.2.2.1 hb.2.2.2.1 hb.2.2.2.2 q
    exact ⟨rfl, I.turnedL (t' := tk) (ch := [z, TI, TO, i1, i2]) keeps hf⟩
  self := fun A i s Q E st h => wpAny_pyIter_zip st.1 h

end
section
variable {X : Cx} {K : PySem.W.Frag} {mg : Str → Option Value} {E : XK} {own : List Nat} {a b : Expr} {ta tb : TE} {fa fb : Ex} {p pos : Pos}
/-- zip of a tuple and a list -/
def iZipM (K : PySem.W.Frag) (ta : TA) : TI := fun σ H R => ta σ H fun vs H1 => ∃ a b xs ys, vs = [.ref a, .ref b] ∧ SqT K H1 a xs ∧ SqL K H1 b ys ∧ R (ItzM K a b) H1
theorem sepM {N a b : Nat} (ha : a < N) (hb : b < N) : ZipSep2 (N + 4) (N + 2) (N + 3) N (N + 1) [N, a] [N + 1, b] :=
  zip_sep2 (fp1 := [a]) (fp2 := [b]) (fun c m => by rcases List.mem_cons.mp m with rfl | m; exact ha; cases m) (fun c m => by rcases List.mem_cons.mp m with rfl | m; exact hb; cases m)
theorem pi_zipM {ta : TA} {elts : List Expr} {kk : Nat} {tpos : Pos} (hg : Gl X "zip") (hm : X.mg "zip" = none) (ha : PA X [a, b] ta)
    (hs : starEach [a, b] X.env = (false, eval a X.env) :: starEach [b] X.env := by rfl) (hpl : (backTo pos (starEach [b] X.env)).any (·.1) = false := by rfl) :
    PI X (.Tuple elts kk tpos) (.Call (.Name "zip" p) [a, b] [] pos) (iZipM X.K ta) where
  run := by
    intro pins s σ H R I h
    refine Call_ (ld_blt I hg hm PyProof.Rows.boot_zip (PyProof.Rows.callWith_type1 (thn (ha.run pos pins s σ H _ I h) ?_) hs hpl))
    rintro us s1 ⟨vs, H1, I1, r1, ⟨l, m, xs, ys, rfl, qx, qy, q⟩⟩
    cases r1 with
    | cons r rr =>
    cases rr with
    | cons r' rr =>
    cases rr
    cases r
    cases r'
    obtain ⟨its, rv, p1, _⟩ := I1.tuple qx
    obtain ⟨ts, rv2, p2, _⟩ := I1.list qy
    have hp1 : s1.heap.IsTuple l its.toArray := p1
    obtain ⟨o1, ho1, _⟩ := id p1
    have la := Heap.lt_size ho1
    have lb := p2.lt
    refine zip_begins2 (begins_tuple l its.toArray) (begins_list m ts.toArray) hp1 p2.isList ?_
    intro h' hz hTI hTO g1 g2 hsz hk
    refine wpAny_pyIter_zip hz ?_
    have I2 : Inv X pins σ H1 { s1 with heap := h' } := I1.kept (t' := s1.toks) hk
    refine ⟨s1.heap.objs.size + 4, [s1.heap.objs.size + 4, s1.heap.objs.size + 2, s1.heap.objs.size + 3, s1.heap.objs.size, s1.heap.objs.size + 1], _, _, H1, rfl, I2, turn_mix (sepM la lb) (Nat.ne_of_lt la) (Nat.ne_of_lt (Nat.lt_succ_of_lt lb)), ⟨hz, hTI, ⟨_, _, hTO⟩, ⟨_, g1, rfl, rfl⟩, ⟨_, g2, rfl, rfl⟩⟩, ?_, q⟩
    intro c hc
    have hle : s1.heap.objs.size ≤ c := by
      simp only [List.mem_cons, List.not_mem_nil, or_false] at hc
      rcases hc with rfl | rfl | rfl | rfl | rfl
      · exact Nat.le_add_right _ 4
      · exact Nat.le_add_right _ 2
      · exact Nat.le_add_right _ 3
      · exact Nat.le_refl _
      · exact Nat.le_add_right _ 1
    exact I1.fpOk hle (I1.hok.fresh hle)
theorem itOk_zipM {Hb : Hp} {l l2 : Addr} {xs ys : List V} {ds es : List D} (q : SqT K Hb l xs) (r : RAll K Hb xs ds) (q2 : Hb l2 = some (.lst ys)) (r2 : RAll K Hb ys es) : ItOk K Hb (ItzM K l l2) (zipD ds es) := by
  refine ⟨fun i H hi s => ?_, fun H s => ⟨xs, ys, sqT_same s q, .of (s _ _ q2), ?_⟩, fun i d x H H' hd s y => ?_⟩
  · rw [zipD_len] at hi
    have h1 : i < xs.length := by rw [r.length]; omega
    have h2 : i < ys.length := by rw [r2.length]; omega
    exact ⟨xs, ys, xs[i], ys[i], sqT_same s q, .of (s _ _ q2), by simp [h1], by simp [h2]⟩
  · rw [zipD_len, r.length, r2.length]; omega
  · obtain ⟨T, x1, x2, rfl, nT, rfl, f1, f2⟩ := y
    obtain ⟨d1, d2, e1, e2, rfl⟩ := zipD_get hd
    obtain ⟨v1, g1, rv1⟩ := r.get e1
    obtain ⟨v2, g2, rv2⟩ := r2.get e2
    have z1 := f1 xs (sqT_same s q); rw [g1] at z1; cases z1
    have z2 := f2 ys (.of (s _ _ q2)); rw [g2] at z2; cases z2
    refine ⟨same_new nT, fun A dm ha => .tup (.inl (.inl (cut_new (dm.new nT)))) (.cons (rv1.mono ?_) (.cons (rv2.mono ?_) .nil))⟩
    all_goals
      intro b o h
      have h' := (s.trans (same_new (o := .tup [x1, x2]) nT)) b o h
      rw [cut_out]
      · exact h'
      · intro z; rw [ha b z] at h; cases h
def itY (fa fb : Ex) : Ax := fun ρ => (fa ρ).bind fun x => (fb ρ).bind fun y => match x, y with
  | .list xs, .list ys => .ok (zipD xs ys)
  | .tuple xs, .tuple ys => .ok (zipD xs ys)
  | .tuple xs, .list ys => .ok (zipD xs ys)
  | _, _ => .bad
def iZipY (K : PySem.W.Frag) (ta : TA) : TI := fun σ H R => ta σ H fun vs H1 => ∃ a b xs ys, vs = [.ref a, .ref b] ∧
  ((SqL K H1 a xs ∧ SqL K H1 b ys ∧ R (Itz K a b) H1) ∨ (SqT K H1 a xs ∧ SqT K H1 b ys ∧ R (ItzT K a b) H1) ∨ (SqT K H1 a xs ∧ SqL K H1 b ys ∧ R (ItzM K a b) H1))
theorem pi_zipY {ta : TA} {elts : List Expr} {kk : Nat} {tpos : Pos} (hg : Gl X "zip") (hm : X.mg "zip" = none) (ha : PA X [a, b] ta)
    (hs : starEach [a, b] X.env = (false, eval a X.env) :: starEach [b] X.env := by rfl) (hpl : (backTo pos (starEach [b] X.env)).any (·.1) = false := by rfl) :
    PI X (.Tuple elts kk tpos) (.Call (.Name "zip" p) [a, b] [] pos) (iZipY X.K ta) where
  run := by
    intro pins s σ H R I h
    refine Call_ (ld_blt I hg hm PyProof.Rows.boot_zip (PyProof.Rows.callWith_type1 (thn (ha.run pos pins s σ H _ I h) ?_) hs hpl))
    rintro us s1 ⟨vs, H1, I1, r1, ⟨l, m, xs, ys, rfl, q1⟩⟩
    cases r1 with
    | cons r rr =>
    cases rr with
    | cons r' rr =>
    cases rr
    cases r
    cases r'
    have fr5 : ∀ c, c ∈ [s1.heap.objs.size + 4, s1.heap.objs.size + 2, s1.heap.objs.size + 3, s1.heap.objs.size, s1.heap.objs.size + 1] → FpOk X pins H1 c := by
      intro c hc
      have hle : s1.heap.objs.size ≤ c := by
        simp only [List.mem_cons, List.not_mem_nil, or_false] at hc
        rcases hc with rfl | rfl | rfl | rfl | rfl
        · exact Nat.le_add_right _ 4
        · exact Nat.le_add_right _ 2
        · exact Nat.le_add_right _ 3
        · exact Nat.le_refl _
        · exact Nat.le_add_right _ 1
      exact I1.fpOk hle (I1.hok.fresh hle)
    rcases q1 with ⟨qx, qy, q⟩ | ⟨qx, qy, q⟩ | ⟨qx, qy, q⟩
    · obtain ⟨its, rv, p1, _⟩ := I1.list qx
      obtain ⟨ts, rv2, p2, _⟩ := I1.list qy
      refine zip_begins2 (begins_list l its.toArray) (begins_list m ts.toArray) p1.isList p2.isList ?_
      intro h' hz hTI hTO g1 g2 hsz hk
      exact wpAny_pyIter_zip hz ⟨_, _, _, _, H1, rfl, I1.kept (t' := s1.toks) hk, turn_zip (PySem.W.ktu_apart s1.heap.objs.size l m p1.lt p2.lt), ⟨hz, hTI, ⟨_, _, hTO⟩, ⟨_, g1, rfl, rfl⟩, ⟨_, g2, rfl, rfl⟩⟩, fr5, q⟩
    · obtain ⟨its, rv, p1, _⟩ := I1.tuple qx
      obtain ⟨ts, rv2, p2, _⟩ := I1.tuple qy
      obtain ⟨o1, ho1, _⟩ := id p1
      obtain ⟨o2, ho2, _⟩ := id p2
      refine zip_begins2 (begins_tuple l its.toArray) (begins_tuple m ts.toArray) (show s1.heap.IsTuple l its.toArray from p1) (show s1.heap.IsTuple m ts.toArray from p2) ?_
      intro h' hz hTI hTO g1 g2 hsz hk
      exact wpAny_pyIter_zip hz ⟨_, _, _, _, H1, rfl, I1.kept (t' := s1.toks) hk, turn_zipT (PySem.W.ktu_apart s1.heap.objs.size l m (Heap.lt_size ho1) (Heap.lt_size ho2)), ⟨hz, hTI, ⟨_, _, hTO⟩, ⟨_, g1, rfl, rfl⟩, ⟨_, g2, rfl, rfl⟩⟩, fr5, q⟩
    · obtain ⟨its, rv, p1, _⟩ := I1.tuple qx
      obtain ⟨ts, rv2, p2, _⟩ := I1.list qy
      obtain ⟨o1, ho1, _⟩ := id p1
      have la := Heap.lt_size ho1
      have lb := p2.lt
      refine zip_begins2 (begins_tuple l its.toArray) (begins_list m ts.toArray) (show s1.heap.IsTuple l its.toArray from p1) p2.isList ?_
      intro h' hz hTI hTO g1 g2 hsz hk
      exact wpAny_pyIter_zip hz ⟨_, _, _, _, H1, rfl, I1.kept (t' := s1.toks) hk, turn_mix (sepM la lb) (Nat.ne_of_lt la) (Nat.ne_of_lt (Nat.lt_succ_of_lt lb)), ⟨hz, hTI, ⟨_, _, hTO⟩, ⟨_, g1, rfl, rfl⟩, ⟨_, g2, rfl, rfl⟩⟩, fr5, q⟩
theorem di_zipY {elts : List Expr} {kk : Nat} {tpos : Pos} (hg : Gl X "zip") (hm : X.mg "zip" = none) (ha : DE X K mg E own a ta fa) (hb : DE X K mg E own b tb fb)
    (he : starEach (a :: [b]) X.env = (false, eval a X.env) :: starEach [b] X.env := by rfl) (he2 : starEach (b :: []) X.env = (false, eval b X.env) :: starEach [] X.env := by rfl)
    (hs : starEach [a, b] X.env = (false, eval a X.env) :: starEach [b] X.env := by rfl) (hpl : (backTo pos (starEach [b] X.env)).any (·.1) = false := by rfl) (hK : X.K = K := by rfl) :
    DI X K mg E own (.Tuple elts kk tpos) (.Call (.Name "zip" p) [a, b] [] pos) (iZipY K (tCons ta (tCons tb tNil))) (itY fa fb) := by
  subst hK
  exact ⟨pi_zipY hg hm (pa_cons ha.pe (pa_cons hb.pe pa_nil he2) he) hs hpl, fun O H0 ρ σ H W e w => by
    unfold itY at w
    rw [resW_bind] at w
    refine ha.ok O H0 ρ σ H _ e (w.mono (Same.refl H) fun d wd v1 H1 s1 r1 => ?_)
    rw [resW_bind] at wd
    refine hb.ok O H0 ρ σ H1 _ (e.mono s1) (wd.mono s1 fun d2 wd v2 H2 s2 r2 => ?_)
    cases d <;> first | exact wd.elim | skip
    · cases d2 <;> first | exact wd.elim | skip
      obtain ⟨l, xs, rfl, q, r⟩ := (r1.mono (cut_same s2)).list_of
      obtain ⟨l2, ys, rfl, q2, r2⟩ := r2.list_of
      exact ⟨l, l2, xs, ys, rfl, .inl ⟨.of (cut_sub _ _ q), .of (cut_sub _ _ q2), wd _ H2 (s1.trans s2) (itOk_zip q r q2 r2)⟩⟩
    · cases d2 <;> first | exact wd.elim | skip
      · obtain ⟨l, xs, rfl, q, r⟩ := (r1.mono (cut_same s2)).tuple_of
        obtain ⟨l2, ys, rfl, q2, r2⟩ := r2.list_of
        exact ⟨l, l2, xs, ys, rfl, .inr (.inr ⟨sqT_same cut_sub q, .of (cut_sub _ _ q2), wd _ H2 (s1.trans s2) (itOk_zipM q r q2 r2)⟩)⟩
      · obtain ⟨l, xs, rfl, q, r⟩ := (r1.mono (cut_same s2)).tuple_of
        obtain ⟨l2, ys, rfl, q2, r2⟩ := r2.tuple_of
        exact ⟨l, l2, xs, ys, rfl, .inr (.inl ⟨sqT_same cut_sub q, sqT_same cut_sub q2, wd _ H2 (s1.trans s2) (itOk_zipT q r q2 r2)⟩)⟩⟩
end
end DL
end

section
set_option Elab.async false
set_option linter.all false
set_option maxRecDepth 100000
set_option maxHeartbeats 2000000
set_option autoImplicit false
/-! DL10: defs that may raise; try, except. -/
namespace DL
open PySem PySem.Spec PyProof.Rows L2

/-! ### the own classes of exceptions: all stand under ChanceError, that under ValueError -/
def upB (c x : Str) : Bool := decide (c = x) || decide (x = "ChanceError") || decide (x = "ValueError")
def excOneB (K : PySem.W.Frag) (c : Str) : Bool :=
  He.eqO (PySem.W.nsIn K mainGlobals c) (some (some (.ref (He.ga K c)))) && (PySem.W.excIn K (He.ga K c) He.veBase "ValueError.__new__" && (PySem.W.keepIn K (.ref (He.ga K c)) &&
  (decide (PySem.W.subIn K (.ref (He.ga K c)) (.type "BaseException") = some true) && (decide (PySem.W.typeIn K (.ref (He.ga K c)) = some (.type "type")) &&
  (He.eqO (PySem.W.findIn K (.ref (He.ga K c)) "__getattribute__") (some (some (.builtin "BaseException.__getattribute__"))) && (He.eqO (PySem.W.findIn K (.ref (He.ga K c)) "__getattr__") (some none) &&
  (PySem.W.hasDictIn K (He.ga K c) && (He.eqO (PySem.W.findIn K (.ref (He.ga K c)) "__class__") (some (some (.builtin "object.__class__"))) &&
  (He.eqO (PySem.W.specialIn K (.builtin "object.__class__") "__get__") (some (some (.builtin "getset_descriptor.__get__"))) && (decide (PySem.W.takesIn K (.builtin "object.__class__") = some true) &&
  (decide (PySem.W.mroIn K (He.ga K c) (.type "object") = some true) && decide (PySem.W.kitOne K (.ref (He.ga K c)) (.type "ValueError") = some true))))))))))))
def excTwoB (K : PySem.W.Frag) (c x : Str) : Bool := decide (PySem.W.exmOne K (.ref (He.ga K c)) (.ref (He.ga K x)) = some (upB c x)) && decide (PySem.W.kitOne K (.ref (He.ga K c)) (.ref (He.ga K x)) = some (upB c x))
def excAllB (K : PySem.W.Frag) (cs : List Str) : Bool := cs.all fun c => excOneB K c && cs.all fun x => excTwoB K c x
structure ExcOne (K : PySem.W.Frag) (mg : Str → Option Value) (c : Str) : Prop where
  g : mg c = some (.ref (He.ga K c))
  x : PySem.W.excIn K (He.ga K c) He.veBase "ValueError.__new__" = true
  k : PySem.W.keepIn K (.ref (He.ga K c)) = true
  b : PySem.W.subIn K (.ref (He.ga K c)) (.type "BaseException") = some true
  t : PySem.W.typeIn K (.ref (He.ga K c)) = some (.type "type")
  C : ExcC K (He.ga K c)
  v : PySem.W.kitOne K (.ref (He.ga K c)) (.type "ValueError") = some true
structure ExcAll (K : PySem.W.Frag) (mg : Str → Option Value) (cs : List Str) : Prop where
  one : ∀ c, c ∈ cs → ExcOne K mg c
  exm : ∀ c x, c ∈ cs → x ∈ cs → PySem.W.exmOne K (.ref (He.ga K c)) (.ref (He.ga K x)) = some (upB c x)
  kit : ∀ c x, c ∈ cs → x ∈ cs → PySem.W.kitOne K (.ref (He.ga K c)) (.ref (He.ga K x)) = some (upB c x)
theorem excAll_of {K : PySem.W.Frag} {mg : Str → Option Value} {h : Heap} {cs : List Str} (X : K.In h) (G : h.Ns mainGlobals mg) (e : excAllB K cs = true) : ExcAll K mg cs := by
  have e1 : ∀ c, c ∈ cs → excOneB K c = true ∧ ∀ x, x ∈ cs → excTwoB K c x = true := fun c hc => by
    have := List.all_eq_true.mp e c hc
    obtain ⟨a, b⟩ := He.ba this
    exact ⟨a, fun x hx => List.all_eq_true.mp b x hx⟩
  refine ⟨fun c hc => ?_, fun c x hc hx => ?_, fun c x hc hx => ?_⟩
  · have q := (e1 c hc).1
    unfold excOneB at q
    obtain ⟨q1, q⟩ := He.ba q
    obtain ⟨q2, q⟩ := He.ba q
    obtain ⟨q3, q⟩ := He.ba q
    obtain ⟨q4, q⟩ := He.ba q
    obtain ⟨q5, q⟩ := He.ba q
    obtain ⟨q6, q⟩ := He.ba q
    obtain ⟨q7, q⟩ := He.ba q
    obtain ⟨q8, q⟩ := He.ba q
    obtain ⟨q9, q⟩ := He.ba q
    obtain ⟨q10, q⟩ := He.ba q
    obtain ⟨q11, q⟩ := He.ba q
    obtain ⟨q12, q13⟩ := He.ba q
    exact ⟨PySem.W.mg_of X G (He.eqO_ok q1), q2, q3, of_decide_eq_true q4, of_decide_eq_true q5, ⟨He.eqO_ok q6, He.eqO_ok q7, of_decide_eq_true q4, q8, He.eqO_ok q9, He.eqO_ok q10, of_decide_eq_true q11, of_decide_eq_true q12⟩, of_decide_eq_true q13⟩
  · exact of_decide_eq_true (He.ba ((e1 c hc).2 x hx)).1
  · exact of_decide_eq_true (He.ba ((e1 c hc).2 x hx)).2

/-! ### defs that may raise -/
structure DefX (P : Program) (w : World) (K : PySem.W.Frag) (mg : Str → Option Value) (base : Heap) (x : Str) (ps : List Str) (k n : Nat) (fM : List D → Res D) : Prop where
  ex : ∃ (f : Addr) (fd : FuncData), mg x = some (.ref f) ∧ PySem.W.keepIn K (.ref f) = true ∧ Binds K fd ps [] ∧ FnOk P w K mg base (L2.CX P w) k f fd ps (spD K mg n fM)
abbrev Loud (X : Cx) (E : XK) : Prop := Takes X (fun cls d _ H => E cls d H)
section
variable {P : Program} {w : World} {K : PySem.W.Frag} {mg : Str → Option Value} {base : Heap}
theorem mkDefX {x : Str} {st : Stmt} {N ps : List Str} {n : Nat} (g : Gx) {fM : List D → Res D} (hM : fM = run N.length g) (k : Nat) (T : At K mg x st) (S : FnScope N ps (defScope st)) (hn : ps.length = n)
    (hbind : ∀ (kV doc pm : Value) (an : Option Addr) (cdv ct : Value) (us : List Value), us.length = ps.length → bindArgs (PySem.W.fnOf x x (defArgs st) (defBody st) (defScope st) .none kV doc pm an cdv ct) ⟨us, []⟩ = pure (ps.zip us))
    (hbody : ∀ (cdv : Value) (A : Around) (outer : List Env) (s : Shared) (H : Hp) (E : XK) (f : Addr), Room k (A.deeper (envOfC x (defScope st) s.heap.objs.size f cdv)) →
      Loud (cxOf (L2.CX P w) P w K mg base N x (defScope st) f cdv A outer s H E) E →
      ∃ (own' : List Nat) (t : TS), DSs (cxOf (L2.CX P w) P w K mg base N x (defScope st) f cdv A outer s H E) K mg E [] own' (defBody st) t g) : DefX P w K mg base x ps (k + 1) n fM := by
  subst hM
  obtain ⟨f, fd, hm, F⟩ := T.ex
  refine ⟨f, fd, hm, F.kp, F.bindsN hbind, ?_⟩
  have F' := F
  obtain ⟨oc, od, dV, kV, doc, pm, an, cdv, ct, osl, rfl, lk, hcd, hD, hK⟩ := F.ex
  refine fn_of lk hcd S (fun vs H Q E h => by rw [h.1, hn]) fun A outer s H vs Q E hr h => ?_
  obtain ⟨own', t, hb⟩ := hbody cdv A outer s H E f hr (takes_of rfl rfl rfl rfl)
  obtain ⟨_, O, ds, dom, r, w⟩ := h
  exact ⟨t, hb.ps, ts_out hb.ok (fun i m => by cases m) O H _ _ H _ (env_start dom r) (ends_of w)⟩
end
section
variable {X : Cx} {K : PySem.W.Frag} {mg : Str → Option Value} {E : XK} {own own' : List Nat}
theorem passX (tk : Loud X E) : Passes (L2.CX X.prog X.w) X E := passes_call tk fun _ _ _ _ h => h
theorem passQ : Passes (L2.CX X.prog X.w) X E0' := passL
/-- a call of a def that may raise -/
theorem de_fnX {k n : Nat} {fM : List D → Res D} {x : Str} {ps : List Str} {p pos : Pos} {e : Expr} {es : List Expr} {t : TA} {g : Ax}
    (G : DefX X.prog X.w X.K X.mg X.base x ps k n fM) (hx : Passes (L2.CX X.prog X.w) X E) (hr : Room k X.A) (ha : DA X K mg E own (e :: es) t g) (hg : Gl X x := by rfl) (hdb : (x == ("__debug__" : Str)) = false := by decide) (he : starEach (e :: es) X.env = (false, eval e X.env) :: starEach es X.env := by rfl) (hpl : (backTo pos (starEach es X.env)).any (·.1) = false := by rfl) (hK : X.K = K := by rfl) (hmg : X.mg = mg := by rfl) :
    DE X K mg E own (.Call (.Name x p) (e :: es) [] pos) (tCall (spD K mg n fM) [] E t) (callD n fM g) := by
  subst hK hmg
  obtain ⟨f, fd, hm, hk, hb, F⟩ := G.ex
  exact de_call F hr hg hm hk hb hx ha hdb he hpl
theorem de_fnX0 {k : Nat} {fM : List D → Res D} {x : Str} {ps : List Str} {p pos : Pos}
    (G : DefX X.prog X.w X.K X.mg X.base x ps k 0 fM) (hx : Passes (L2.CX X.prog X.w) X E) (hr : Room k X.A) (hg : Gl X x := by rfl) (hdb : (x == ("__debug__" : Str)) = false := by decide) (hK : X.K = K := by rfl) (hmg : X.mg = mg := by rfl) :
    DE X K mg E own (.Call (.Name x p) [] [] pos) (tCall (spD K mg 0 fM) [] E tNil) (callD 0 fM aNil) := by
  subst hK hmg
  obtain ⟨f, fd, hm, hk, hb, F⟩ := G.ex
  exact ⟨pe_call0 F hr hg hm hk hb .nil hx hdb, fun O H0 ρ σ H Q en w => ⟨rfl, AllA O own σ, [], en.domA, .nil, w⟩⟩
/-- raise X('..') -/
theorem ds_raiseX {x m : Str} {j : Nat} {p p2 pos pos2 : Pos} (T : ExcOne K mg x) (tk : Loud X E) (hc : X.calm = true := by rfl) (hg : Gl X x := by rfl) (hdb : (x == ("__debug__" : Str)) = false := by decide) (hK : X.K = K := by rfl) (hmg : X.mg = mg := by rfl) :
    DS X K mg E own own' (.Raise (some (.Call (.Name x p) [.Constant (.str m) j p2] [] pos)) none pos2) (fun _ _ H => E (.ref (He.ga K x)) none H) (gRaise x) := by
  subst hK hmg
  exact ⟨ps_raise hc tk (pmk_own PySem.F.excBase_ValueError T.x T.g T.k (raises_own T.b T.t) hg hdb), fun O H0 ρ σ H D en w => by
    obtain ⟨C, hC, z⟩ := w
    rw [T.g] at hC
    cases hC
    exact z H en.base⟩
end

/-! ### try: what stands within changes no name -/
structure DB (X : Cx) (K : PySem.W.Frag) (mg : Str → Option Value) (own : List Nat) (body : List Stmt) (tb : WX → TS) (gB : Rho → Res Unit) : Prop where
  ps : ∀ (W : WX) (pn : List (Addr × Obj)) (xe : Value → Shared → Prop), Takes (X.tr pn xe) W → PSs (X.tr pn xe) body (tb W)
  ok : ∀ (O : Addr → Prop) (H0 : Hp) (ρ : Rho) (σ : L2.St) (H : Hp) (D : Ends) (W : WX), EnvOk K O H0 own ρ σ H →
    (match gB ρ with
      | .ok _ => ∀ H', EnvOk K O H0 own ρ σ H' → D.nx σ H'
      | .exc c => ∃ C, mg c = some (.ref C) ∧ ∀ H', EnvOk K O H0 own ρ σ H' → W (.ref C) none σ H'
      | .bad => False) → tb W D σ H
def bCall (n : Nat) (fM : List D → Res D) (g : Ax) : Rho → Res Unit := fun ρ => (g ρ).calm.bind fun ds => if ds.length = n then (fM ds).bind fun _ => .ok () else .bad
section
variable {X : Cx} {K : PySem.W.Frag} {mg : Str → Option Value} {own own' : List Nat}
theorem db_call {k n : Nat} {fM : List D → Res D} {x : Str} {ps : List Str} {p pos epos : Pos} {e : Expr} {es : List Expr} {t : TA} {g : Ax}
    (G : DefX X.prog X.w X.K X.mg X.base x ps k n fM) (hr : Room k X.A) (ha : ∀ (pn : List (Addr × Obj)) (xe : Value → Shared → Prop), DA (X.tr pn xe) K mg E0' own (e :: es) t g) (hg : Gl X x := by rfl) (hdb : (x == ("__debug__" : Str)) = false := by decide) (he : starEach (e :: es) X.env = (false, eval e X.env) :: starEach es X.env := by rfl) (hpl : (backTo pos (starEach es X.env)).any (·.1) = false := by rfl)
    (hs : swapsWith (.Call (.Name x p) (e :: es) [] pos) none epos.line X.env = pure false := by rfl) (hK : X.K = K := by rfl) (hmg : X.mg = mg := by rfl) :
    DB X K mg own [.Expr (.Call (.Name x p) (e :: es) [] pos) epos] (fun W => tDrop (tCallS (spD K mg n fM) (WE W) t)) (bCall n fM g) := by
  subst hK hmg
  obtain ⟨f, fd, hm, hk, hb, F⟩ := G.ex
  refine ⟨fun W pn xe tk => pss_one (ps_expr (pe_callS (X := X.tr pn xe) F hr hg hm hk hb (fun σ => passAt tk σ) (ha pn xe).pa hdb he hpl) hs), fun O H0 ρ σ H D W en w => ?_⟩
  have aok := (ha [] fun _ _ => True).ok
  unfold bCall at w
  refine aok O H0 ρ σ H _ en ?_
  cases hgr : g ρ with
  | exc c => rw [hgr] at w; exact w.elim
  | bad => rw [hgr] at w; exact w.elim
  | ok ds =>
    rw [hgr] at w
    intro vs H1 s1 r1
    have w' : (match (if ds.length = n then (fM ds).bind fun _ => .ok () else .bad : Res Unit) with
      | .ok _ => ∀ H', EnvOk X.K O H0 own ρ σ H' → D.nx σ H'
      | .exc c => ∃ C, X.mg c = some (.ref C) ∧ ∀ H', EnvOk X.K O H0 own ρ σ H' → W (.ref C) none σ H'
      | .bad => False) := w
    by_cases c : ds.length = n
    · rw [if_pos c] at w'
      refine ⟨by rw [r1.length, c], AllA O own σ, ds, en.domA.same s1, r1, ?_⟩
      cases hf : fM ds with
      | ok d =>
        rw [hf] at w'
        exact fun v H' s' _ => w' H' (en.mono (s1.trans s'))
      | exc c =>
        rw [hf] at w'
        obtain ⟨C, hC, z⟩ := w'
        exact ⟨C, hC, fun H' s' => z H' (en.mono (s1.trans s'))⟩
      | bad => rw [hf] at w'; exact w'
    · rw [if_neg c] at w'; exact w'.elim
def bIf (c : Tx) (g h : Rho → Res Unit) : Rho → Res Unit := fun ρ => (c ρ).calm.bind fun b => if b = true then g ρ else h ρ
theorem db_if {c : Expr} {a b : List Stmt} {tc : TT} {fc : Tx} {ta tb : WX → TS} {ga gb : Rho → Res Unit} {pos : Pos} (hc : ∀ (pn : List (Addr × Obj)) (xe : Value → Shared → Prop), DT (X.tr pn xe) K mg E0' own c tc fc) (ha : DB X K mg own a ta ga) (hb : DB X K mg own b tb gb) :
    DB X K mg own [.If c a b pos] (fun W => tIfS tc (ta W) (tb W)) (bIf fc ga gb) := by
  refine ⟨fun W pn xe tk => pss_one (ps_if (hc pn xe).pt (ha.ps W pn xe tk) (hb.ps W pn xe tk)), fun O H0 ρ σ H D W en w => ?_⟩
  unfold bIf at w
  refine (hc [] fun _ _ => True).ok O H0 ρ σ H _ en ?_
  cases hcr : fc ρ with
  | exc c => rw [hcr] at w; exact w.elim
  | bad => rw [hcr] at w; exact w.elim
  | ok k =>
    rw [hcr] at w
    intro H1 s1
    cases k with
    | true => exact iteT (ha.ok O H0 ρ σ H1 D W (en.mono s1) w)
    | false => exact iteF (hb.ok O H0 ρ σ H1 D W (en.mono s1) w)
/-! #### clauses without a name -/
def pickG : List (Str × Gx) → Str → Gx
  | [], _ => fun _ => .bad
  | (x, g) :: r, c => fun ρ => if upB c x = true then g ρ else pickG r c ρ
structure DHs (X : Cx) (K : PySem.W.Frag) (mg : Str → Option Value) (cs : List Str) (own own' : List Nat) (hds : List ExceptHandler) (l : List (Value × (Addr → Value → Option Addr → TS))) (gs : List (Str × Gx)) : Prop where
  ps : HdsOk X hds l
  ok : ∀ (O : Addr → Prop) (H0 : Hp) (ρ : Rho) (σ : L2.St) (H : Hp) (D : Ends) (c : Str), c ∈ cs → EnvOk K O H0 own ρ σ H → OutW K mg E0' O H0 own' D (pickG gs c ρ) → wMany K (fun _ _ _ _ => False) D l (.ref (He.ga K c)) none σ H
theorem dhs_nil {cs : List Str} : DHs X K mg cs own own' [] [] [] := ⟨.nil, fun O H0 ρ σ H D c hc en w => w⟩
theorem dhs_cons {cs : List Str} (A : ExcAll K mg cs) {x : Str} {np pos' : Pos} {b₀ : Stmt} {suite : List Stmt} {ts : TS} {g : Gx} {hds : List ExceptHandler} {l : List (Value × (Addr → Value → Option Addr → TS))} {gs : List (Str × Gx)}
    (hsu : ∀ (a : Addr) (oe : Obj) (pn : List (Addr × Obj)), DSs (X.suite a ((a, oe) :: pn)) K mg E0' own own' (b₀ :: suite) ts g) (r : DHs X K mg cs own own' hds l gs) (hxc : x ∈ cs := by decide) (hg : Gl X x := by rfl) (hdb : (x == ("__debug__" : Str)) = false := by decide) (hK : X.K = K := by rfl) (hmg : X.mg = mg := by rfl) :
    DHs X K mg cs own own' (.ExceptHandler (some (.Name x np)) none (b₀ :: suite) pos' :: hds) ((.ref (He.ga K x), fun _ _ _ => ts) :: l) ((x, g) :: gs) := by
  subst hK hmg
  refine ⟨.cons ⟨hg, hdb, .inl (A.one x hxc).g⟩ (fun a oe cls d pn _ _ => (hsu a oe pn).ps) r.ps, fun O H0 ρ σ H D c hc en w => ?_⟩
  refine ⟨upB c x, A.exm c x hc hxc, fun e a _ => ?_, fun e => ?_⟩
  · unfold pickG at w
    rw [if_pos e] at w
    exact (hsu a default []).ok O H0 ρ σ H D en w
  · unfold pickG at w
    rw [if_neg (by rw [e]; decide)] at w
    exact r.ok O H0 ρ σ H D c hc en w
def gTryM (cs : List Str) (gB : Rho → Res Unit) (gs : List (Str × Gx)) : Gx := fun ρ => match gB ρ with
  | .ok _ => .nx ρ
  | .exc c => if c ∈ cs then pickG gs c ρ else .bad
  | .bad => .bad
theorem ds_tryM {cs : List Str} (A : ExcAll K mg cs) {body : List Stmt} {tb : WX → TS} {gB : Rho → Res Unit} {h₀ : ExceptHandler} {hds : List ExceptHandler} {l : List (Value × (Addr → Value → Option Addr → TS))} {gs : List (Str × Gx)} {pos : Pos}
    (hb : DB X K mg own body tb gB) (hh : DHs X K mg cs own own' (h₀ :: hds) l gs) (s : ∀ i ∈ own', i ∈ own := by decide) (hs : X.stack = X.env :: X.outer := by rfl) (hf : X.env.frame = some X.env.locals := by rfl) (hK : X.K = K := by rfl) :
    DS X K mg E0' own own' (.Try body (h₀ :: hds) [] [] pos) (fun D σ H => tb (wMany K (fun _ _ _ _ => False) D l) D σ H) (gTryM cs gB gs) := by
  subst hK
  refine ⟨ps_try_many hs hf takes0 (fun W pn xe tk _ => hb.ps W pn xe tk) hh.ps, fun O H0 ρ σ H D en w => ?_⟩
  refine hb.ok O H0 ρ σ H D _ en ?_
  unfold gTryM at w
  cases q : gB ρ with
  | ok _ => rw [q] at w; exact fun H' e' => w σ H' (e'.freeze s)
  | bad => rw [q] at w; exact w
  | exc c =>
    rw [q] at w
    by_cases hc : c ∈ cs
    · have w' : OutW X.K mg E0' O H0 own' D (if c ∈ cs then pickG gs c ρ else .bad) := w
      rw [if_pos hc] at w'
      exact ⟨_, (A.one c hc).g, fun H' e' => hh.ok O H0 ρ σ H' D c hc e' w'⟩
    · have w' : OutW X.K mg E0' O H0 own' D (if c ∈ cs then pickG gs c ρ else .bad) := w
      rw [if_neg hc] at w'
      exact w'.elim
end

/-! ### except X as e: what the suite asks of e -/
def TEz (K : PySem.W.Frag) (mg : Str → Option Value) (i : Nat) (a : Addr) (own : List Nat) (t : TE) (f : Ex) : Prop :=
  ∀ (O : Addr → Prop) (H0 : Hp) (ρ : Rho) (σ : L2.St) (H : Hp) (Q : VK), EnvOk K O H0 own ρ σ H → σ[i]? = some (some (.ref a)) → ResW mg E0' H (fun d => ∀ v H', Same H H' → R K (Cut (AllA O own σ) H') v d → Q v H') (f ρ) → t σ H Q
structure DEz (X : Cx) (K : PySem.W.Frag) (mg : Str → Option Value) (i : Nat) (a : Addr) (own : List Nat) (e : Expr) (t : TE) (f : Ex) : Prop where
  pe : PE X e t
  ok : TEz K mg i a own t f
def TSz (K : PySem.W.Frag) (mg : Str → Option Value) (i : Nat) (a : Addr) (own own' : List Nat) (t : TS) (g : Gx) : Prop :=
  ∀ (O : Addr → Prop) (H0 : Hp) (ρ : Rho) (σ : L2.St) (H : Hp) (D : Ends), EnvOk K O H0 own ρ σ H → σ[i]? = some (some (.ref a)) → OutW K mg E0' O H0 own' D (g ρ) → t D σ H
structure DSz (X : Cx) (K : PySem.W.Frag) (mg : Str → Option Value) (i : Nat) (a : Addr) (own own' : List Nat) (st : List Stmt) (t : TS) (g : Gx) : Prop where
  ps : PSs X st t
  ok : TSz K mg i a own own' t g
section
variable {X : Cx} {K : PySem.W.Frag} {mg : Str → Option Value} {i : Nat} {a : Addr} {own own' own'' : List Nat} {e b c : Expr} {t te tb tc : TE} {f fb fc : Ex} {p pos : Pos} {rest : List Expr}
theorem dez_of (h : DE X K mg E0' own e te f) : DEz X K mg i a own e te f := ⟨h.pe, fun O H0 ρ σ H Q en _ w => h.ok O H0 ρ σ H Q en w⟩
theorem dez_op {o : Operator} {op : D → D → Option D} {r : R2} (ho : OpR X (binaryOp o) r) (hr : OpD K r op) (ha : DEz X K mg i a own e te f) (hb : DEz X K mg i a own b tb fb) : DEz X K mg i a own (.BinOp e o b pos) (tOp r te tb) (bin f fb op) :=
  ⟨pe_op ho ha.pe hb.pe, fun O H0 ρ σ H Q en z w => by
    unfold bin at w
    rw [resW_bind] at w
    refine ha.ok O H0 ρ σ H _ en z (w.mono (Same.refl H) fun x wa v1 H1 s1 r1 => ?_)
    rw [resW_bind] at wa
    refine hb.ok O H0 ρ σ H1 _ (en.mono s1) z (wa.mono s1 fun y wb v2 H2 s2 r2 => ?_)
    exact hr _ H2 v1 v2 x y Q (en.domA.same (s1.trans s2)) (r1.mono (cut_same s2)) r2 ((okW_of wb).mono fun d k v H' s r => k v H' ((s1.trans s2).trans s) r)⟩
theorem dez_add (ha : DEz X K mg i a own e te f) (hb : DEz X K mg i a own b tb fb) (hK : X.K = K := by rfl) : DEz X K mg i a own (.BinOp e .Add b pos) (tOp (rAddD K) te tb) (bin f fb dAdd) := by
  subst hK
  exact dez_op op_addD od_add ha hb
theorem dez_eq (hu : X.A.units + 64 < cLine) (ha : DEz X K mg i a own e te f) (hb : DEz X K mg i a own b tb fb) (hK : X.K = K := by rfl) : DEz X K mg i a own (.Compare e [.Eq] [b] pos) (tOp (rEqD K) te tb) (bin f fb dEq) := by
  subst hK
  exact ⟨pe_cmpR (op_eqD hu) ha.pe hb.pe (nomark _), fun O H0 ρ σ H Q en z w => by
    unfold bin at w
    rw [resW_bind] at w
    refine ha.ok O H0 ρ σ H _ en z (w.mono (Same.refl H) fun x wa v1 H1 s1 r1 => ?_)
    rw [resW_bind] at wa
    refine hb.ok O H0 ρ σ H1 _ (en.mono s1) z (wa.mono s1 fun y wb v2 H2 s2 r2 => ?_)
    exact od_eq _ H2 v1 v2 x y Q (en.domA.same (s1.trans s2)) (r1.mono (cut_same s2)) r2 ((okW_of wb).mono fun d k v H' s r => k v H' ((s1.trans s2).trans s) r)⟩
theorem dez_int (hm : X.mg "int" = none) (ha : DEz X K mg i a own e te f) (hg : Gl X "int" := by rfl) (he : starEach (e :: []) X.env = (false, eval e X.env) :: starEach [] X.env := by rfl) (hpl : (backTo pos (starEach [] X.env)).any (·.1) = false := by rfl) :
    DEz X K mg i a own (.Call (.Name "int" p) [e] [] pos) (tCB (fun xs H Q => (∃ i, xs = [V.int i] ∧ Q (.int i) H) ∨ ∃ k, xs = [V.bl k] ∧ Q (.int (if k then 1 else 0)) H) (tCons te tNil)) (un f dInt) :=
  ⟨pe_callTy call_int1 hg hm bt_int (pa_cons ha.pe pa_nil he) (by decide) (by decide) he hpl, fun O H0 ρ σ H Q en z w => by
    unfold un at w
    rw [resW_bind] at w
    refine ha.ok O H0 ρ σ H _ en z (w.mono (Same.refl H) fun x wa v1 H1 s1 r1 => ?_)
    exact cc_int (K := K) _ H1 v1 x Q (en.domA.same s1) (.sh r1) ((okW_of wa).mono fun d k v H' s r => k v H' (s1.trans s) r)⟩
theorem dez_one {o : BoolOp} (h : DEz X K mg i a own e te f) : DEz X K mg i a own (.BoolOp o [e] pos) te f := ⟨pe_one h.pe, h.ok⟩
theorem dez_and (ha : DEz X K mg i a own e te f) (hb : DEz X K mg i a own (.BoolOp .And (b :: rest) pos) tb fb) : DEz X K mg i a own (.BoolOp .And (e :: b :: rest) pos) (tAndV te tb) (andV f fb) :=
  ⟨pe_and ha.pe hb.pe, fun O H0 ρ σ H Q en z w => by
    unfold andV at w
    rw [resW_bind] at w
    refine ha.ok O H0 ρ σ H _ en z (w.mono (Same.refl H) fun d wd v H1 s1 r1 => ?_)
    cases d <;> first | exact wd.elim | skip
    rename_i k
    rw [r1.bool_of]
    refine ⟨k, rfl, ?_⟩
    cases k with
    | true => exact iteT (hb.ok O H0 ρ σ H1 _ (en.mono s1) z (ResW.mono wd s1 fun k h v H' s => h v H' (s1.trans s)))
    | false => exact iteF (wd _ H1 s1 (.bl false))⟩
theorem dez_not (ha : DEz X K mg i a own e te f) : DEz X K mg i a own (.UnaryOp .Not e pos) (tNotV te) (notV f) :=
  ⟨pe_not ha.pe, fun O H0 ρ σ H Q en z w => by
    unfold notV at w
    rw [resW_bind] at w
    refine ha.ok O H0 ρ σ H _ en z (w.mono (Same.refl H) fun d wd v H1 s1 r1 => ?_)
    cases d <;> first | exact wd.elim | skip
    rename_i k
    rw [r1.bool_of]
    exact ⟨k, rfl, wd _ H1 s1 (.bl _)⟩⟩
theorem dsz_ret (he : DEz X K mg i a own e te f) : DSz X K mg i a own own' [.Return (some e) pos] (tRet te) (gRet f) :=
  ⟨pss_one (ps_ret he.pe), fun O H0 ρ σ H D en z w => he.ok O H0 ρ σ H _ en z ((outW_out en w).mono (Same.refl H) fun d wd v H1 s1 r1 => wd v H1 (en.base.trans s1) (r1.mono (cut_mono fun a h => .inl h)))⟩
theorem dsz_set (j : Nat) {x : Str} {pos' : Pos} (hi' : j ∉ own := by decide) (hN : X.N.Nodup) (he : DEz X K mg i a own e te f) (hi : X.N[j]? = some x := by rfl) (hx : Loc X.env.scope x := by first | exact Or.inl rfl | exact Or.inr rfl)
    (hs : swapsWith e (some (.Name x pos')) pos.line X.env = pure false := by rfl) (hf : X.fn x = true ∨ X.env.scope.names.lookup x = some .local := by first | exact .inl rfl | exact .inr rfl | assumption) :
    DSz X K mg i a own own [.Assign [.Name x pos'] e pos] (tAsg te (gName j)) (gSet j f) :=
  ⟨pss_one (ps_set hN hi hx he.pe hs hf), fun O H0 ρ σ H D en z w => he.ok O H0 ρ σ H _ en z ((outW_out en w).mono (Same.refl H) fun d wd v H1 s1 r1 => wd _ H1 ((en.mono s1).setSh hi' r1))⟩
/-- x = e, then the rest -/
theorem dsz_setC (j : Nat) {x : Str} {pos' : Pos} {st : List Stmt} {u : TS} {g : Gx} (hj : j ≠ i := by decide) (hi' : j ∉ own := by decide) (hN : X.N.Nodup) (he : DEz X K mg i a own e te f) (hr : DSz X K mg i a own own' st u g) (hi : X.N[j]? = some x := by rfl) (hx : Loc X.env.scope x := by first | exact Or.inl rfl | exact Or.inr rfl)
    (hs : swapsWith e (some (.Name x pos')) pos.line X.env = pure false := by rfl) (hf : X.fn x = true ∨ X.env.scope.names.lookup x = some .local := by first | exact .inl rfl | exact .inr rfl | assumption) :
    DSz X K mg i a own own' (.Assign [.Name x pos'] e pos :: st) (tSeq (tAsg te (gName j)) u) (gSeq (gSet j f) g) :=
  ⟨pss_cons (ps_set hN hi hx he.pe hs hf) hr.ps, fun O H0 ρ σ H D en z w => by
    refine he.ok O H0 ρ σ H _ en z ?_
    unfold gSeq gSet at w
    cases q : f ρ with
    | exc c => rw [q] at w; obtain ⟨_, _, y⟩ := w; exact (y H en.base).elim
    | bad => rw [q] at w; exact w
    | ok d =>
      rw [q] at w
      intro v H1 s1 r1
      exact hr.ok O H0 _ _ H1 D ((en.mono s1).setSh hi' r1) (by rw [List.getElem?_set_ne hj]; exact z) w⟩
/-- if t: .. (the suite's branch ends it), then the rest -/
theorem dsz_ifC {st st' : List Stmt} {u u' : TS} {g g' : Gx} (hc : DEz X K mg i a own c tc fc) (ht : PT X c (tTest tc)) (ha : DSz X K mg i a own own st u g) (hr : DSz X K mg i a own own' st' u' g')
    (hret : ∀ ρ ρ', g ρ ≠ .nx ρ') : DSz X K mg i a own own' (.If c st [] pos :: st') (tSeq (tIfS (tTest tc) u tNext) u') (gSeq (gIf (asB fc) g gSkip) g') :=
  ⟨pss_cons (ps_if ht ha.ps pss_nil) hr.ps, fun O H0 ρ σ H D en z w => by
    refine hc.ok O H0 ρ σ H _ en z ?_
    unfold gSeq gIf asB at w
    cases q : fc ρ with
    | exc c => rw [q] at w; obtain ⟨_, _, y⟩ := w; exact (y H en.base).elim
    | bad => rw [q] at w; exact w
    | ok d =>
      rw [q] at w
      intro v H1 s1 r1
      cases d <;> first | exact w.elim | skip
      rename_i k
      refine ⟨k, r1.bool_of, ?_⟩
      cases k with
      | true =>
        refine iteT (ha.ok O H0 ρ σ H1 _ (en.mono s1) z ?_)
        have w' : OutW K mg E0' O H0 own' D (match g ρ with | .nx ρ' => g' ρ' | o => o) := w
        cases qg : g ρ with
        | nx ρ' => exact (hret _ _ qg).elim
        | rt d => rw [qg] at w'; exact w'
        | exc c => rw [qg] at w'; exact w'
        | bad => rw [qg] at w'; exact w'
      | false => exact iteF (hr.ok O H0 ρ σ H1 D (en.mono s1) z w)⟩
theorem dsz_ifEq {st st' : List Stmt} {u u' : TS} {g g' : Gx} {k : Nat} {A0 : Around} (hr0 : Room k A0) (ha : DEz X K mg i a own e te f) (hb : DEz X K mg i a own b tb fb) (hs : DSz X K mg i a own own st u g) (hr : DSz X K mg i a own own' st' u' g')
    (hret : ∀ ρ ρ', g ρ ≠ .nx ρ') (hA : X.A.units = A0.units := by rfl) (hK : X.K = K := by rfl) : DSz X K mg i a own own' (.If (.Compare e [.Eq] [b] pos) st [] p :: st') (tSeq (tIfS (tTest (tOp (rEqD K) te tb)) u tNext) u') (gSeq (gIf (asB (bin f fb dEq)) g gSkip) g') :=
  have hu : X.A.units + 64 < cLine := by rw [hA]; exact hu64 hr0
  dsz_ifC (dez_eq hu ha hb hK) (by subst hK; exact pt_cmpR (op_eqD hu) ha.pe hb.pe (nomark _)) hs hr hret
end
/-! isinstance(e, T), isinstance(e, (T, ..)) -/
/-- isinstance(e, (c1, c2, ..)), e the exception that the suite holds -/
def rIsET (K : PySem.W.Frag) (D a : Addr) : List V → Hp → VK → Prop := fun xs H Q => ∃ (tp : Addr) (cs : List V) (us : List Value) (b : Bool), xs = [.ref a, .ref tp] ∧ H tp = some (.tup cs) ∧ Paired ClsV cs us ∧ PySem.W.kitAny K (.ref D) us = some b ∧ Q (.bl b) H
theorem call_isET {X : Cx} {a D : Addr} {oe : Obj} {pn : List (Addr × Obj)} (C : ExcC X.K D) (hz : Zc (.ref D) none oe) (hf : ∃ vs, oe.data = .fields vs) : CallR (X.suite a ((a, oe) :: pn)) (.builtin "isinstance") (rIsET X.K D a) := by
  intro pins s σ H xs us Q I r h
  obtain ⟨tp, cs, ws, b, rfl, hT, k, e, q⟩ := h
  cases r with
  | cons rx rr =>
    cases rr with
    | cons rt rr =>
      cases rr
      cases rx
      cases rt
      obtain ⟨hget, _⟩ := I.pin (a, oe) (List.mem_append.mpr (.inl List.mem_cons_self))
      obtain ⟨vs, hv⟩ := hf
      have J : PySem.W.InstAt s.heap a oe D none := by
        obtain ⟨oc, od, oda, osl⟩ := oe
        obtain ⟨h1, h2⟩ := hz
        dsimp only at h1 h2 hv
        subst h1 h2 hv
        exact ⟨hget, rfl, rfl, trivial⟩
      obtain ⟨_, its, rv, o, h1, h2, n, h3⟩ := (show ObjOk X.prog X.w H s.heap tp (.tup cs) from I.hok tp _ hT)
      have e3 := ClsV.all k rv
      subst e3
      obtain ⟨oc, od, dt, sl⟩ := o
      simp only at h2 h3
      subst h2 h3
      exact PySem.W.kia_tup (PySem.W.handS_kitx_exc C.hg C.hk C.hs C.hd C.ha C.hn C.ht C.hm) I.kIn J h1 e (fun z => nomatch z) fun tk => ⟨.bl b, H, I.kept (t' := tk) fun _ _ z => z, rfl, q⟩
section
variable {X : Cx} {K : PySem.W.Frag} {mg : Str → Option Value} {i : Nat} {a : Addr} {own own' : List Nat} {oe : Obj} {pn : List (Addr × Obj)} {c : Str} {cs : List Str} {e y : Str} {p p1 p2 pos : Pos}
/-- isinstance(e, ValueError) -/
theorem dez_isV (A : ExcAll K mg cs) (hc : c ∈ cs) (hz : Zc (.ref (He.ga K c)) none oe) (hf : ∃ vs, oe.data = .fields vs) (hm : X.mg "isinstance" = none) (hmy : X.mg "ValueError" = none) (hN : X.N[i]? = some e := by rfl) (hv : Vis X.env.scope e := by first | exact Or.inl rfl | exact Or.inr (Or.inl rfl) | exact Or.inr (Or.inr rfl)) (hd : (e == ("__debug__" : Str)) = false := by decide)
    (hcd : (e == ("__classdict__" : Str)) = false := by decide) (hg : Gl X "isinstance" := by rfl) (hgy : Gl X "ValueError" := by rfl)
    (he : starEach ((.Name e p1) :: [.Name "ValueError" p2]) X.env = (false, eval (.Name e p1) X.env) :: starEach [.Name "ValueError" p2] X.env := by rfl) (he2 : starEach [.Name "ValueError" p2] X.env = (false, eval (.Name "ValueError" p2) X.env) :: starEach [] X.env := by rfl)
    (hpl : (backTo pos (starEach [.Name "ValueError" p2] X.env)).any (·.1) = false := by rfl) (hK : X.K = K := by rfl) (hmg : X.mg = mg := by rfl) :
    DEz (X.suite a ((a, oe) :: pn)) K mg i a own (.Call (.Name "isinstance" p) [.Name e p1, .Name "ValueError" p2] [] pos) (tCB (rIsE K (He.ga K c) a) (tCons (tVar i) (tCons (tC (.ty "ValueError")) tNil))) (kc (.bool true)) := by
  subst hK hmg
  exact ⟨pe_callB (X := X.suite a ((a, oe) :: pn)) (call_isE (A.one c hc).C hz hf) hg hm (by decide +kernel) (pa_cons (pe_var (X := X.suite a ((a, oe) :: pn)) hN hv hd hcd) (pa_cons (pe_bltn (X := X.suite a ((a, oe) :: pn)) hgy hmy (by decide +kernel) rfl) pa_nil he2) he) (by decide) (by decide) he hpl,
    fun O H0 ρ σ H Q en z w => ⟨_, z, .ty "ValueError", .type "ValueError", true, rfl, fun u r => r, (A.one c hc).v, w _ H (Same.refl H) (.bl true)⟩⟩
/-- isinstance(e, X), X an own class -/
theorem dez_isO (A : ExcAll K mg cs) (hc : c ∈ cs) (hz : Zc (.ref (He.ga K c)) none oe) (hf : ∃ vs, oe.data = .fields vs) (hm : X.mg "isinstance" = none) (hy : y ∈ cs := by decide) (hN : X.N[i]? = some e := by rfl) (hv : Vis X.env.scope e := by first | exact Or.inl rfl | exact Or.inr (Or.inl rfl) | exact Or.inr (Or.inr rfl)) (hd : (e == ("__debug__" : Str)) = false := by decide)
    (hcd : (e == ("__classdict__" : Str)) = false := by decide) (hg : Gl X "isinstance" := by rfl) (hgy : Gl X y := by rfl) (hdy : (y == ("__debug__" : Str)) = false := by decide)
    (he : starEach ((.Name e p1) :: [.Name y p2]) X.env = (false, eval (.Name e p1) X.env) :: starEach [.Name y p2] X.env := by rfl) (he2 : starEach [.Name y p2] X.env = (false, eval (.Name y p2) X.env) :: starEach [] X.env := by rfl)
    (hpl : (backTo pos (starEach [.Name y p2] X.env)).any (·.1) = false := by rfl) (hK : X.K = K := by rfl) (hmg : X.mg = mg := by rfl) :
    DEz (X.suite a ((a, oe) :: pn)) K mg i a own (.Call (.Name "isinstance" p) [.Name e p1, .Name y p2] [] pos) (tCB (rIsE K (He.ga K c) a) (tCons (tVar i) (tCons (tC (.ref (He.ga K y))) tNil))) (kc (.bool (upB c y))) := by
  subst hK hmg
  exact ⟨pe_callB (X := X.suite a ((a, oe) :: pn)) (call_isE (A.one c hc).C hz hf) hg hm (by decide +kernel) (pa_cons (pe_var (X := X.suite a ((a, oe) :: pn)) hN hv hd hcd) (pa_cons (pe_glob (X := X.suite a ((a, oe) :: pn)) hgy (A.one y hy).g rfl hdy) pa_nil he2) he) (by decide) (by decide) he hpl,
    fun O H0 ρ σ H Q en z w => ⟨_, z, .ref (He.ga X.K y), .ref (He.ga X.K y), upB c y, rfl, fun u r => r, A.kit c y hc hy, w _ H (Same.refl H) (.bl _)⟩⟩
end
/-- the classes of a tuple, by their names -/
def tNames (K : PySem.W.Frag) : List Str → TA
  | [] => tNil
  | y :: r => tCons (tC (.ref (He.ga K y))) (tNames K r)
theorem tNames_ok {K : PySem.W.Frag} {σ : L2.St} {H : Hp} {Q : List V → Hp → Prop} : ∀ {ys : List Str}, Q (ys.map fun y => .ref (He.ga K y)) H → tNames K ys σ H Q
  | [], h => h
  | y :: r, h => tNames_ok (ys := r) (Q := fun vs H' => Q (.ref (He.ga K y) :: vs) H') h
structure PNm (X : Cx) (es : List Expr) (ys : List Str) : Prop where
  pa : PA X es (tNames X.K ys)
theorem pnm_nil {X : Cx} : PNm X [] [] := ⟨pa_nil⟩
theorem pnm_cons {X : Cx} {cs : List Str} {y : Str} {ys : List Str} {q : Pos} {es : List Expr} (A : ExcAll X.K X.mg cs) (r : PNm X es ys) (hy : y ∈ cs := by decide) (hgy : Gl X y := by rfl) (hdy : (y == ("__debug__" : Str)) = false := by decide) (he : starEach (.Name y q :: es) X.env = (false, eval (.Name y q) X.env) :: starEach es X.env := by rfl) : PNm X (.Name y q :: es) (y :: ys) :=
  ⟨pa_cons (pe_glob hgy (A.one y hy).g rfl hdy) r.pa he⟩
theorem paired_names {K : PySem.W.Frag} : ∀ ys : List Str, Paired ClsV (ys.map fun y => V.ref (He.ga K y)) (ys.map fun y => Value.ref (He.ga K y))
  | [] => .nil
  | y :: r => .cons (.own _) (paired_names r)
theorem kitAny_names {K : PySem.W.Frag} {mg : Str → Option Value} {cs : List Str} {c : Str} (A : ExcAll K mg cs) (hc : c ∈ cs) : ∀ ys : List Str, (∀ y, y ∈ ys → y ∈ cs) → PySem.W.kitAny K (.ref (He.ga K c)) (ys.map fun y => Value.ref (He.ga K y)) = some (ys.any fun y => upB c y)
  | [], _ => rfl
  | y :: r, h => by
    have e := A.kit c y hc (h y List.mem_cons_self)
    have ih := kitAny_names A hc r fun z hz => h z (List.mem_cons_of_mem _ hz)
    rw [List.map_cons]
    unfold PySem.W.kitAny
    rw [e, List.any_cons]
    cases upB c y with
    | true => rfl
    | false => exact ih
section
variable {X : Cx} {K : PySem.W.Frag} {mg : Str → Option Value} {i : Nat} {a : Addr} {own own' : List Nat} {oe : Obj} {pn : List (Addr × Obj)} {c : Str} {cs : List Str} {e : Str} {ys : List Str} {es : List Expr} {kk : Nat} {p p1 p2 pos : Pos}
theorem dez_isT (A : ExcAll K mg cs) (hc : c ∈ cs) (hz : Zc (.ref (He.ga K c)) none oe) (hf : ∃ vs, oe.data = .fields vs) (hm : X.mg "isinstance" = none) (hes : PNm (X.suite a ((a, oe) :: pn)) es ys) (hy : ∀ y, y ∈ ys → y ∈ cs := by decide) (hl : ys.length ≤ 100 := by decide) (hN : X.N[i]? = some e := by rfl) (hv : Vis X.env.scope e := by first | exact Or.inl rfl | exact Or.inr (Or.inl rfl) | exact Or.inr (Or.inr rfl)) (hd : (e == ("__debug__" : Str)) = false := by decide)
    (hcd : (e == ("__classdict__" : Str)) = false := by decide) (hg : Gl X "isinstance" := by rfl)
    (he : starEach ((.Name e p1) :: [.Tuple es kk p2]) X.env = (false, eval (.Name e p1) X.env) :: starEach [.Tuple es kk p2] X.env := by rfl) (he2 : starEach [.Tuple es kk p2] X.env = (false, eval (.Tuple es kk p2) X.env) :: starEach [] X.env := by rfl)
    (hpl : (backTo pos (starEach [.Tuple es kk p2] X.env)).any (·.1) = false := by rfl) (hK : X.K = K := by rfl) (hmg : X.mg = mg := by rfl) :
    DEz (X.suite a ((a, oe) :: pn)) K mg i a own (.Call (.Name "isinstance" p) [.Name e p1, .Tuple es kk p2] [] pos) (tCB (rIsET K (He.ga K c) a) (tCons (tVar i) (tCons (tTup (tNames K ys)) tNil))) (kc (.bool (ys.any fun y => upB c y))) := by
  subst hK hmg
  exact ⟨pe_callB (X := X.suite a ((a, oe) :: pn)) (call_isET (A.one c hc).C hz hf) hg hm (by decide +kernel) (pa_cons (pe_var (X := X.suite a ((a, oe) :: pn)) hN hv hd hcd) (pa_cons (pe_tup hes.pa) pa_nil he2) he) (by decide) (by decide) he hpl,
    fun O H0 ρ σ H Q en z w => ⟨_, z, tNames_ok ⟨by rw [List.length_map]; exact line_le (by omega), fun q nq => ⟨q, _, _, _, rfl, upd_same, paired_names ys, kitAny_names A hc ys hy, w _ _ (same_new nq) (.bl _)⟩⟩⟩⟩
end
/-! the clause -/
theorem set_len {σ : L2.St} {i : Nat} {o : Option V} (h : i < σ.length) : (σ.set i o)[i]? = some o := List.getElem?_set_self h
theorem EnvOk.unset {K : PySem.W.Frag} {O : Addr → Prop} {H0 H : Hp} {own : List Nat} {ρ : Rho} {σ : L2.St} (e : EnvOk K O H0 own ρ σ H) {i : Nat} (h : i ∉ own) (o : Option V) : EnvOk K O H0 own (ρ.set i none) (σ.set i o) H := by
  have own_eq : ∀ a, OwnA own (σ.set i o) a ↔ OwnA own σ a := fun a => by
    constructor
    · rintro ⟨j, m, q⟩
      have ne : i ≠ j := fun z => h (z ▸ m)
      rw [List.getElem?_set_ne ne] at q
      exact ⟨j, m, q⟩
    · rintro ⟨j, m, q⟩
      have ne : i ≠ j := fun z => h (z ▸ m)
      exact ⟨j, m, by rw [List.getElem?_set_ne ne]; exact q⟩
  have all_eq : AllA O own (σ.set i o) = AllA O own σ := by
    funext a
    exact propext (or_congr Iff.rfl (own_eq a))
  refine ⟨by rw [List.length_set, List.length_set]; exact e.len, e.base, e.dom, fun a z => e.new a ((own_eq a).mp z), fun a z => e.live a ((own_eq a).mp z), fun j k a m m' q q' => ?_, fun j d m q => ?_, fun j d m q => ?_⟩
  · have ne : i ≠ j := fun z => h (z ▸ m)
    have ne' : i ≠ k := fun z => h (z ▸ m')
    rw [List.getElem?_set_ne ne] at q
    rw [List.getElem?_set_ne ne'] at q'
    exact e.inj j k a m m' q q'
  · rw [all_eq]
    by_cases c : i = j
    · subst c
      by_cases l : i < ρ.length
      · rw [List.getElem?_set_self l] at q; cases q
      · rw [List.getElem?_eq_none (by rw [List.length_set]; omega)] at q; cases q
    · rw [List.getElem?_set_ne c] at q ⊢
      exact e.sh j d m q
  · rw [all_eq]
    have ne : i ≠ j := fun z => h (z ▸ m)
    rw [List.getElem?_set_ne ne] at q ⊢
    exact e.ow j d m q
def gTryE (cs : List Str) (gB : Rho → Res Unit) (x : Str) (i : Nat) (gS : Str → Gx) : Gx := fun ρ => match gB ρ with
  | .ok _ => .nx ρ
  | .exc c => if c ∈ cs ∧ upB c x = true ∧ i < ρ.length then (match gS c (ρ.set i none) with
    | .nx ρ' => .nx (ρ'.set i none)
    | o => o) else .bad
  | .bad => .bad
/-- the suite's reading for an exception of an own class -/
def tsE (K : PySem.W.Frag) (cs : List Str) (ts : Str → Addr → TS) : Addr → Value → Option Addr → TS := fun a cls d D σ H => ∃ c, c ∈ cs ∧ cls = .ref (He.ga K c) ∧ d = none ∧ ts c a D σ H
theorem ds_tryE {X : Cx} {K : PySem.W.Frag} {mg : Str → Option Value} {own : List Nat} {cs : List Str} (A : ExcAll K mg cs) (i : Nat) {x n : Str} {body suite : List Stmt} {b₀ : Stmt} {np pos pos' : Pos} {tb : WX → TS} {ts : Str → Addr → TS} {gB : Rho → Res Unit} {gS : Str → Gx}
    (hN : X.N.Nodup) (hb : DB X K mg own body tb gB) (hsu : ∀ (c : Str), c ∈ cs → ∀ (a : Addr) (oe : Obj) (pn : List (Addr × Obj)), Zc (.ref (He.ga K c)) none oe → (∃ vs, oe.data = .fields vs) → DSz (X.suite a ((a, oe) :: pn)) K mg i a own own (b₀ :: suite) (ts c a) (gS c))
    (hio : i ∉ own := by decide) (hxc : x ∈ cs := by decide) (hi : X.N[i]? = some n := by rfl) (hln : X.env.kindOf n = some .local := by rfl) (hg : Gl X x := by rfl) (hdb : (x == ("__debug__" : Str)) = false := by decide) (hs : X.stack = X.env :: X.outer := by rfl) (hf : X.env.frame = some X.env.locals := by rfl) (hK : X.K = K := by rfl) (hmg : X.mg = mg := by rfl) :
    DS X K mg E0' own own (.Try body [.ExceptHandler (some (.Name x np)) (some n) (b₀ :: suite) pos'] [] [] pos) (fun D σ H => tb (wAs K (.ref (He.ga K x)) i (tsE K cs ts) (fun _ _ _ _ => False) D) D σ H) (gTryE cs gB x i gS) := by
  subst hK hmg
  refine ⟨ps_try_as (ts := tsE X.K cs ts) hs hf hN hi hln ⟨hg, hdb, .inl (A.one x hxc).g⟩ takes0 (fun W pn xe tk _ => hb.ps W pn xe tk) (fun a oe cls d pn hz hv => ⟨fun pins s σ H D I h => ?_⟩), fun O H0 ρ σ H D en w => ?_⟩
  · obtain ⟨c, hc, rfl, rfl, h⟩ := h
    exact (hsu c hc a oe pn hz hv).ps.run pins s σ H D I h
  · refine hb.ok O H0 ρ σ H D _ en ?_
    unfold gTryE at w
    cases q : gB ρ with
    | ok _ => rw [q] at w; exact fun H' e' => w σ H' e'
    | bad => rw [q] at w; exact w
    | exc c =>
      rw [q] at w
      have w' : OutW X.K X.mg E0' O H0 own D (if c ∈ cs ∧ upB c x = true ∧ i < ρ.length then (match gS c (ρ.set i none) with
        | .nx ρ' => .nx (ρ'.set i none)
        | o => o) else .bad) := w
      by_cases hc : c ∈ cs ∧ upB c x = true ∧ i < ρ.length
      · rw [if_pos hc] at w'
        obtain ⟨h1, h2, h3⟩ := hc
        refine ⟨_, (A.one c h1).g, fun H' e' => ⟨true, by rw [← h2]; exact A.exm c x h1 hxc, fun _ a ha => ⟨c, h1, rfl, rfl, ?_⟩, fun z => by cases z⟩⟩
        have un := e'.unset hio (some (.ref a))
        have hex : ∃ oe : Obj, Zc (.ref (He.ga X.K c)) none oe ∧ ∃ vs, oe.data = .fields vs := ⟨⟨.ref (He.ga X.K c), none, .fields #[], #[]⟩, ⟨rfl, rfl⟩, #[], rfl⟩
        obtain ⟨oe, z1, z2⟩ := hex
        refine (hsu c h1 a oe [] z1 z2).ok O H0 _ _ H' _ un (set_len (by rw [e'.len]; exact h3)) ?_
        cases qg : gS c (ρ.set i none) with
        | nx ρ' => rw [qg] at w'; exact fun σ2 H2 e2 => w' _ H2 (e2.unset hio none)
        | rt d => rw [qg] at w'; exact w'
        | exc c => rw [qg] at w'; exact w'
        | bad => rw [qg] at w'; exact w'
      · rw [if_neg hc] at w'
        exact w'.elim
end DL
end

section
set_option Elab.async false
set_option linter.all false
set_option maxRecDepth 100000
set_option maxHeartbeats 2000000
set_option autoImplicit false
/-! DL11: t[::-1]. -/
namespace DL
open PySem PySem.Spec PyProof.Rows L2
section
open HT
variable {prog : Program} {w : World} {A : Around} {E : Value → Shared → Prop} {s : Shared}
theorem adjust_rev (n : Nat) : Builtin.Slice.sliceAdjust none none (-1) (n : Int) = ((n : Int) - 1, -1) := rfl
theorem places_rev (n : Nat) : Builtin.Slice.slicePlaces ((n : Int) - 1) (-1) (-1) = n := by
  unfold Builtin.Slice.slicePlaces
  have h1 : ¬ (-1 : Int) > 0 := by omega
  rw [if_neg h1]
  have h2 : (-(-1) : Int) = 1 := by omega
  rw [h2, Int.ediv_one]
  by_cases h : (n : Int) - 1 > -1
  · rw [if_pos h]; omega
  · rw [if_neg h]; omega
theorem sliceApplied_rev {sl : Addr} {vl vu vs : Value} {n : Nat} {Q : Int × Int × Nat → Shared → Prop} (hs : s.heap.IsSliceOf sl vl vu vs) (pl : IsPart vl none) (pu : IsPart vu none) (ps : IsPart vs (some (-1)))
    (h : Q ((n : Int) - 1, -1, n) s) : wpAny (model prog w) A (Builtin.Slice.sliceApplied (.ref sl) (pure (n : Int))) Q E s := by
  obtain ⟨os, hos, hcs, hds⟩ := id hs
  unfold Builtin.Slice.sliceApplied Builtin.Slice.sliceFields
  refine wpAny_bind (wpAny_bind (wpAny_field hos hds (x := vl) rfl (wpAny_bind (wpAny_field hos hds (x := vu) rfl (wpAny_bind (wpAny_field hos hds (x := vs) rfl (wpAny_pure ?_)))))))
  refine wpAny_bind (slicePart_ ps ?_)
  show wpAny _ _ (if ((-1 : Int) == 0) = true then _ else _) _ _ s
  rw [if_neg (by decide)]
  refine wpAny_bind (slicePart_ pl (wpAny_bind (slicePart_ pu (wpAny_bind (wpAny_pure ?_)))))
  show wpAny _ _ (match Builtin.Slice.sliceAdjust none none (-1) (n : Int) with | (lo, hi) => pure (lo, (-1 : Int), Builtin.Slice.slicePlaces lo hi (-1))) _ _ s
  rw [adjust_rev]
  show wpAny _ _ (pure ((n : Int) - 1, (-1 : Int), Builtin.Slice.slicePlaces ((n : Int) - 1) (-1) (-1))) _ _ s
  rw [places_rev]
  exact wpAny_pure h
theorem filterMap_is {α β : Type} {f : α → Option β} {g : α → β} : ∀ {l : List α}, (∀ m, m ∈ l → f m = some (g m)) → l.filterMap f = l.map g
  | [], _ => rfl
  | x :: r, h => by
    rw [List.filterMap_cons, h x List.mem_cons_self, List.map_cons]
    exact congrArg _ (filterMap_is fun m hm => h m (List.mem_cons_of_mem _ hm))
theorem pick_rev (xs : Array Value) : ((List.range xs.size).filterMap fun (m : Nat) => xs[(((xs.size : Nat) : Int) - 1 + (m : Int) * (-1)).toNat]?).toArray = xs.toList.reverse.toArray := by
  congr 1
  rw [filterMap_is (g := fun m => xs.getD (xs.size - 1 - m) .none)]
  · apply List.ext_getElem?
    intro i
    rw [List.getElem?_map]
    by_cases h : i < xs.size
    · rw [List.getElem?_range h, List.getElem?_reverse (by rw [Array.length_toList]; exact h), Array.length_toList]
      rw [Array.getElem?_toList, Array.getElem?_eq_getElem (by omega)]
      show some (xs.getD (xs.size - 1 - i) .none) = _
      rw [Array.getD_eq_getD_getElem?, Array.getElem?_eq_getElem (by omega)]
      rfl
    · rw [List.getElem?_eq_none (by rw [List.length_range]; omega), List.getElem?_eq_none (by rw [List.length_reverse, Array.length_toList]; omega)]
      rfl
  · intro m hm
    have hm := List.mem_range.mp hm
    have : (((xs.size : Nat) : Int) - 1 + (m : Int) * (-1)).toNat = xs.size - 1 - m := by omega
    rw [this, Array.getElem?_eq_getElem (by omega), Array.getD_eq_getD_getElem?, Array.getElem?_eq_getElem (by omega)]
    rfl
theorem getItem_tuple_rev {t sl : Addr} {items : Array Value} {vl vu vs : Value} {Q : Value → Shared → Prop} (ht : IsTup s.heap t items) (hs : s.heap.IsSliceOf sl vl vu vs) (pl : IsPart vl none) (pu : IsPart vu none) (ps : IsPart vs (some (-1)))
    (h : Q (.ref s.heap.objs.size) { s with heap := s.heap.push { cls := .type "tuple", data := .seq items.toList.reverse.toArray } })
    (hsz : items.size ≤ sizeLine) : wpAny (model prog w) A (getItem (.ref t) (.ref sl)) Q E s := by
  have htake : sizeOk (.seq items.toList.reverse.toArray) := by
    show items.toList.reverse.toArray.size ≤ sizeLine
    rw [List.size_toArray, List.length_reverse, Array.length_toList]
    exact hsz
  obtain ⟨os, hos, hcs, hds⟩ := id hs
  have hTs : s.TypeIs (.ref sl) "slice" := ⟨os, hos, hcs⟩
  unfold getItem
  try with_reducible refine wpAny_holding ?_
  first | refine wpAny_bind (wpAny_pure ?_) | skip
  refine wpAny_bind (wpAny_sequenceKey ht.typeIs (by decide) ?_)
  refine wpAny_bind (wpAny_callSpecial?_slot (name := Str.ofString "__getitem__") ht.typeIs PyProof.Rows.slot_tuple_getitem
    (wpAny_call_entry PyProof.Rows.slot_tuple_getitem ht.typeIs entry_tuple_getitem ?_ (args_tuple_getitem _ _)))
  show wpAny _ _ (Builtin.Tuple.tupleItemsOf (.ref t) >>= _) _ _ s
  refine wpAny_bind (tupleItemsOf_ ht ?_)
  refine wpAny_bind (wpAny_typeOf hTs ?_)
  rw [if_pos (by decide)]
  refine wpAny_bind (sliceApplied_rev hs pl pu ps ?_)
  have hno : ¬ ((((items.size : Nat) : Int) - 1 == 0 && (-1 : Int) == 1 && items.size == items.size) = true) := by
    intro q
    rw [Bool.and_eq_true, Bool.and_eq_true] at q
    have q1 : (-1 : Int) = 1 := eq_of_beq q.1.2
    omega
  show wpAny _ _ (if (((items.size : Nat) : Int) - 1 == 0 && (-1 : Int) == 1 && items.size == items.size) = true then _ else _) _ _ s
  rw [if_neg hno, pick_rev]
  first
    | exact wpAny_bind (m := Builtin.Tuple.tupleExact _) (wpAny_newObj_type (wpAny_pure ⟨_, rfl, wpAny_pure h⟩) htake)
    | exact wpAny_bind (m := Builtin.Tuple.tupleExact _) (wpAny_newObj_type (wpAny_bind (wpAny_pure (wpAny_pure ⟨_, rfl, wpAny_pure h⟩))) htake)
    | exact wpAny_bind (wpAny_bind (m := Builtin.Tuple.tupleExact _) (wpAny_newObj_type (wpAny_pure (wpAny_pure ⟨_, rfl, wpAny_pure h⟩)) htake))
    | exact wpAny_bind (wpAny_bind (m := Builtin.Tuple.tupleExact _) (wpAny_newObj_type (wpAny_pure ⟨_, rfl, wpAny_pure h⟩) htake))
end
section
variable {X : Cx}
def tRevT (K : PySem.W.Frag) (te : TE) : TE := fun σ H Q => te σ H fun x H1 => ∃ a xs, x = .ref a ∧ SqT K H1 a xs ∧ ∀ p, H1 p = none → Q (.ref p) (upd H1 p (.tup xs.reverse))
theorem pe_revT {e : Expr} {te : TE} {k : Nat} {p1 p2 p3 pos : Pos} (he : PE X e te) : PE X (.Subscript e (.Slice none none (some (.UnaryOp .USub (.Constant (.int 1) k p1) p2)) p3) pos) (tRevT X.K te) := by
  refine ⟨fun pins s σ H Q I h => ?_⟩
  refine Subscript_ (thn (he.run pins s σ H _ I h) fun v s1 ⟨x, H1, I1, r1, q1⟩ => ?_)
  obtain ⟨a, xs, ex, hx, q⟩ := q1
  subst ex
  cases r1
  have hst : PO X (some (.UnaryOp .USub (.Constant (.int 1) k p1) p2)) (tPart (tUn (rU fun i => .int (-i)) (tC (.int 1)))) := po_some (pe_un un_neg pe_int)
  refine wpAny_Slice (thn (po_none.run pins s1 σ H1 (fun o H2 => o = none ∧ H2 = H1) I1 ⟨rfl, rfl⟩) fun vl s2 ⟨l, H2, I2, pl, el, e2⟩ => ?_)
  subst el e2
  refine thn (po_none.run pins s2 σ H2 (fun o H3 => o = none ∧ H3 = H2) I2 ⟨rfl, rfl⟩) fun vu s3 ⟨u, H3, I3, pu, eu, e3⟩ => ?_
  subst eu e3
  refine thn (hst.run pins s3 σ H3 (fun o H4 => o = some (-1) ∧ H4 = H3) I3 ⟨1, rfl, -1, rfl, rfl, rfl⟩) fun vs s4 ⟨o, H4, I4, ps, eo, e4⟩ => ?_
  subst eo e4
  have I5 : Inv X pins σ H4 { s4 with heap := s4.heap.push { cls := .type "slice", data := .fields #[vl, vu, vs] } } := I4.kept (t' := s4.toks) fun b ob q => Heap.get?_push_of_some _ q
  obtain ⟨its, r, ht, hz⟩ := I5.tuple hx
  have hlen := r.length
  show wpAny (model X.prog X.w) X.A (subscriptTail e (.Slice none none (some (.UnaryOp .USub (.Constant (.int 1) k p1) p2)) p3) (.ref a) (.ref s4.heap.objs.size)) (EP X pins σ Q) X.xe { s4 with heap := s4.heap.push { cls := .type "slice", data := .fields #[vl, vu, vs] } }
  refine tail_any (ops := [.ref a, .ref s4.heap.objs.size]) ht.typeIs (PyProof.Rows.slot_tuple_getitem.lookup) ?_ (by with_unfolding_all rfl)
  refine getItem_tuple_rev ht (Heap.IsSliceOf.new _ vl vu vs) pl pu ps ?_ (by rw [List.size_toArray]; omega)
  refine ⟨.ref _, _, I5.laid (t' := s4.toks) (o := .tup xs.reverse) (fun b ob q => Heap.get?_push_of_some _ q) (Nat.le_refl _) ?_, rfl, q _ (I5.hok.fresh (Nat.le_refl _))⟩
  refine ⟨by rw [List.length_reverse]; exact hz, _, r.reverse, ?_⟩
  exact IsTup.new _ _
end
section
variable {X : Cx} {K : PySem.W.Frag} {mg : Str → Option Value} {E : XK} {own : List Nat}
def dRev : D → Option D
  | .tuple ds => some (.tuple ds.reverse)
  | _ => none
theorem de_rev {a : Expr} {ta : TE} {fa : Ex} {k : Nat} {p1 p2 p3 pos : Pos} (ha : DC X K mg E own a ta fa) (hK : X.K = K := by rfl) : DE X K mg E own (.Subscript a (.Slice none none (some (.UnaryOp .USub (.Constant (.int 1) k p1) p2)) p3) pos) (tRevT K ta) (un fa dRev) := by
  subst hK
  exact ⟨pe_revT ha.pe, fun O H0 ρ σ H Q e w => by
    unfold un at w
    rw [resW_bind] at w
    refine ha.ok O H0 ρ σ H _ e (w.mono (Same.refl H) fun d wd v1 H1 s1 r1 => ?_)
    replace wd := okW_of wd
    unfold dRev at wd
    split at wd
    · obtain ⟨l, xs, rfl, q, r⟩ := r1.tuple_of cut_sub
      exact ⟨l, xs, rfl, q, fun p np => wd _ _ (s1.trans (same_new np)) (.tup (.inl (.inl (cut_new ((e.domA.same s1).new np)))) (r.reverse.mono (cut_same (same_new np))))⟩
    · exact wd.elim⟩
end
end DL
end

section
set_option Elab.async false
set_option linter.all false
set_option maxRecDepth 100000
set_option maxHeartbeats 2000000
set_option autoImplicit false
/-! DL12: sorted of data that are alike; < of such. -/
namespace DL
open PySem PySem.Spec PyProof.Rows L2

/-! ### sorted -/
def sortKind (d : D) : Bool := match d with
  | .none => false
  | .tuple _ => false
  | _ => true
def tupKind (d : D) : Bool := match d with
  | .tuple (_ :: _) => true
  | _ => false
def sortOk (ds : List D) : Bool := (ds.all fun d => ds.all fun d' => PySem.W.alike d d') && ((ds.all tupKind || ds.all sortKind) && SeqAt.shaped (.list ds))
def sortD (ds : List D) : List D := ds.mergeSort (PySem.W.dataLe false fun d => d)
def dSortedA : D → Option D
  | .list ds => if sortOk ds = true ∧ ds.length ≤ 1000000 then some (.list (sortD ds)) else none
  | _ => none
theorem sortOk_alike {ds : List D} (h : sortOk ds = true) : PySem.W.AllAlike ds := fun d hd d' hd' => by
  unfold sortOk at h
  rw [Bool.and_eq_true] at h
  exact List.all_eq_true.mp (List.all_eq_true.mp h.1 d hd) d' hd'
theorem sortOk_kind {ds : List D} (h : sortOk ds = true) : PySem.W.Sortable ds := by
  unfold sortOk at h
  rw [Bool.and_eq_true, Bool.and_eq_true, Bool.or_eq_true] at h
  rcases h.2.1 with h | h
  · refine .inl fun d hd => ?_
    have := List.all_eq_true.mp h d hd
    cases d <;> first | (cases this; done) | skip
    rename_i xs
    cases xs with
    | nil => cases this
    | cons x r => exact ⟨x, r, rfl⟩
  · refine .inr fun d hd => ?_
    have := List.all_eq_true.mp h d hd
    constructor
    · rintro rfl; cases this
    · rintro xs rfl; cases this
theorem sortOk_shaped {ds : List D} (h : sortOk ds = true) : SeqAt.shaped (.list ds) = true := by
  unfold sortOk at h
  rw [Bool.and_eq_true, Bool.and_eq_true] at h
  exact h.2.2
theorem depth_mem : ∀ {ds : List D} {d : D}, d ∈ ds → d.depth ≤ PyData.depthAll ds
  | x :: r, d, h => by
    simp only [PyData.depthAll]
    rcases List.mem_cons.mp h with rfl | h
    · omega
    · have := depth_mem h
      omega
theorem shaped_depth {d : D} (h : SeqAt.shaped d = true) : d.depth ≤ 64 := by
  have h : (d.canLay0 && decide (d.depth ≤ 64)) = true := h
  rw [Bool.and_eq_true] at h
  exact of_decide_eq_true h.2
theorem shaped_list_depth {ds : List D} (h : SeqAt.shaped (.list ds) = true) {d : D} (hd : d ∈ ds) : d.depth ≤ 64 := by
  have h1 := shaped_depth h
  simp only [PyData.depth] at h1
  have := depth_mem hd
  omega
/-- what stands for what, item by item, sorted by the data -/
def sortP (xs : List V) (ds : List D) : List (V × D) := (List.zip xs ds).mergeSort (PySem.W.dataLe false Prod.snd)
def rSortedA (K : PySem.W.Frag) : List V → Hp → VK → Prop := fun vs H Q => ∃ (a : Addr) (xs : List V) (ds : List D), vs = [V.ref a] ∧ SqL K H a xs ∧ DpAll K H xs ds ∧ sortOk ds = true ∧ ds.length ≤ 1000000 ∧
  ∀ p, H p = none → Q (.ref p) (upd H p (.lst ((sortP xs ds).map Prod.fst)))
theorem dpAll_len {K : PySem.W.Frag} {H : Hp} : ∀ {xs : List V} {ds : List D}, DpAll K H xs ds → xs.length = ds.length
  | _, _, .nil => rfl
  | _, _, .cons _ r => by rw [List.length_cons, List.length_cons, dpAll_len r]
theorem each_zip : ∀ {us : List Value} {xs : List V} {ds : List D}, Vals xs us → xs.length = ds.length → PySem.W.EachIs (fun (u : Value) (b : V × D) => RelV b.1 u) us (List.zip xs ds)
  | _, _, [], .nil, _ => .nil
  | _, _, d :: ds, .cons r t, h => by
    rw [List.zip_cons_cons]
    exact .cons r (each_zip t (by simpa using h))
theorem each_vals : ∀ {us : List Value} {bs : List (V × D)}, PySem.W.EachIs (fun (u : Value) (b : V × D) => RelV b.1 u) us bs → Vals (bs.map Prod.fst) us
  | _, _, .nil => .nil
  | _, _, .cons r t => .cons r (each_vals t)
theorem map_snd_zip' : ∀ {xs : List V} {ds : List D}, xs.length = ds.length → (List.zip xs ds).map Prod.snd = ds
  | [], [], _ => rfl
  | x :: xs, d :: ds, h => by
    rw [List.zip_cons_cons, List.map_cons, map_snd_zip' (by simpa using h)]
theorem cr_sortedA {X : Cx} (hu : X.A.units + 70 < cLine) : CallR X (.builtin "sorted") (rSortedA X.K) := by
  intro pins s σ H vs us Q I r h
  obtain ⟨a, xs, ds, rfl, hs, dp, ok, hL, q⟩ := h
  obtain ⟨its, rv, hl, hz⟩ := I.list hs
  rw [Vals.ref1 r]
  have hlen := dpAll_len dp
  have hm : (List.zip xs ds).map Prod.snd = ds := map_snd_zip' hlen
  have hzl : (List.zip xs ds).length = ds.length := by rw [List.length_zip, hlen]; omega
  obtain ⟨as, hr⟩ := Dp.readsAll I ds xs its dp rv
  have er : PySem.W.EachIs (fun v (b : V × D) => ∃ as, PySem.Reads s.heap v b.2 as) its (List.zip xs ds) := PySem.W.readsAll_each Prod.snd (by rw [hm]; exact hr)
  refine PySem.W.sorted_data (bs := List.zip xs ds) (enc := Prod.snd) (R := fun (u : Value) (b : V × D) => RelV b.1 u) hl.isList (each_zip rv hlen) er (by rw [hm]; exact sortOk_alike ok) (by rw [hm]; exact sortOk_kind ok) (by rw [hzl, sizeLine_eq]; omega) (fun b hb => ?_) fun out ho he => ?_
  · have hd : b.2 ∈ ds := by rw [← hm]; exact List.mem_map.mpr ⟨b, hb, rfl⟩
    have := shaped_list_depth (sortOk_shaped ok) hd
    omega
  · obtain ⟨ep, he'⟩ := PyProof.Rows.sortedAll_at s.heap its out.toArray
    have hl2 : ((sortP xs ds).map Prod.fst).length ≤ sizeLine := by
      unfold sortP
      rw [List.length_map, List.length_mergeSort, hzl, sizeLine_eq]
      omega
    exact ⟨.ref _, upd H (s.heap.objs.size + 1) (.lst ((sortP xs ds).map Prod.fst)), I.laid (t' := s.toks) (fun _ _ => PyProof.Rows.sortedAll_old) (Nat.le_succ _) ⟨hl2, out, ep, each_vals he, he'⟩, rfl, q _ (I.hok.fresh (Nat.le_succ _))⟩
theorem RAll.ofZip {K : PySem.W.Frag} {H : Hp} : ∀ {bs : List (V × D)}, (∀ b, b ∈ bs → R K H b.1 b.2) → RAll K H (bs.map Prod.fst) (bs.map Prod.snd)
  | [], _ => .nil
  | b :: bs, h => .cons (h b List.mem_cons_self) (RAll.ofZip fun x m => h x (List.mem_cons_of_mem _ m))
theorem RAll.zipMem {K : PySem.W.Frag} {H : Hp} : ∀ {xs : List V} {ds : List D}, RAll K H xs ds → ∀ b, b ∈ List.zip xs ds → R K H b.1 b.2
  | _, _, .nil, b, h => by cases h
  | _, _, .cons r t, b, h => by
    rw [List.zip_cons_cons] at h
    rcases List.mem_cons.mp h with rfl | h
    · exact r
    · exact RAll.zipMem t b h
theorem sortP_snd {xs : List V} {ds : List D} (h : xs.length = ds.length) : (sortP xs ds).map Prod.snd = sortD ds := by
  unfold sortP sortD
  rw [List.map_mergeSort (r := PySem.W.dataLe false Prod.snd) (s := PySem.W.dataLe false fun d => d) (f := Prod.snd) (fun a _ b _ => rfl), map_snd_zip' h]
theorem RAll.sortP {K : PySem.W.Frag} {H : Hp} {xs : List V} {ds : List D} (r : RAll K H xs ds) : RAll K H ((DL.sortP xs ds).map Prod.fst) (sortD ds) := by
  rw [← sortP_snd r.length]
  exact RAll.ofZip fun b hb => r.zipMem b ((List.mergeSort_perm _ _).mem_iff.mp hb)
theorem cc_sortedA {K : PySem.W.Frag} : CallC K (rSortedA K) dSortedA := by
  intro A H x a Q dom ra w
  unfold dSortedA at w
  split at w
  · obtain ⟨⟨c1, c2⟩, w⟩ := okW_if w
    obtain ⟨l, xs, rfl, q, r⟩ := ra.list_of cut_sub
    rename_i ds _
    have hc : PyData.canLayAll0 ds = true := by
      have := SeqAt.canLay_of_shaped (sortOk_shaped c1)
      simpa [PyData.canLay0] using this
    refine ⟨l, xs, _, rfl, .of q, (r.mono cut_sub).dp hc, c1, c2, fun p np => ?_⟩
    exact w _ _ (same_new np) (.lst (cut_new (dom.new np)) (r.sortP.mono (cut_same (same_new np))))
  · exact w.elim
section
variable {X : Cx} {K : PySem.W.Frag} {mg : Str → Option Value} {E : XK} {own : List Nat} {a b : Expr} {ta tb : TE} {fa fb : Ex} {p pos : Pos}
theorem hu70 {A : Around} {k : Nat} (hr : Room k A) : A.units + 70 < cLine := by have := hr.un; omega
theorem de_sortedA {k : Nat} (hr : Room k X.A) (hm : X.mg "sorted" = none) (ha : DC X K mg E own a ta fa) (hg : Gl X "sorted" := by rfl) (he : starEach (a :: []) X.env = (false, eval a X.env) :: starEach [] X.env := by rfl) (hpl : (backTo pos (starEach [] X.env)).any (·.1) = false := by rfl) (hK : X.K = K := by rfl) :
    DE X K mg E own (.Call (.Name "sorted" p) [a] [] pos) (tCB (rSortedA K) (tCons ta tNil)) (un fa dSortedA) := by
  subst hK
  exact de_callB1 (cr_sortedA (hu70 hr)) cc_sortedA hg hm bt_sorted ha (by decide) (by decide) he hpl

/-! ### < of data that are alike -/
def dLtA : D → D → Option D
  | .int i, .int j => some (.bool (decide (i < j)))
  | .list xs, .list ys => if PySem.W.alike (.list xs) (.list ys) = true ∧ SeqAt.shaped (.list xs) = true ∧ SeqAt.shaped (.list ys) = true then some (.bool (PySem.W.dataLt (.list xs) (.list ys))) else none
  | _, _ => none
def rLtA (K : PySem.W.Frag) : R2 := fun x y H Q => (rI0 fun i j => V.bl (decide (i < j))) x y H Q ∨ ∃ da db, Dp K H x da ∧ Dp K H y db ∧ PySem.W.alike da db = true ∧ da ≠ .none ∧ SeqAt.shaped da = true ∧ Q (.bl (PySem.W.dataLt da db)) H
theorem op_ltA (hu : X.A.units + 70 < cLine) : OpR X (compareOp .Lt) (rLtA X.K) := op_lt.or (by
  intro pins s σ H x y v u Q I rx ry h
  obtain ⟨da, db, ha, hb, al, nn, sh, q⟩ := h
  obtain ⟨as, r1⟩ := Dp.reads I da x v ha rx
  obtain ⟨bs, r2⟩ := Dp.reads I db y u hb ry
  exact PySem.W.rcLt_alike da db X.A s v u as bs r1 r2 al nn (by have := shaped_depth sh; omega) X.prog X.w _ _ ⟨.bl _, H, I, rfl, q⟩)
theorem od_ltA : OpD K (rLtA K) dLtA := by
  intro A H x y a b Q dom ra rb w
  unfold dLtA at w
  split at w
  · rw [ra.int_of, rb.int_of]
    exact .inl ⟨_, _, rfl, rfl, w _ H (Same.refl H) (.bl _)⟩
  · obtain ⟨⟨c1, c2, c3⟩, w⟩ := okW_if w
    exact .inr ⟨_, _, Dp_mono cut_sub ra c2, Dp_mono cut_sub rb c3, c1, (fun z => by cases z), c2, w _ H (Same.refl H) (.bl _)⟩
  · exact w.elim
theorem de_ltA {k : Nat} (hr : Room k X.A) (ha : DE X K mg E own a ta fa) (hb : DE X K mg E own b tb fb) (hK : X.K = K := by rfl) : DE X K mg E own (.Compare a [.Lt] [b] pos) (tOp (rLtA K) ta tb) (bin fa fb dLtA) := by
  subst hK
  exact de_cmp (op_ltA (hu70 hr)) od_ltA ha hb (nomark _)
theorem dt_ltA {k : Nat} (hr : Room k X.A) (ha : DE X K mg E own a ta fa) (hb : DE X K mg E own b tb fb) (hK : X.K = K := by rfl) : DT X K mg E own (.Compare a [.Lt] [b] pos) (tTest (tOp (rLtA K) ta tb)) (asB (bin fa fb dLtA)) := by
  subst hK
  exact dt_cmp (op_ltA (hu70 hr)) od_ltA ha hb (nomark _)
end
end DL
end

section
set_option Elab.async false
set_option linter.all false
set_option maxRecDepth 100000
set_option maxHeartbeats 2000000
set_option autoImplicit false
/-! DL13: the keys of a dict walked by for (the dict is locked while it is walked). -/
namespace DL
open PySem PySem.Spec PyProof.Rows L2

/-- the same, but that dicts may be locked or unlocked -/
def LU (C C' : Hp) : Prop := ∀ a o, C a = some o → C' a = some o ∨ ∃ o' kvs, (o = .frz o' (.dK kvs) ∧ C' a = some (.dK kvs)) ∨ (o = .dK kvs ∧ C' a = some (.frz o' (.dK kvs)))
section
variable {K : PySem.W.Frag} {C C' : Hp}
theorem LU.lst (s : LU C C') {a : Addr} {xs : List V} (h : C a = some (.lst xs)) : C' a = some (.lst xs) := by
  rcases s _ _ h with q | ⟨o, kvs, ⟨e, _⟩ | ⟨e, _⟩⟩
  · exact q
  · cases e
  · cases e
theorem LU.rdL (s : LU C C') {a : Addr} {xs : List V} (h : Rd C a (.lst xs)) : Rd C' a (.lst xs) := by
  rcases h with h | ⟨o, h⟩
  · exact .inl (s.lst h)
  · rcases s _ _ h with q | ⟨o', kvs, ⟨e, _⟩ | ⟨e, _⟩⟩
    · exact .inr ⟨o, q⟩
    · cases e
    · cases e
theorem LU.rdT (s : LU C C') {a : Addr} {xs : List V} (h : Rd C a (.tup xs)) : Rd C' a (.tup xs) := by
  rcases h with h | ⟨o, h⟩
  · rcases s _ _ h with q | ⟨o', kvs, ⟨e, _⟩ | ⟨e, _⟩⟩
    · exact .inl q
    · cases e
    · cases e
  · rcases s _ _ h with q | ⟨o', kvs, ⟨e, _⟩ | ⟨e, _⟩⟩
    · exact .inr ⟨o, q⟩
    · cases e
    · cases e
mutual
theorem R.lu (s : LU C C') : ∀ {v : V} {d : D}, R K C v d → R K C' v d
  | _, _, .non => .non
  | _, _, .bl b => .bl b
  | _, _, .int i => .int i
  | _, _, .str x => .str x
  | _, _, .lst h r => .lst (s.lst h) (RAll.lu s r)
  | _, _, .scr h => .scr (h.imp s.rdL id)
  | _, _, .tup h r => .tup (h.imp s.rdT id) (RAll.lu s r)
  | _, _, .dic h r => by
    rcases s _ _ h with q | ⟨o, kvs, ⟨e, _⟩ | ⟨e, q⟩⟩
    · exact .dic q (RKV.lu s r)
    · cases e
    · cases e; exact .fdic q (RKV.lu s r)
  | _, _, .fdic h r => by
    rcases s _ _ h with q | ⟨o, kvs, ⟨e, q⟩ | ⟨e, _⟩⟩
    · exact .fdic q (RKV.lu s r)
    · cases e; exact .dic q (RKV.lu s r)
    · cases e
theorem RAll.lu (s : LU C C') : ∀ {vs : List V} {ds : List D}, RAll K C vs ds → RAll K C' vs ds
  | _, _, .nil => .nil
  | _, _, .cons h r => .cons (R.lu s h) (RAll.lu s r)
theorem RKV.lu (s : LU C C') : ∀ {vs : List (Key × V)} {ds : List (D × D)}, RKV K C vs ds → RKV K C' vs ds
  | _, _, .nil => .nil
  | _, _, .cons h r => .cons (R.lu s h) (RKV.lu s r)
end
theorem lu_lock {A : Addr → Prop} {H : Hp} {d : Addr} {o : Obj} {kvs : List (Key × V)} (h : H d = some (.dK kvs)) : LU (Cut A H) (Cut A (upd H d (.frz o (.dK kvs)))) := fun a x q => by
  obtain ⟨c, q⟩ := cut_some q
  rw [cut_out c]
  by_cases e : a = d
  · subst e
    rw [h] at q
    cases q
    exact .inr ⟨o, kvs, .inr ⟨rfl, by rw [upd_same]⟩⟩
  · exact .inl (by rw [upd_ne e]; exact q)
theorem lu_unlock {A : Addr → Prop} {H : Hp} {d : Addr} {o : Obj} {kvs : List (Key × V)} (h : H d = some (.frz o (.dK kvs))) : LU (Cut A H) (Cut A (upd H d (.dK kvs))) := fun a x q => by
  obtain ⟨c, q⟩ := cut_some q
  rw [cut_out c]
  by_cases e : a = d
  · subst e
    rw [h] at q
    cases q
    exact .inr ⟨o, kvs, .inl ⟨rfl, by rw [upd_same]⟩⟩
  · exact .inl (by rw [upd_ne e]; exact q)
theorem OwnR.lu {H H' : Hp} {a : Addr} {x : D} (s : LU C C') (h : H' a = H a) (r : OwnR K C H a x) : OwnR K C' H' a x := by
  cases r with
  | lst q z => exact .lst (by rw [h]; exact q) (z.lu s)
  | dic q z => exact .dic (by rw [h]; exact q) (z.lu s)
variable {O : Addr → Prop} {H0 H : Hp} {own : List Nat} {ρ : Rho} {σ : L2.St}
theorem EnvOk.lockD (e : EnvOk K O H0 own ρ σ H) {d : Addr} {o : Obj} {kvs : List (Key × V)} (h : H d = some (.dK kvs)) (n : ¬ AllA O own σ d) :
    EnvOk K O (upd H0 d (.frz o (.dK kvs))) own ρ σ (upd H d (.frz o (.dK kvs))) where
  len := e.len
  base := fun b x q => by
    by_cases z : b = d
    · subst z; rw [upd_same] at q ⊢; exact q
    · rw [upd_ne z] at q ⊢; exact e.base b x q
  dom := fun b hb => by
    by_cases z : b = d
    · subst z; rw [upd_same]; intro w; cases w
    · rw [upd_ne z]; exact e.dom b hb
  new := fun b hb => by
    rw [upd_ne (show b ≠ d from fun z => n (.inr (z ▸ hb)))]
    exact e.new b hb
  live := fun b hb => by
    rw [upd_ne (show b ≠ d from fun z => n (.inr (z ▸ hb)))]
    exact e.live b hb
  inj := e.inj
  sh := fun i x hi q => let ⟨v, a, b⟩ := e.sh i x hi q; ⟨v, a, b.lu (lu_lock h)⟩
  ow := fun i x hi q => by
    obtain ⟨a, b, r⟩ := e.ow i x hi q
    exact ⟨a, b, r.lu (lu_lock h) (upd_ne fun z => n (.inr ⟨i, hi, z ▸ b⟩))⟩
theorem EnvOk.unlockD {d : Addr} {o : Obj} {kvs : List (Key × V)} (e : EnvOk K O (upd H0 d (.frz o (.dK kvs))) own ρ σ H) (dm : Dom O H0) (h0 : ∀ x, H0 d = some x → x = .dK kvs) :
    H d = some (.frz o (.dK kvs)) ∧ EnvOk K O H0 own ρ σ (upd H d (.dK kvs)) := by
  have hd : H d = some (.frz o (.dK kvs)) := e.base d _ (by rw [upd_same])
  have nd : ∀ a, OwnA own σ a → a ≠ d := fun a ha z => by have := e.new a ha; rw [z, upd_same] at this; cases this
  refine ⟨hd, e.len, fun b x q => ?_, dm, fun b hb => ?_, fun b hb => ?_, e.inj, fun i x hi q => ?_, fun i x hi q => ?_⟩
  · by_cases z : b = d
    · subst z; rw [upd_same, h0 x q]
    · rw [upd_ne z]; exact e.base b x (by rw [upd_ne z]; exact q)
  · have := e.new b hb; rw [upd_ne (nd b hb)] at this; exact this
  · rw [upd_ne (nd b hb)]; exact e.live b hb
  · obtain ⟨v, a, b⟩ := e.sh i x hi q
    exact ⟨v, a, b.lu (lu_unlock hd)⟩
  · obtain ⟨a, b, r⟩ := e.ow i x hi q
    exact ⟨a, b, r.lu (lu_unlock hd) (upd_ne (nd a ⟨i, hi, b⟩))⟩
end

/-- the keys of the dict that a name holds -/
def itK (i : Nat) : Ax := fun ρ => match ρ[i]? with
  | some (some (.dict ds)) => if isDic ds = true then .ok (ds.map (·.1)) else .bad
  | _ => .bad
/-- nothing may be raised -/
def gCalm (g : Gx) : Gx := fun ρ => match g ρ with
  | .exc _ => .bad
  | o => o
theorem itOk_keys {K : PySem.W.Frag} {Hb : Hp} {d : Addr} {o : Obj} {kvs : List (Key × V)} {ds : List (D × D)} (q : Hb d = some (.frz o (.dK kvs))) (r : RKV K Hb kvs ds) : ItOk K Hb (Itk d o kvs) (ds.map (·.1)) := by
  have keys : ∀ {kvs : List (Key × V)} {ds : List (D × D)}, RKV K Hb kvs ds → kvs.length = ds.length ∧ ∀ (i : Nat) (k : Key) (v : V), kvs[i]? = some (k, v) → (ds.map (·.1))[i]? = some (keyD k) := by
    intro kvs
    induction kvs with
    | nil => intro ds r; cases r; exact ⟨rfl, fun i k v h => by simp at h⟩
    | cons p t ih =>
      intro ds r
      cases r with
      | cons a b =>
        obtain ⟨e1, e2⟩ := ih b
        refine ⟨by simp [e1], fun i k v h => ?_⟩
        cases i with
        | zero => simp at h ⊢; rw [h.1]
        | succ i => simpa using e2 i k v (by simpa using h)
  obtain ⟨hl, hk⟩ := keys r
  refine ⟨fun i H hi s => ⟨s _ _ q, by rw [List.length_map] at hi; omega⟩, fun H s => ⟨s _ _ q, by rw [List.length_map]; omega⟩, fun i x y H H' hd s yl => ?_⟩
  obtain ⟨e, k, v, e1, rfl⟩ := yl
  subst e
  rw [hk i k v e1] at hd
  cases hd
  refine ⟨Same.refl _, fun A _ _ => ?_⟩
  cases k with
  | inl j => exact .int j
  | inr x => exact .str x
section
variable {X : Cx} {K : PySem.W.Frag} {mg : Str → Option Value} {E : XK} {own : List Nat} {g : Gx} {pos npos : Pos} {x : Str}
/-- .. the dict at hand is locked already -/
def wiK (i : Nat) : TI := fun σ H W => ∀ d o kvs, σ[i]? = some (some (.ref d)) → H d = some (.frz o (.dK kvs)) → W (Itk d o kvs) H
theorem itK_ok {ρ : Rho} {i : Nat} {H : Hp} {P : List D → Prop} (h : ResW mg E H P (itK i ρ)) : ∃ ds, ρ[i]? = some (some (.dict ds)) ∧ isDic ds = true ∧ P (ds.map (·.1)) := by
  unfold itK at h
  split at h
  · rename_i ds q
    split at h
    · rename_i c
      exact ⟨ds, q, c, h⟩
    · exact h.elim
  · exact h.elim
theorem tiK {i : Nat} (hi : i ∉ own) : TIok K mg E own (wiK i) (itK i) := fun O H0 ρ σ H W en w => by
  obtain ⟨ds, q, c, w⟩ := itK_ok w
  intro d o kvs hs hd
  obtain ⟨v, e1, r⟩ := en.sh i _ hi q
  rw [hs] at e1
  cases e1
  refine w _ H (Same.refl H) ?_
  generalize hx : (PyData.dict ds) = y at r
  cases r with
  | dic a b => have := cut_sub _ _ a; rw [hd] at this; cases this
  | fdic a b =>
    cases hx
    have z := cut_sub _ _ a
    rw [hd] at z
    cases z
    exact itOk_keys a b
  | scr _ => cases hx; simp [isDic] at c
  | lst => cases hx
  | tup => cases hx
def gForK (tg : Tgt) (i : Nat) (g : Gx) : Gx := gCalm (gFor tg (itK i) g)
theorem ts_forK {i : Nat} {gt : TG} {tg : Tgt} {tb : TS} (hi : i ∉ own) (hg : TGok K own gt tg) (hb : TSok K mg E own own tb g) :
    TSok K mg E own own (fun D σ H => tLock (tFor (iKeys (tVar i)) gt tb) D σ H ∨ tFor (iKeys (tVar i)) gt tb D σ H) (gForK tg i g) := fun O H0 ρ σ H D en w => by
  unfold gForK gCalm at w
  -- what is walked
  have hx : ∃ ds, ρ[i]? = some (some (.dict ds)) ∧ isDic ds = true := by
    unfold gFor at w
    cases q : itK i ρ with
    | ok items =>
      have : ResW mg E H (fun _ => True) (itK i ρ) := by rw [q]; trivial
      obtain ⟨ds, a, b, _⟩ := itK_ok this
      exact ⟨ds, a, b⟩
    | exc c => rw [q] at w; exact w.elim
    | bad => rw [q] at w; exact w.elim
  obtain ⟨ds, q, c⟩ := hx
  obtain ⟨v, e1, r⟩ := en.sh i _ hi q
  -- the loop over a locked one
  have core : ∀ (H0' H1 : Hp) (D' : Ends) (d : Addr) (o : Obj) (kvs : List (Key × V)), σ[i]? = some (some (.ref d)) → H1 d = some (.frz o (.dK kvs)) → EnvOk K O H0' own ρ σ H1 → OutW K mg E O H0' own D' (gFor tg (itK i) g ρ) → tFor (iKeys (tVar i)) gt tb D' σ H1 := by
    intro H0' H1 D' d o kvs hs hd en' w'
    have h := ts_for (tiK hi) hg hb O H0' ρ σ H1 D' en' w'
    exact ⟨_, hs, d, o, rfl, .inl ⟨kvs, hd, h d o kvs hs hd⟩⟩
  generalize hx : (PyData.dict ds) = y at r
  cases r with
  | scr _ => cases hx; simp [isDic] at c
  | lst => cases hx
  | tup => cases hx
  | non => cases hx
  | bl => cases hx
  | int => cases hx
  | str => cases hx
  | fdic a b =>
    refine .inr (core H0 H D _ _ _ e1 (cut_sub _ _ a) en ?_)
    cases z : gFor tg (itK i) g ρ with
    | exc _ => rw [z] at w; exact w.elim
    | nx _ => rw [z] at w; exact w
    | rt _ => rw [z] at w; exact w
    | bad => rw [z] at w; exact w
  | dic a b =>
    rename_i d kvs _
    obtain ⟨nA, hd⟩ := cut_some a
    have h0 : ∀ x, H0 d = some x → x = .dK kvs := fun x hx => by have := en.base d x hx; rw [hd] at this; cases this; rfl
    refine .inl ⟨d, .dK kvs, hd, trivial, fun od => core (upd H0 d (.frz od (.dK kvs))) _ _ d od kvs e1 (by rw [upd_same]) (en.lockD hd nA) ?_⟩
    cases z : gFor tg (itK i) g ρ with
    | exc _ => rw [z] at w; exact w.elim
    | bad => rw [z] at w; exact w
    | nx ρ' =>
      rw [z] at w
      intro σ' H' e'
      obtain ⟨h1, h2⟩ := e'.unlockD en.dom h0
      exact ⟨h1, w σ' _ h2⟩
    | rt x =>
      rw [z] at w
      intro v H' s r
      have h1 : H' d = some (.frz od (.dK kvs)) := s d _ (by rw [upd_same])
      refine ⟨h1, w v _ (fun b x q => ?_) (r.lu (lu_unlock h1))⟩
      by_cases z : b = d
      · subst z; rw [upd_same, h0 x q]
      · rw [upd_ne z]; exact s b x (by rw [upd_ne z]; exact q)
theorem PS.or {st : Stmt} {t u : TS} (h1 : PS X st t) (h2 : PS X st u) : PS X st (fun D σ H => t D σ H ∨ u D σ H) :=
  ⟨fun pins s σ H D I h => h.elim (h1.run pins s σ H D I) (h2.run pins s σ H D I)⟩
theorem ds_forK (i : Nat) {tgx : Expr} {body : List Stmt} {gt : TG} {tg : Tgt} {tb : TS} (hp : PassesOwn (model X.prog X.w) X.A X.env X.xe) (hc : X.calm = true) (hg : DG X K own tgx gt tg) (hb : DSs X K mg E own own body tb g)
    (hi : i ∉ own := by decide) (hN : X.N[i]? = some x := by rfl) (hv : Vis X.env.scope x := by first | exact Or.inl rfl | exact Or.inr (Or.inl rfl) | exact Or.inr (Or.inr rfl)) (hd : (x == ("__debug__" : Str)) = false := by decide)
    (hcd : (x == ("__classdict__" : Str)) = false := by decide) (hs : ∀ y, foldedSetIterable (.Name x npos) X.env y = pure y := by intro _; rfl) :
    DS X K mg E own own (.For tgx (.Name x npos) body [] pos) (fun D σ H => tLock (tFor (iKeys (tVar i)) gt tb) D σ H ∨ tFor (iKeys (tVar i)) gt tb D σ H) (gForK tg i g) :=
  have p := ps_for hp hc (pi_keys (tg := tgx) (pe_var (X := X) (pos := npos) hN hv hd hcd)) hg.pg hb.ps hs
  ⟨PS.or (ps_lock p) p, ts_forK hi hg.ok hb.ok⟩
end
end DL
end

section
set_option Elab.async false
set_option linter.all false
set_option maxRecDepth 100000
set_option maxHeartbeats 2000000
set_option autoImplicit false
/-! DL14: defs whose result is new: fit to be the caller's own. -/
namespace DL
open PySem PySem.Spec PyProof.Rows L2

/-- THE PROMISE of a def whose result is new -/
def spF (K : PySem.W.Frag) (mg : Str → Option Value) (n : Nat) (f : List D → Res D) : Sp := fun vs H Q E => vs.length = n ∧ ∃ (O : Addr → Prop) (ds : List D), Dom O H ∧ RAll K (Cut O H) vs ds ∧
  ResW mg E H (fun d => ∀ p H', Same H H' → H p = none → OwnR K (Cut (Plus O p) H') H' p d → Q (.ref p) H') (f ds)
structure DefF (P : Program) (w : World) (K : PySem.W.Frag) (mg : Str → Option Value) (base : Heap) (x : Str) (ps : List Str) (k n : Nat) (fM : List D → Res D) : Prop where
  ex : ∃ (f : Addr) (fd : FuncData), mg x = some (.ref f) ∧ PySem.W.keepIn K (.ref f) = true ∧ (∃ oc od osl, K.lookup f = some ⟨oc, od, .func fd, osl⟩) ∧ Binds K fd ps [] ∧ FnOk P w K mg base CX0 k f fd ps (spF K mg n fun ds => (fM ds).calm)
theorem DefF.df {P : Program} {w : World} {K : PySem.W.Frag} {mg : Str → Option Value} {base : Heap} {x : Str} {ps : List Str} {k n : Nat} {fM : List D → Res D} (G : DefF P w K mg base x ps k n fM) : Def P w K mg base x ps k n fM := by
  obtain ⟨f, fd, a, b, c, d, F⟩ := G.ex
  refine ⟨f, fd, a, b, c, d, F.imp fun vs H Q E h => ?_⟩
  obtain ⟨hl, O, ds, dom, r, w⟩ := h
  exact ⟨hl, O, ds, dom, r, w.mono (Same.refl H) fun d k p H' s np r => k _ H' s (ownR_R r fun z => (dom.same (Same.refl H)) p z np)⟩
/-- what never returns -/
def NoRt (g : Gx) : Prop := ∀ ρ d, g ρ ≠ .rt d
section
variable {g h : Gx} {f : Ex} {c : Tx} {i : Nat}
theorem nrt_skip : NoRt gSkip := fun ρ d z => by cases z
theorem nrt_bad : NoRt gBad := fun ρ d z => by cases z
theorem nrt_raise {c : Str} : NoRt (gRaise c) := fun ρ d z => by cases z
theorem nrt_set : NoRt (gSet i f) := fun ρ d z => by
  unfold gSet at z
  cases q : f ρ <;> rw [q] at z <;> cases z
theorem nrt_drop : NoRt (gDrop f) := fun ρ d z => by
  unfold gDrop at z
  cases q : f ρ <;> rw [q] at z <;> cases z
theorem nrt_seq (a : NoRt g) (b : NoRt h) : NoRt (gSeq g h) := fun ρ d z => by
  unfold gSeq at z
  cases q : g ρ with
  | nx ρ' => rw [q] at z; exact b ρ' d z
  | rt d' => exact a ρ d' q
  | exc c => rw [q] at z; cases z
  | bad => rw [q] at z; cases z
theorem nrt_if (a : NoRt g) (b : NoRt h) : NoRt (gIf c g h) := fun ρ d z => by
  unfold gIf at z
  cases q : c ρ with
  | ok k =>
    rw [q] at z
    cases k with
    | true => exact a ρ d z
    | false => exact b ρ d z
  | exc c => rw [q] at z; cases z
  | bad => rw [q] at z; cases z
theorem nrt_forL {tg : Tgt} (a : NoRt g) : ∀ (l : List D), NoRt (forL tg g l)
  | [], ρ, d, z => by cases z
  | x :: l, ρ, d, z => by
    unfold forL at z
    cases q : tg.put x ρ with
    | none => rw [q] at z; cases z
    | some ρ' =>
      rw [q] at z
      replace z : (match g ρ' with | .nx ρ'' => forL tg g l ρ'' | o => o) = .rt d := z
      cases q2 : g ρ' with
      | nx ρ2 => rw [q2] at z; exact nrt_forL a l ρ2 d z
      | rt d' => exact a ρ' d' q2
      | exc c => rw [q2] at z; cases z
      | bad => rw [q2] at z; cases z
theorem nrt_for {tg : Tgt} {fi : Ax} (a : NoRt g) : NoRt (gFor tg fi g) := fun ρ d z => by
  unfold gFor at z
  cases q : fi ρ with
  | ok l => rw [q] at z; exact nrt_forL a l ρ d z
  | exc c => rw [q] at z; cases z
  | bad => rw [q] at z; cases z
theorem nrt_forK {tg : Tgt} (a : NoRt g) : NoRt (gForK tg i g) := fun ρ d z => by
  unfold gForK gCalm at z
  cases q : gFor tg (itK i) g ρ with
  | rt d' => exact nrt_for a ρ d' q
  | nx ρ2 => rw [q] at z; cases z
  | exc c => rw [q] at z; cases z
  | bad => rw [q] at z; cases z
theorem nrt_whN (a : NoRt g) : ∀ (n : Nat), NoRt (whN c g n)
  | 0, ρ, d, z => by cases z
  | n + 1, ρ, d, z => by
    unfold whN at z
    cases q : c ρ with
    | ok b =>
      rw [q] at z
      cases b with
      | false => cases z
      | true =>
        replace z : (match g ρ with | .nx ρ' => whN c g n ρ' | o => o) = .rt d := z
        cases q2 : g ρ with
        | nx ρ2 => rw [q2] at z; exact nrt_whN a n ρ2 d z
        | rt d' => exact a ρ d' q2
        | exc c => rw [q2] at z; cases z
        | bad => rw [q2] at z; cases z
    | exc c => rw [q] at z; cases z
    | bad => rw [q] at z; cases z
theorem nrt_wh (a : NoRt g) : NoRt (gWh c g) := fun ρ d z => by
  unfold gWh at z
  split at z
  · exact nrt_whN a _ ρ d z
  · cases z
theorem nrt_app : NoRt (gApp i f) := fun ρ d z => by
  unfold gApp at z
  split at z
  · cases q : f ρ with
    | ok x => rw [q] at z; replace z : (if _ then Out.nx _ else .bad) = .rt d := z; split at z <;> cases z
    | exc c => rw [q] at z; cases z
    | bad => rw [q] at z; cases z
  · cases z
theorem nrt_ext : NoRt (gExt i f) := fun ρ d z => by
  unfold gExt at z
  split at z
  · cases q : f ρ with
    | ok x =>
      rw [q] at z
      cases x <;> first | cases z | (replace z : (if _ then Out.nx _ else .bad) = .rt d := z; split at z <;> cases z)
    | exc c => rw [q] at z; cases z
    | bad => rw [q] at z; cases z
  · cases z
theorem nrt_putL {fk : Ex} : NoRt (gPutL i fk f) := fun ρ d z => by
  unfold gPutL at z
  split at z
  · cases q : f ρ with
    | ok x =>
      rw [q] at z
      cases q2 : fk ρ with
      | ok k =>
        simp only [q2, Res.out] at z
        split at z
        · split at z <;> cases z
        · cases z
      | exc c => simp only [q2, Res.out] at z; cases z
      | bad => simp only [q2, Res.out] at z; cases z
    | exc c => rw [q] at z; cases z
    | bad => rw [q] at z; cases z
  · cases z
theorem nrt_putD {fk : Ex} : NoRt (gPutD i fk f) := fun ρ d z => by
  unfold gPutD at z
  split at z
  · cases q : f ρ with
    | ok x =>
      rw [q] at z
      cases q2 : fk ρ with
      | ok k =>
        simp only [q2, Res.out] at z
        split at z
        · split at z <;> cases z
        · cases z
      | exc c => simp only [q2, Res.out] at z; cases z
      | bad => simp only [q2, Res.out] at z; cases z
    | exc c => rw [q] at z; cases z
    | bad => rw [q] at z; cases z
  · cases z
theorem nrt_un {tg : Tgt} : NoRt (gUn tg f) := fun ρ d z => by
  unfold gUn at z
  cases q : f ρ with
  | ok x => simp only [q, Res.out] at z; split at z <;> cases z
  | exc c => rw [q] at z; cases z
  | bad => rw [q] at z; cases z
end
/-! ### bodies that end in a new result -/
def OutWF (K : PySem.W.Frag) (mg : Str → Option Value) (E : XK) (O : Addr → Prop) (H0 : Hp) (D : Ends) : Out → Prop
  | .nx _ => False
  | .rt d => ∀ p H, Same H0 H → H0 p = none → OwnR K (Cut (Plus O p) H) H p d → D.rt (.ref p) H
  | .exc c => ∃ C, mg c = some (.ref C) ∧ ∀ H, Same H0 H → E (.ref C) none H
  | .bad => False
structure DSsF (X : Cx) (K : PySem.W.Frag) (mg : Str → Option Value) (E : XK) (own : List Nat) (st : List Stmt) (t : TS) (g : Gx) : Prop where
  ps : PSs X st t
  ok : ∀ (O : Addr → Prop) (H0 : Hp) (ρ : Rho) (σ : L2.St) (H : Hp) (D : Ends), EnvOk K O H0 own ρ σ H → OutWF K mg E O H0 D (g ρ) → t D σ H
  nn : ∀ ρ ρ', g ρ ≠ .nx ρ'
theorem OwnR.mono {K : PySem.W.Frag} {C C' H : Hp} {a : Addr} {d : D} (s : Same C C') (r : OwnR K C H a d) : OwnR K C' H a d := by
  cases r with
  | lst q z => exact .lst q (z.mono s)
  | dic q z => exact .dic q (z.mono s)
section
variable {X : Cx} {K : PySem.W.Frag} {mg : Str → Option Value} {E : XK} {own own' own'' : List Nat} {st : Stmt} {rest : List Stmt} {t u : TS} {g h : Gx} {e : Expr} {te : TE} {f : Ex} {pos npos : Pos} {x : Str}
theorem ret_nn (ρ ρ' : Rho) : gRet f ρ ≠ .nx ρ' := fun z => by
  unfold gRet at z
  cases q : f ρ <;> rw [q] at z <;> cases z
theorem dssF_ret (he : DF X K mg E own e te f) : DSsF X K mg E own [.Return (some e) pos] (tRet te) (gRet f) :=
  ⟨pss_one (ps_ret he.pe), fun O H0 ρ σ H D en w => he.ok O H0 ρ σ H _ en (by
    unfold gRet at w
    cases q : f ρ with
    | ok d =>
      rw [q] at w
      exact fun p H' s np r => w p H' (en.base.trans s) (en.base.free np) (r.mono (cut_mono fun a z => z.imp .inl id))
    | exc c => rw [q] at w; obtain ⟨C, a, b⟩ := w; exact ⟨C, a, fun H' s => b H' (en.base.trans s)⟩
    | bad => rw [q] at w; exact w), ret_nn⟩
theorem dssF_own (i : Nat) (hi : i ∈ own := by decide) (hN : X.N[i]? = some x := by rfl) (hv : Vis X.env.scope x := by first | exact Or.inl rfl | exact Or.inr (Or.inl rfl) | exact Or.inr (Or.inr rfl)) (hd : (x == ("__debug__" : Str)) = false := by decide)
    (hcd : (x == ("__classdict__" : Str)) = false := by decide) : DSsF X K mg E own [.Return (some (.Name x npos)) pos] (tRet (tVar i)) (gRet (rd i)) :=
  ⟨pss_one (ps_ret (pe_var hN hv hd hcd)), fun O H0 ρ σ H D en w => by
    unfold gRet at w
    cases q : rd i ρ with
    | ok d =>
      rw [q] at w
      have h1 : ResW mg E H (fun _ => True) (rd i ρ) := by rw [q]; trivial
      obtain ⟨d', q2, _⟩ := rd_ok h1
      have ed : d' = d := by
        unfold rd at q
        rw [q2] at q
        cases q
        rfl
      subst ed
      obtain ⟨a, hσ, r⟩ := en.ow i d' hi q2
      exact ⟨.ref a, hσ, w a H en.base (en.new a ⟨i, hi, hσ⟩) (r.mono (cut_mono fun b z => by
        rcases z with z | z
        · exact .inl z
        · exact .inr ⟨i, hi, by rw [z]; exact hσ⟩))⟩
    | exc c => exfalso; unfold rd at q; split at q <;> cases q
    | bad => rw [q] at w; exact w.elim, ret_nn⟩
theorem dssF_cons (h1 : DS X K mg E own own' st t g) (n : NoRt g) (h2 : DSsF X K mg E own' rest u h) : DSsF X K mg E own (st :: rest) (tSeq t u) (gSeq g h) :=
  ⟨pss_cons h1.ps h2.ps, fun O H0 ρ σ H D en w => by
    refine h1.ok O H0 ρ σ H _ en ?_
    unfold gSeq at w
    cases q : g ρ with
    | nx ρ' => rw [q] at w; exact fun σ' H' e' => h2.ok O H0 ρ' σ' H' D e' w
    | rt d => exact (n ρ d q).elim
    | exc c => rw [q] at w; exact w
    | bad => rw [q] at w; exact w, fun ρ ρ' z => by
    unfold gSeq at z
    cases q : g ρ with
    | nx ρ2 => rw [q] at z; exact h2.nn ρ2 ρ' z
    | rt d => rw [q] at z; cases z
    | exc c => rw [q] at z; cases z
    | bad => rw [q] at z; cases z⟩
theorem dssF_freeze (own' : List Nat) (h : DSsF X K mg E own' rest u g) (s : ∀ i ∈ own', i ∈ own := by decide) : DSsF X K mg E own rest u g := ⟨h.ps, fun O H0 ρ σ H D e w => h.ok O H0 ρ σ H D (e.freeze s) w, h.nn⟩
end
section
variable {P : Program} {w : World} {K : PySem.W.Frag} {mg : Str → Option Value} {base : Heap}
theorem mkDefF {x : Str} {st : Stmt} {N ps : List Str} {n : Nat} (g : Gx) {fM : List D → Res D} (hM : fM = run N.length g) (k : Nat) (T : At K mg x st) (S : FnScope N ps (defScope st)) (hn : ps.length = n)
    (hbind : ∀ (kV doc pm : Value) (an : Option Addr) (cdv ct : Value) (us : List Value), us.length = ps.length → bindArgs (PySem.W.fnOf x x (defArgs st) (defBody st) (defScope st) .none kV doc pm an cdv ct) ⟨us, []⟩ = pure (ps.zip us))
    (hbody : ∀ (cdv : Value) (A : Around) (outer : List Env) (s : Shared) (H : Hp) (E : XK) (f : Addr), Room k (A.deeper (envOfC x (defScope st) s.heap.objs.size f cdv)) →
      ∃ (t : TS), DSsF (cxOf CX0 P w K mg base N x (defScope st) f cdv A outer s H E).nox K mg E0' [] (defBody st) t g) : DefF P w K mg base x ps (k + 1) n fM := by
  subst hM
  obtain ⟨f, fd, hm, F⟩ := T.ex
  refine ⟨f, fd, hm, F.kp, (let ⟨oc, od, _, _, _, _, _, _, _, osl, _, lk, _⟩ := F.ex; ⟨oc, od, osl, lk⟩), F.bindsN hbind, F.ok S (fun vs H Q E h => by rw [h.1, hn]) fun cdv A outer s H vs Q E hr h => ?_⟩
  obtain ⟨t, hb⟩ := hbody cdv A outer s H E f hr
  obtain ⟨_, O, ds, dom, r, w⟩ := h
  refine ⟨t, hb.ps.nox, hb.ok O H _ _ H _ (env_start dom r) ?_⟩
  have w := resW_calm (E' := E0') w
  unfold run at w
  cases q : g (ds.map some ++ List.replicate (N.length - ds.length) none) with
  | nx ρ => exact (hb.nn _ _ q).elim
  | rt d => rw [q] at w; exact w
  | exc c => rw [q] at w; exact w
  | bad => rw [q] at w; exact w
theorem df_fn {X : Cx} {K : PySem.W.Frag} {mg : Str → Option Value} {own : List Nat} {k n : Nat} {fM : List D → Res D} {x : Str} {ps : List Str} {p pos : Pos} {e : Expr} {es : List Expr} {t : TA} {g : Ax}
    (G : DefF X.prog X.w X.K X.mg X.base x ps k n fM) (hr : Room k X.A) (ha : DA X K mg E0' own (e :: es) t g) (hg : Gl X x := by rfl) (hdb : (x == ("__debug__" : Str)) = false := by decide) (he : starEach (e :: es) X.env = (false, eval e X.env) :: starEach es X.env := by rfl) (hpl : (backTo pos (starEach es X.env)).any (·.1) = false := by rfl) (hK : X.K = K := by rfl) (hmg : X.mg = mg := by rfl) :
    DF X K mg E0' own (.Call (.Name x p) (e :: es) [] pos) (tCall (spF K mg n fun ds => (fM ds).calm) [] E0' t) (callD n fM g) := by
  subst hK hmg
  obtain ⟨f, fd, hm, hk, _, hb, F⟩ := G.ex
  refine ⟨pe_call F hr hg hm hk hb .nil pass0 ha.pa hdb he hpl, fun O H0 ρ σ H Q en w => ?_⟩
  unfold callD at w
  rw [resW_bind] at w
  refine ha.ok O H0 ρ σ H _ en (w.mono (Same.refl H) fun ds wd vs H1 s1 r1 => ?_)
  by_cases c : ds.length = n
  · rw [if_pos c] at wd
    rw [List.append_nil]
    have wd' : ResW X.mg E0' H (fun d => ∀ p H', Same H H' → H p = none → OwnR X.K (Cut (Plus (AllA O own σ) p) H') H' p d → Q (.ref p) H') ((fM ds).calm) := by
      cases q : fM ds with
      | ok d => rw [q] at wd; exact wd
      | exc c => rw [q] at wd; obtain ⟨_, _, z⟩ := wd; exact (z H (Same.refl H)).elim
      | bad => rw [q] at wd; exact wd
    exact ⟨by rw [r1.length, c], AllA O own σ, ds, en.domA.same s1, r1, wd'.mono s1 fun d k p H' s np r => k p H' (s1.trans s) (s1.free np) r⟩
  · rw [if_neg c] at wd; exact wd.elim
end
end DL
end

section
set_option Elab.async false
set_option linter.all false
set_option maxRecDepth 100000
set_option maxHeartbeats 4000000
set_option autoImplicit false
/-! DL15: sorted(set(a list of numbers)), sorted(d.items()), enumerate(tuple). -/
namespace DL
open PySem PySem.Spec PyProof.Rows L2
section
variable {P : Program} {w : World} {A : Around} {E : Value → Shared → Prop} {s : Shared}
set_option maxHeartbeats 3200000 in
theorem call_set_lstI {l : Addr} {items : Array Value} (ns : List Int) {Q : Value → Shared → Prop} (hh : A.handled = none) (hl : s.heap.IsList l items) (hit : IntsAre items.toList ns) (hb : ns.length + 1 < scanBound)
    (h : ∀ (h' : Heap) (tk c : Nat), SetR w h' s.heap.objs.size (fun j => decide (j ∈ ns)) c → c ≤ ns.length → (∀ b o, s.heap.get? b = some o → h'.get? b = some o) → Q (.ref s.heap.objs.size) { s with heap := h', toks := tk }) :
    wpAny (model P w) A (call (.type "set") [.ref l]) Q E s := by
  have hisz : items.size = ns.length := by
    have q := IntsAre.length hit
    rw [Array.length_toList] at q
    exact q
  obtain ⟨c, tl, hmro⟩ := F.called_set.mro
  have hmade := F.called_set.made
  have hsub := F.called_set.sub
  refine wpAny_call (codeAny_of_tree ?_)
  show wpAny _ _ (callAny (.type "set") _) _ _ _
  refine wpAny_pure ⟨Code.quiet_builtin _ (by decide +kernel), codeAny_builtin F.entry_type_call ?_⟩
  rw [Around.under_plain (weight_type_call_type "set" [.ref l] []) rfl]
  have h1 := F.called_set.notType
  have h2 := F.called_set.canCreate
  have hct := F.typeCall_set_1 (.ref l)
  repeat (any_goals (first | assumption | wp_step))

  refine codeAny_mono (code_set_led1 (.ref l) (E := E) (Q₁ := fun obj s₁ => obj = .ref s.heap.objs.size ∧ s₁ = { s with heap := s.heap.push { cls := .type "set", dict := none, data := .set #[] 0 (.fresh 0 0 (!w.params.followText "set-order")) } }) ⟨rfl, rfl⟩) fun r s₁ hr => ?_
  cases r with
  | error e => exact hr
  | ok fl =>
    cases fl with
    | ret obj =>
      obtain ⟨rfl, rfl⟩ := hr
      have hS : (s.heap.push { cls := .type "set", dict := none, data := .set #[] 0 (.fresh 0 0 (!w.params.followText "set-order")) }).get? s.heap.objs.size = some { cls := .type "set", dict := none, data := .set #[] 0 (.fresh 0 0 (!w.params.followText "set-order")) } := Heap.get?_push_size _ rfl
      have hT : Shared.TypeIs { s with heap := s.heap.push { cls := .type "set", dict := none, data := .set #[] 0 (.fresh 0 0 (!w.params.followText "set-order")) } } (.ref s.heap.objs.size) "set" := ⟨_, hS, rfl⟩
      have hli := F.called_set.init.lookup
      have hbi := F.called_set.init.bind (.ref s.heap.objs.size)
      repeat (any_goals (first | assumption | wp_step))

      refine codeAny_mono (codeAny_call_builtin (R := wants (fun r s₂ => r = .none ∧ ∃ h' tk c, s₂ = { s with heap := h', toks := tk } ∧ SetR w h' s.heap.objs.size (fun j => decide (j ∈ ns)) c ∧ c ≤ ns.length ∧
          (∀ b o, s.heap.get? b = some o → h'.get? b = some o)) E) F.called_set.init.plain F.entry_set_init (check_set_init_1 hT ?_)) fun r₂ s₂ hr₂ => ?_
      · obtain ⟨ol, hol, hcl, nl, hdl⟩ := hl
        obtain ⟨ocls, odict, odata, oslots⟩ := ol
        simp only at hcl hdl
        subst hcl; subst hdl
        have hol' : (s.heap.push { cls := .type "set", dict := none, data := .set #[] 0 (.fresh 0 0 (!w.params.followText "set-order")) }).get? l = some { cls := .type "list", dict := odict, data := .seq items nl, slots := oslots } := Heap.get?_push_of_some _ hol
        have hsls := F.sub_list_set
        have hslf := F.sub_list_frozenset
        have hne : (Value.type "list" == Value.type "dict") = false := by decide
        have hl1 : (s.heap.push { cls := .type "set", dict := none, data := .set #[] 0 (.fresh 0 0 (!w.params.followText "set-order")) }).IsList l items := ⟨_, hol', rfl, nl, rfl⟩
        unfold Builtin.«set.__init__» noKeywords Builtin.Frozenset.updateFrom
        generalize hPI : pyIter = PI
        wp_walk
        subst hPI

        refine wpAny_pyIter_list hl1 ?_
        refine wpAny_bind (wpAny_runValue ?_)
        have hlS : l < s.heap.objs.size := Heap.lt_size hol
        have hh3 : A.in1.in1.in1.handled = none := by simp [hh]
        have hz1 : (s.heap.push { cls := .type "set", dict := none, data := .set #[] 0 (.fresh 0 0 (!w.params.followText "set-order")) }).objs.size = s.heap.objs.size + 1 := Heap.size_push ..
        have hneI : l ≠ (s.heap.push { cls := .type "set", dict := none, data := .set #[] 0 (.fresh 0 0 (!w.params.followText "set-order")) }).objs.size := by
          rw [Heap.size_push]; exact Nat.ne_of_lt (Nat.lt_succ_of_lt hlS)
        have hSf : s.heap.objs.size ∉ [(s.heap.push { cls := .type "set", dict := none, data := .set #[] 0 (.fresh 0 0 (!w.params.followText "set-order")) }).objs.size, l] := by
          rw [Heap.size_push]; simp only [List.mem_cons, List.mem_singleton, List.not_mem_nil, or_false, not_or]
          exact ⟨Nat.ne_of_lt (Nat.lt_succ_self _), Nat.ne_of_gt hlS⟩
        have hval : ∀ (i : Nat) (v : Value), items[i]? = some v → ∃ k t, ns[i]? = some k ∧ v = .int k t := fun i v hv => by
          have hi : i < ns.length := by rw [← hisz]; exact (Array.getElem?_eq_some_iff.mp hv).1
          obtain ⟨t, e⟩ := PyProof.Rows.IntsAre.int_at hit i v (by rw [Array.getElem?_toList]; exact hv)
          refine ⟨ns[i], t, List.getElem?_eq_getElem hi, ?_⟩
          rw [e, List.getD_eq_getElem?_getD, List.getElem?_eq_getElem hi] <;> rfl
        refine set_update_ints ((Walks.list hh3 _ l hneI items).toS) s.heap.objs.size
          hSf ns hisz hb hval (items.size - 0) 0 _ (by omega) (Nat.zero_le _)
          ⟨⟨_, Heap.get?_push_size _ rfl, rfl, rfl⟩, (hl1.push _)⟩ ?hS0 ?hR
        case hS0 =>
          have hget : ((s.heap.push { cls := .type "set", dict := none, data := .set #[] 0 (.fresh 0 0 (!w.params.followText "set-order")) }).push { cls := .type "list_iterator", data := .fields #[.ref l, .int 0 0] }).get? s.heap.objs.size
              = some { cls := .type "set", dict := none, data := .set #[] 0 (.fresh 0 0 (!w.params.followText "set-order")) } := Heap.get?_push_of_some _ hS
          exact ⟨0, Nat.le_refl 0, setR_new_at hget⟩
        case hR =>
          intro s' c' hm hc' hS'
          obtain ⟨h', g2, d', tk', os'⟩ := s'
          have eg : g2 = s.gens := hm.gens
          have ed : d' = s.drawn := hm.drawn
          have eo : os' = s.os := hm.os
          subst eg; subst ed; subst eo
          show wpAny _ _ _ _ _ _
          refine wpAny_pure ?_
          show wpAny _ _ (ret Value.none) _ _ _
          rw [hisz] at hc'
          refine wpAny_pure ⟨rfl, h', tk', c', rfl, hS', hc', fun b o e => ?_⟩
          have hb0 : b < s.heap.objs.size := Heap.lt_size e
          have hb1 : b ≠ s.heap.objs.size := Nat.ne_of_lt hb0
          have hb2 : b ≠ (s.heap.push { cls := .type "set", dict := none, data := .set #[] 0 (.fresh 0 0 (!w.params.followText "set-order")) }).objs.size := by
            rw [Heap.size_push]; exact Nat.ne_of_lt (Nat.lt_succ_of_lt hb0)
          exact hm.heap b o (by simp only [List.mem_cons, List.mem_singleton, List.not_mem_nil, or_false, not_or]; exact ⟨hb1, hb2⟩) (Heap.get?_push_of_some _ (Heap.get?_push_of_some _ e))

      · cases r₂ with
        | error e => exact hr₂
        | ok fl₂ =>
          cases fl₂ with
          | ret r =>
            obtain ⟨rfl, h', tk, c', rfl, hS', hc', hk'⟩ := hr₂
            repeat (any_goals (first | assumption | wp_step))
            exact h _ _ _ hS' hc' hk'
          | _ => exact hr₂.elim
    | _ => exact hr.elim

end
end DL

namespace DL
open PySem PySem.Spec PyProof.Rows L2
/-! ### sorted(set(xs)) -/
def rSetL (K : PySem.W.Frag) (w : World) : List V → Hp → VK → Prop := fun vs H Q => ∃ (l : Addr) (ns : List Int), vs = [V.ref l] ∧ SqL K H l (ns.map V.int) ∧ ns.length < 64 ∧
  ∀ p c, H p = none → c ≤ ns.length → Q (.ref p) (upd H p (SetO w p (fun j => decide (j ∈ ns)) c))
theorem cr_setL {X : Cx} (hc : X.calm = true) : CallR X (.type "set") (rSetL X.K X.w) := by
  intro pins s σ H vs us Q I r h
  obtain ⟨l, ns, rfl, hq, hl, q⟩ := h
  rw [Vals.ref1 r]
  obtain ⟨its, rv, pl, hz⟩ := I.list hq
  refine call_set_lstI ns (I.ok.hd hc) pl.isList (by simpa using RZ.intsAre_vals rv) (by unfold scanBound; omega) fun h' tk c R hcn k => ?_
  exact ⟨.ref s.heap.objs.size, upd H s.heap.objs.size (SetO X.w s.heap.objs.size (fun j => decide (j ∈ ns)) c), I.laid (t' := tk) k (Nat.le_refl _) (setO_new R), rfl, q _ c (I.hok.fresh (Nat.le_refl _)) hcn⟩
def uniqI : List Int → List Int
  | [] => []
  | x :: l => if x ∈ uniqI l then uniqI l else x :: uniqI l
theorem mem_uniqI {k : Int} : ∀ {l : List Int}, k ∈ uniqI l ↔ k ∈ l
  | [] => Iff.rfl
  | x :: l => by
    unfold uniqI
    by_cases h : x ∈ uniqI l
    · rw [if_pos h, mem_uniqI, List.mem_cons]
      exact ⟨.inr, fun z => z.elim (fun e => e ▸ mem_uniqI.mp h) id⟩
    · rw [if_neg h, List.mem_cons, List.mem_cons, mem_uniqI]
theorem nd_uniqI : ∀ (l : List Int), (uniqI l).Nodup
  | [] => .nil
  | x :: l => by
    unfold uniqI
    by_cases h : x ∈ uniqI l
    · rw [if_pos h]; exact nd_uniqI l
    · rw [if_neg h]; exact List.nodup_cons.mpr ⟨h, nd_uniqI l⟩
/-- the numbers of a list in order, each once -/
def setI (l : List Int) : List Int := sortI (uniqI l)
theorem mem_setI {k : Int} {l : List Int} : k ∈ setI l ↔ k ∈ l := (sortI_perm (uniqI l)).mem_iff.trans mem_uniqI
theorem inc_setI (l : List Int) : (setI l).Pairwise (· < ·) := by
  have h1 : (setI l).Pairwise (· ≤ ·) := sortI_sorted _
  have h2 : (setI l).Nodup := (sortI_perm (uniqI l)).nodup_iff.mpr (nd_uniqI l)
  exact h1.imp₂ (fun a b h3 h4 => by omega) h2
theorem inc_unique : ∀ {l m : List Int}, l.Pairwise (· < ·) → m.Pairwise (· < ·) → (∀ k, k ∈ l ↔ k ∈ m) → l = m
  | [], [], _, _, _ => rfl
  | [], y :: m, _, _, h => absurd ((h y).mpr List.mem_cons_self) (by simp)
  | x :: l, [], _, _, h => absurd ((h x).mp List.mem_cons_self) (by simp)
  | x :: l, y :: m, hl, hm, h => by
    obtain ⟨l1, l2⟩ := List.pairwise_cons.mp hl
    obtain ⟨m1, m2⟩ := List.pairwise_cons.mp hm
    have e : x = y := by
      rcases List.mem_cons.mp ((h x).mp List.mem_cons_self) with e | e
      · exact e
      · rcases List.mem_cons.mp ((h y).mpr List.mem_cons_self) with e2 | e2
        · exact e2.symm
        · have := l1 y e2
          have := m1 x e
          omega
    subst e
    rw [inc_unique l2 m2 fun k => ?_]
    have hk := h k
    rw [List.mem_cons, List.mem_cons] at hk
    constructor
    · intro z
      rcases hk.mp (.inr z) with e | e
      · have := l1 k z; omega
      · exact e
    · intro z
      rcases hk.mpr (.inr z) with e | e
      · have := m1 k z; omega
      · exact e
def dSortedSet : D → Option D
  | .list ds => (allI ds).bind fun ns => if ns.length < 64 then some (.list ((setI ns).map .int)) else none
  | _ => none
theorem bt_set : bootBuiltins "set" = some (.type "set") := by decide +kernel
section
variable {X : Cx} {K : PySem.W.Frag} {mg : Str → Option Value} {E : XK} {own : List Nat} {a : Expr} {ta : TE} {fa : Ex} {p p2 pos pos2 : Pos}
theorem de_sortedSet (hm : X.mg "sorted" = none) (hm2 : X.mg "set" = none) (hc : X.calm = true) (ha : DC X K mg E own a ta fa) (hg : Gl X "sorted" := by rfl) (hg2 : Gl X "set" := by rfl)
    (he2 : starEach (a :: []) X.env = (false, eval a X.env) :: starEach [] X.env := by rfl) (hpl2 : (backTo pos2 (starEach [] X.env)).any (·.1) = false := by rfl)
    (he : starEach (.Call (.Name "set" p2) [a] [] pos2 :: []) X.env = (false, eval (.Call (.Name "set" p2) [a] [] pos2) X.env) :: starEach [] X.env := by rfl) (hpl : (backTo pos (starEach [] X.env)).any (·.1) = false := by rfl) (hK : X.K = K := by rfl) :
    DE X K mg E own (.Call (.Name "sorted" p) [.Call (.Name "set" p2) [a] [] pos2] [] pos) (tCB (rSortedSet X.w) (tCons (tCB (rSetL K X.w) (tCons ta tNil)) tNil)) (un fa dSortedSet) := by
  subst hK
  refine ⟨pe_callB (cr_sortedSet hc) hg hm bt_sorted (pa_cons (pe_callTy (cr_setL hc) hg2 hm2 bt_set (pa_cons ha.pe pa_nil he2) (by decide) (by decide) he2 hpl2) pa_nil he) (by decide) (by decide) he hpl, fun O H0 ρ σ H Q en w => ?_⟩
  unfold un at w
  rw [resW_bind] at w
  refine ha.ok O H0 ρ σ H _ en (w.mono (Same.refl H) fun d wd v H1 s1 r1 => ?_)
  obtain ⟨z, e1, w2⟩ := OkW.of_some (okW_of wd)
  unfold dSortedSet at e1
  split at e1
  · obtain ⟨ns, e2, e3⟩ := Option.bind_eq_some_iff.mp e1
    split at e3
    · rename_i c
      cases e3
      obtain ⟨l, xs, rfl, q, r⟩ := r1.list_of cut_sub
      refine ⟨l, ns, rfl, by rw [← r.ints e2]; exact .of q, c, fun p c' np hc' => ?_⟩
      refine ⟨p, _, c', rfl, upd_same, by omega, fun ns' q2 hs hm' hl hq => ?_⟩
      have en' : ns' = setI ns := inc_unique hs (inc_setI ns) fun k => by rw [hm', mem_setI]; simp
      subst en'
      have s2 : Same H1 (upd (upd H1 p (SetO X.w p (fun j => decide (j ∈ ns)) c')) q2 (.lst ((setI ns).map V.int))) := (same_new np).trans (same_new hq)
      have nq : ¬ AllA O own σ q2 := (en.domA.same (s1.trans (same_new np))).new hq
      exact w2 _ _ (s1.trans s2) (.lst (cut_new nq) (RAll.ofInts _))
    · cases e3
  · cases e1
end

/-! ### sorted(d.items()) -/
def itemsD (ds : List (D × D)) : List D := ds.map fun p => .tuple [p.1, p.2]
def dSortedItems : D → Option D
  | .dict ds => if isDic ds = true ∧ sortOk (itemsD ds) = true ∧ ds.length ≤ 1000000 then some (.list (sortD (itemsD ds))) else none
  | _ => none
/-- d's value, its items as new pairs, sorted by the data that they stand for -/
def tSI (K : PySem.W.Frag) (td : TE) : TE := fun σ H Q => td σ H fun x H1 => ∃ d kvs ds, x = .ref d ∧ Rd H1 d (.dK kvs) ∧ sortOk ds = true ∧ ds.length ≤ 1000000 ∧ ds.length = kvs.length ∧
  ∀ H2 (as : List Addr), Same H1 H2 → as.length = kvs.length → (∀ t ∈ as, H1 t = none) → (∀ (j : Nat) (t : Addr) (q : Key × V), as[j]? = some t → kvs[j]? = some q → H2 t = some (.tup [kV q.1, q.2])) →
    DpAll K H2 (as.map V.ref) ds ∧ ∀ p, H2 p = none → Q (.ref p) (upd H2 p (.lst ((sortP (as.map V.ref) ds).map Prod.fst)))
theorem each_reads {h : Heap} {us : List Value} {bs : List (V × D)} (e : PySem.W.EachIs (fun v (b : V × D) => ∃ as, PySem.Reads h v b.2 as) us bs) {o : Obj} :
    PySem.W.EachIs (fun v (b : V × D) => ∃ as, PySem.Reads (h.push o) v b.2 as ∧ h.objs.size ∉ as) us bs :=
  e.mono fun v b ⟨as, r⟩ => ⟨as, PyProof.Rows.Reads.keeps (fun c ob q => Heap.get?_push_of_some _ q) r, fun z => by
    obtain ⟨ob, q⟩ := PyProof.On.reads_mem_get r _ z
    exact absurd (Heap.lt_size q) (Nat.lt_irrefl _)⟩
section
variable {X : Cx} {e : Expr} {p pos : Pos}
theorem pe_sortedItems {td : TE} {apos cpos : Pos} (hu : X.A.units + 70 < cLine) (hc : X.calm = true) (hg : Gl X "sorted") (hm : X.mg "sorted" = none) (he : PE X e td) (hbase : attributeBase e "items" X.env (eval e X.env) = eval e X.env := by rfl) (hline : (apos.endLine == cpos.line) = true := by rfl)
    (hs : starEach [.Call (.Attribute e "items" apos) [] [] cpos] X.env = (false, eval (.Call (.Attribute e "items" apos) [] [] cpos) X.env) :: starEach [] X.env := by rfl) (hpl : (backTo pos (starEach [] X.env)).any (·.1) = false := by rfl) :
    PE X (.Call (.Name "sorted" p) [.Call (.Attribute e "items" apos) [] [] cpos] [] pos) (tSI X.K td) := by
  refine ⟨fun pins s σ H Q I h => ?_⟩
  refine wpAny_Call_Name_kw (ld_blt I hg hm bt_sorted ?_ (by decide) (by decide))
  refine PyProof.Rows.callWith_builtin1 ?_ hs hpl
  have arg : wpAny (model X.prog X.w) X.A (eval (.Call (.Attribute e "items" apos) [] [] cpos) X.env) (fun u s1 => ∃ r d kvs vs ep H1 ds, u = .ref r ∧ Inv X pins σ H1 s1 ∧ s1.heap.IsItemsView r d ∧ s1.heap.DictAt (mixKind X.prog X.w) d vs ep ∧ KV kvs vs ∧ kvs.length ≤ sizeLine ∧
      sortOk ds = true ∧ ds.length ≤ 1000000 ∧ ds.length = kvs.length ∧
      ∀ H2 (as : List Addr), Same H1 H2 → as.length = kvs.length → (∀ t ∈ as, H1 t = none) → (∀ (j : Nat) (t : Addr) (q : Key × V), as[j]? = some t → kvs[j]? = some q → H2 t = some (.tup [kV q.1, q.2])) →
        DpAll X.K H2 (as.map V.ref) ds ∧ ∀ p, H2 p = none → Q (.ref p) (upd H2 p (.lst ((sortP (as.map V.ref) ds).map Prod.fst)))) X.xe s := by
    refine wpAny_Call_method (T := "dict") (id := "dict.items") hbase rfl hline PySem.F.plainAttrs_dict PySem.F.slot_dict_items PySem.F.type_dict_items (thn (he.run pins s σ H _ I h) fun u s1 ⟨x, H1, I1, rx, d, kvs, ds, ex, hd, h1, h2, h3, h4⟩ => ?_)
    subst ex
    obtain rfl : u = Value.ref d := rx
    obtain ⟨z, hsys, vs, kv, dd⟩ := dk_rd I1.hok hd
    refine ⟨dd.typeIs, dd.mapOf.noDict, ?_⟩
    obtain ⟨ep, da⟩ := dd.dictAt
    have I2 : Inv X pins σ H1 { s1 with heap := s1.heap.push { cls := .type "dict_items", data := .fields #[.ref d] } } := I1.kept (t' := s1.toks) fun b ob q => Heap.get?_push_of_some _ q
    show wpAny _ _ (callWith cpos (.builtin "dict.items") [.ref d] [] []) _ X.xe s1
    refine method_meetsIn PySem.F.slot_dict_items PySem.F.entry_dict_items rfl (PySem.evalArgs_none ⟨rfl, dd.typeIs, PySem.F.args_dict_items_1 _, _, meets_dict_items (mixKind X.prog X.w) d hsys, ⟨vs, dd⟩, ?_⟩)
    exact ⟨_, d, kvs, vs, ep, H1, ds, rfl, I2, ⟨_, Heap.get?_push_size _ rfl, rfl, rfl⟩, da.push _, kv, z, h1, h2, h3, h4⟩
  rw [hs]
  show wpAny _ _ (spliced ((false, eval (.Call (.Attribute e "items" apos) [] [] cpos) X.env) :: backTo pos (starEach [] X.env))) _ _ s
  refine Calls.spliced_cons (thn arg fun u s1 hh => ?_)
  obtain ⟨r, d, kvs, vs, ep, H1, ds, rfl, I1, hv, da, kv, hz, h1, h2, h3, h4⟩ := hh
  refine Calls.spliced_nil ?_
  obtain ⟨od, es, hod, hcd, hdd, hk, hpr, hn⟩ := da
  have lk : kvs.length = vs.length := Paired.length kv
  have hsz : es.size = vs.length := by rw [← hpr.length]; simp
  refine DT.sortedI (es := es) (ep := ep) (I1.ok.hd hc) hv ⟨od, hod, hcd, hdd⟩ (by omega) fun h' tk as hk' hlt hl hG => ?_
  have I2 : Inv X pins σ H1 { s1 with heap := h', toks := tk } := I1.kept hk'
  have nd : as.Nodup := List.Pairwise.imp (fun {a b} (h : a < b) => Nat.ne_of_lt h) hG.rise
  -- the pairs are tracked
  obtain ⟨H2, I3, keep, tr⟩ := DX.takeT (P := fun b ws => ∃ (j : Nat) (q : Key × V), as[j]? = some b ∧ kvs[j]? = some q ∧ ws = [kV q.1, q.2]) I1 as H1 I2 nd fun b hb => by
    have hlo := hG.above b hb
    refine ⟨Nat.le_of_lt hlo, I1.hok.fresh (Nat.le_of_lt hlo), ?_⟩
    obtain ⟨j, hj⟩ := List.mem_iff_getElem?.mp hb
    obtain ⟨en, he1, hg1⟩ := hG.pairs j b hj
    have hjl : j < vs.length := by
      have := (List.getElem?_eq_some_iff.mp hj).1
      omega
    obtain ⟨⟨k, y⟩, hvj⟩ : ∃ q, vs[j]? = some q := ⟨vs[j], List.getElem?_eq_getElem hjl⟩
    have hen : es.toList[j]? = some en := by rw [Array.getElem?_toList]; exact he1
    obtain ⟨hkey, hval⟩ := hpr.get? hen hvj
    obtain ⟨q, hq, rq⟩ := paired_getR kv hvj
    refine ⟨[kV q.1, q.2], ⟨j, q, hj, hq, rfl⟩, fun H' => ?_⟩
    have rk : RelV (kV q.1) en.key := by
      have : q.1 = k := rq.1
      rw [this]
      exact relV_key (show keyIs k en.key = true from hkey)
    have rv2 : RelV q.2 en.val := by rw [hval]; exact rq.2
    exact ⟨by show 2 ≤ sizeLine; decide, [en.key, en.val], .cons rk (.cons rv2 .nil), ⟨_, hg1, rfl, _, rfl⟩⟩
  have trk : ∀ (j : Nat) (t : Addr) (q : Key × V), as[j]? = some t → kvs[j]? = some q → H2 t = some (.tup [kV q.1, q.2]) := fun j t q hj hq => by
    obtain ⟨ws, ⟨j', q', hj', hq', rfl⟩, ht⟩ := tr t (List.mem_of_getElem? hj)
    have ej : j = j' := (List.getElem?_inj (List.getElem?_eq_some_iff.mp hj).1 nd).mp (hj.trans hj'.symm)
    subst ej
    rw [hq] at hq'
    cases hq'
    exact ht
  obtain ⟨dp, fin⟩ := h4 H2 as (fun b o q => keep b o q) (by omega) (fun t ht => I1.hok.fresh (Nat.le_of_lt (hG.above t ht))) trk
  have rv : Vals (as.map V.ref) (as.map Value.ref) := LiI.vals_refs as
  have hlen : (as.map V.ref).length = ds.length := by rw [List.length_map]; omega
  have hmz : (List.zip (as.map V.ref) ds).map Prod.snd = ds := map_snd_zip' hlen
  have hzl : (List.zip (as.map V.ref) ds).length = ds.length := by rw [List.length_zip, hlen]; omega
  obtain ⟨rs, hr⟩ := Dp.readsAll I3 ds (as.map V.ref) (as.map Value.ref) dp rv
  have er : PySem.W.EachIs (fun v (b : V × D) => ∃ as, PySem.Reads h' v b.2 as) (as.map Value.ref) (List.zip (as.map V.ref) ds) := PySem.W.readsAll_each Prod.snd (by rw [hmz]; exact hr)
  have hob : (h'.push { cls := .type "list", data := .seq (as.map Value.ref).toArray }).get? h'.objs.size = some (PyProof.Rows.seqObj "list" (as.map Value.ref).toArray 0) := Heap.get?_push_size _ rfl
  refine PySem.W.list_sort_data (vs := as.map Value.ref) (bs := List.zip (as.map V.ref) ds) (enc := Prod.snd) (R := fun (u : Value) (b : V × D) => RelV b.1 u) hob (each_zip rv hlen) (each_reads er) (by rw [hmz]; exact sortOk_alike h1) (by rw [hmz]; exact sortOk_kind h1) (by rw [hzl, sizeLine_eq]; omega) (fun b hb => ?_) fun out ho eo => ?_
  · have hd : b.2 ∈ ds := by rw [← hmz]; exact List.mem_map.mpr ⟨b, hb, rfl⟩
    have := shaped_list_depth (sortOk_shaped h1) hd
    show X.A.units + 1 + 1 + _ < cLine
    omega
  · obtain ⟨ep2, he'⟩ := PyProof.Rows.sortedHeap_at (vs := as.map Value.ref) (out := out.toArray) hob
    have hl2 : ((sortP (as.map V.ref) ds).map Prod.fst).length ≤ sizeLine := by
      unfold sortP
      rw [List.length_map, List.length_mergeSort, hzl, sizeLine_eq]
      omega
    have kp : ∀ b u, h'.get? b = some u → (PyProof.Rows.sortedHeap (h'.push { cls := .type "list", data := .seq (as.map Value.ref).toArray }) h'.objs.size (as.map Value.ref) out.toArray).get? b = some u := fun b u q => by
      have hlt := Heap.lt_size q
      rw [PyProof.Rows.sortedHeap_old (Nat.ne_of_lt hlt) (by rw [Heap.size_push]; exact Nat.lt_succ_of_lt hlt)]
      exact Heap.get?_push_of_some _ q
    have hn2 : H2 h'.objs.size = none := I3.hok.fresh (Nat.le_refl _)
    exact ⟨.ref h'.objs.size, upd H2 h'.objs.size (.lst ((sortP (as.map V.ref) ds).map Prod.fst)), I3.laid (t' := tk) (fun b u q => kp b u q) (Nat.le_refl _) ⟨hl2, out, ep2, each_vals eo, he'⟩, rfl, fin _ hn2⟩
end
theorem RAll.items {K : PySem.W.Frag} {C H2 : Hp} (s : Same C H2) : ∀ {kvs : List (Key × V)} {ds : List (D × D)}, RKV K C kvs ds → ∀ {as : List Addr}, as.length = kvs.length → (∀ (j : Nat) (t : Addr) (q : Key × V), as[j]? = some t → kvs[j]? = some q → H2 t = some (.tup [kV q.1, q.2])) → RAll K H2 (as.map V.ref) (itemsD ds)
  | _, _, .nil, [], _, _ => .nil
  | _, _, .nil, _ :: _, hl, _ => by cases hl
  | _, _, .cons _ _, [], hl, _ => by cases hl
  | _, _, .cons (k := k) (v := v) (d := d) r t, a :: as, hl, h => by
    have h0 := h 0 a (k, v) rfl rfl
    refine .cons (.tup (.inl (.inl h0)) (.cons ?_ (.cons (r.mono s) .nil))) (RAll.items s t (as := as) (by simpa using hl) fun j u q hj hq => h (j + 1) u q (by simpa using hj) (by simpa using hq))
    cases k with
    | inl i => exact .int i
    | inr x => exact .str x
section
variable {X : Cx} {K : PySem.W.Frag} {mg : Str → Option Value} {E : XK} {own : List Nat} {e : Expr} {p pos : Pos}
theorem de_sortedItems {k : Nat} {td : TE} {fd : Ex} {apos cpos : Pos} (hr : Room k X.A) (hm : X.mg "sorted" = none) (hc : X.calm = true) (he : DC X K mg E own e td fd) (hg : Gl X "sorted" := by rfl) (hbase : attributeBase e "items" X.env (eval e X.env) = eval e X.env := by rfl) (hline : (apos.endLine == cpos.line) = true := by rfl)
    (hs : starEach [.Call (.Attribute e "items" apos) [] [] cpos] X.env = (false, eval (.Call (.Attribute e "items" apos) [] [] cpos) X.env) :: starEach [] X.env := by rfl) (hpl : (backTo pos (starEach [] X.env)).any (·.1) = false := by rfl) (hK : X.K = K := by rfl) :
    DE X K mg E own (.Call (.Name "sorted" p) [.Call (.Attribute e "items" apos) [] [] cpos] [] pos) (tSI K td) (un fd dSortedItems) := by
  subst hK
  refine ⟨pe_sortedItems (hu70 hr) hc hg hm he.pe hbase hline hs hpl, fun O H0 ρ σ H Q en w => ?_⟩
  unfold un at w
  rw [resW_bind] at w
  refine he.ok O H0 ρ σ H _ en (w.mono (Same.refl H) fun d wd v H1 s1 r1 => ?_)
  obtain ⟨z, e1, w2⟩ := OkW.of_some (okW_of wd)
  unfold dSortedItems at e1
  split at e1
  · rename_i ds
    split at e1
    · rename_i c
      obtain ⟨c1, c2, c3⟩ := c
      cases e1
      obtain ⟨a, kvs, rfl, q, r⟩ := r1.dict_of cut_sub c1
      have il : (itemsD ds).length = ds.length := by unfold itemsD; rw [List.length_map]
      refine ⟨a, kvs, itemsD ds, rfl, q, c2, by omega, by rw [il, r.length], fun H2 as s2 hl hnew ht => ?_⟩
      -- at the heap with the pairs, cut
      have dom2 := en.domA.same (s1.trans s2)
      have tup : RAll X.K H2 (as.map V.ref) (itemsD ds) := RAll.items (cut_sub.trans s2) r hl ht
      have hcl : PyData.canLayAll0 (itemsD ds) = true := by
        have := SeqAt.canLay_of_shaped (sortOk_shaped c2)
        simpa [PyData.canLay0] using this
      have dom1 := en.domA.same s1
      have tupC : RAll X.K (Cut (AllA O own σ) H2) (as.map V.ref) (itemsD ds) := RAll.items (cut_same s2) r hl fun j t q hj hq => by
        rw [cut_out (dom1.new (hnew t (List.mem_of_getElem? hj)))]
        exact ht j t q hj hq
      refine ⟨tup.dp hcl, fun p np => ?_⟩
      exact w2 _ _ ((s1.trans s2).trans (same_new np)) (.lst (cut_new (dom2.new np)) (tupC.sortP.mono (cut_same (same_new np))))
    · cases e1
  · cases e1
end
end DL
end

section
set_option Elab.async false
set_option linter.all false
set_option maxRecDepth 100000
set_option maxHeartbeats 4000000
set_option autoImplicit false
/-! DL16: enumerate of a list, of a tuple. -/
namespace DL
open PySem PySem.Spec PyProof.Rows L2 RZ
theorem meets_enum1 {v : Value} {o : Obj} {H : Heap → Prop} (B : Begins v o H) :
    Meets (Builtin.«enumerate.__new__» ⟨[.type "enumerate", v], []⟩) (fun _ R s => H s.heap ∧
      R (.ok (.ret (.ref (s.heap.push o).objs.size))) { s with heap := (s.heap.push o).push { cls := .type "enumerate", data := .fields #[.none, .bool false, .ref s.heap.objs.size, rawInt 0, .none, .none] } }) :=
  .of_wp fun prog w A R s h => by
    obtain ⟨hp, g, d, tk, os⟩ := s; obtain ⟨h1, h⟩ := h
    have hsub := sub_enumerate
    have q1 : ∀ {A' : Around} {E : Value → Shared → Prop} {Q : Value → Shared → Prop}, Q (.ref hp.objs.size) ⟨hp.push o, g, d, tk, os⟩ → wpAny (model prog w) A' (pyIter v) Q E ⟨hp, g, d, tk, os⟩ :=
      fun q => B.iter prog w _ _ ⟨hp, g, d, tk, os⟩ _ h1 q
    wp_walk using q1
    refine wpAny_stack_any fun st => wpAny_pure ?_
    split
    · rename_i c _ _ _ _ _
      cases (c == Value.type "enumerate")
      · wp_walk using q1
        exact ⟨_, rfl, h⟩
      · wp_walk using q1
        exact ⟨_, rfl, h⟩
    · wp_walk using q1
      exact ⟨_, rfl, h⟩
theorem enum_begins1 {prog : Program} {w : World} {A : Around} {E : Value → Shared → Prop} {s : Shared} {v : Value} {o : Obj} {H : Heap → Prop} {Q : Value → Shared → Prop} (B : Begins v o H) (h1 : H s.heap)
    (h : ∀ h', IsEnum h' (s.heap.objs.size + 1) s.heap.objs.size 0 .none → h'.get? s.heap.objs.size = some o → h'.objs.size = s.heap.objs.size + 2 →
      (∀ b o, s.heap.get? b = some o → h'.get? b = some o) → Q (.ref (s.heap.objs.size + 1)) { s with heap := h' }) :
    wpAny (model prog w) A (call (.type "enumerate") [v]) Q E s := by
  refine callType_new F.called_enumerate (by decide) (F.typeCall_enumerate_1 _) (F.newCall_enumerate_1 _) (fun obj => F.args_object_init_2 obj _) F.entry_enumerate_new
    (meets_enum1 B) ⟨h1, ?_⟩
  have hz : (s.heap.push o).objs.size = s.heap.objs.size + 1 := Heap.size_push ..
  show _ ∧ _
  rw [hz]
  have he : IsEnum ((s.heap.push o).push { cls := .type "enumerate", data := .fields #[.none, .bool false, .ref s.heap.objs.size, rawInt 0, .none, .none] }) (s.heap.objs.size + 1) s.heap.objs.size 0 .none := by
    have := Heap.get?_push_size (s.heap.push o) (o := { cls := .type "enumerate", data := .fields #[.none, .bool false, .ref s.heap.objs.size, rawInt 0, .none, .none] }) rfl
    rw [hz] at this; exact this
  refine ⟨⟨_, he, rfl⟩, h _ he (Heap.get?_push_of_some _ (Heap.get?_push_size _ B.free)) (by rw [Heap.size_push, hz]) fun b o x => Heap.get?_push_of_some _ (Heap.get?_push_of_some _ x)⟩

/-- the tuple at a, each item in a new pair with its number -/
def IteT (K : PySem.W.Frag) (a : Addr) : It where
  go := fun i H => ∃ (xs : List V) (x : V), SqT K H a xs ∧ xs[i]? = some x
  yld := fun i H v H' => ∃ T x, v = .ref T ∧ H T = none ∧ H' = upd H T (.tup [.int (i : Nat), x]) ∧ ∀ xs, SqT K H a xs → xs[i]? = some x
  stop := fun i H => ∃ xs : List V, SqT K H a xs ∧ i = xs.length
theorem turn_enumT {P : Program} {w : World} {K : PySem.W.Frag} {elts : List Expr} {kk : Nat} {tpos : Pos} (a e it : Addr) (hei : e ≠ it) (hea : e ≠ a) (hai : a ≠ it) :
    Turn P w K (.Tuple elts kk tpos) (IteT K a) [e, it] e (fun i h => (∃ old, IsEnum h e it ((i : Nat) : Int) old) ∧ h.IsTupleIter it a i) where
  mem := by simp
  obj := fun i h st b hb => by
    obtain ⟨⟨old, he⟩, ⟨o, ho, hc, hd⟩⟩ := st
    have e' : b = e ∨ b = it := by simpa using hb
    rcases e' with z | z
    · rw [z]; exact ⟨_, he, fun v q => nomatch q⟩
    · rw [z]; exact ⟨o, ho, fun v q => by rw [hd] at q; cases q⟩
  keep := fun i h h' st k => let ⟨⟨old, he⟩, hi⟩ := st; ⟨⟨old, k e (by simp) _ he⟩, hi.at fun o q => k it (by simp) o q⟩
  item := by
    intro X hP hw hK hc i pins s σ H E I hf st hg
    subst hP hw hK
    obtain ⟨⟨old, he⟩, hit⟩ := st
    obtain ⟨xs, x, hq, hx⟩ := hg
    obtain ⟨its, rv, p, hz⟩ := I.tuple hq
    obtain ⟨u, hu, ru⟩ := rv.get hx
    have hel : e < s.heap.objs.size := Heap.lt_size he
    have hil : it < s.heap.objs.size := by obtain ⟨_, q, _⟩ := hit; exact Heap.lt_size q
    have hd : X.A.in1.handled = none := I.ok.hd hc
    have hpa : s.heap.IsTuple a its.toArray := p
    have hu' : its.toArray[i]? = some u := by simpa using hu
    refine wpAny_pyNext_enum_itemC (Draws.tuple hd it a hai its.toArray) he ⟨hit, hpa⟩ (Array.getElem?_eq_some_iff.mp hu').1 hei (by simp [hei, hea]) fun x2 h' tk hx2 ho st2 hT hsz hk => ?_
    rw [hu'] at hx2
    cases hx2
    refine ⟨_, rfl, wpAny_letOwnedTupleGo_enum (s := { s with heap := h', toks := tk + 1 }) ho fun h'' he' sb => ?_⟩
    have hT2 : h''.get? s.heap.objs.size = some { cls := .type "tuple", data := .seq #[.int i tk, u] } := (sb.2 _ (Nat.ne_of_gt hel)).trans hT
    have new : ObjOk X.prog X.w (upd H s.heap.objs.size (.tup [.int (i : Nat), x])) h'' s.heap.objs.size (.tup [.int (i : Nat), x]) :=
      ⟨by show 2 ≤ sizeLine; decide, [.int i tk, u], .cons ⟨_, rfl⟩ (.cons ru .nil), ⟨_, hT2, rfl, _, rfl⟩⟩
    have I1 : Inv X pins σ (upd H s.heap.objs.size (.tup [.int (i : Nat), x])) { s with heap := h'', toks := tk + 1 } :=
      I.turnedNew (ch := [e, it]) (fun b ob hb q => (sb.2 b (fun z => hb (by simp [z]))).trans (hk b ob (fun z => hb (by simp [z])) (fun z => hb (by simp [z])) q)) hf (Nat.le_refl _) new
    refine ⟨.ref s.heap.objs.size, _, I1, rfl, ⟨_, x, rfl, I.hok.fresh (Nat.le_refl _), rfl, fun ys hy => by rw [I.tuple_inj hy hq]; exact hx⟩, ⟨⟨u, ?_⟩, st2.1.at fun o q => (sb.2 it (Ne.symm hei)).trans q⟩, fun b hb => ?_⟩
    · have e1 : ((i + 1 : Nat) : Int) = (i : Int) + 1 := by omega
      rw [e1]; exact he'
    · have hb' : b < s.heap.objs.size := by
        have e' : b = e ∨ b = it := by simpa using hb
        rcases e' with z | z
        · rw [z]; exact hel
        · rw [z]; exact hil
      rw [upd_ne (Nat.ne_of_lt hb')]
      exact (hf b hb).1
  done := by
    intro X hP hw hK hc i pins s σ H E I hf st hg
    subst hP hw hK
    obtain ⟨⟨old, he⟩, hit⟩ := st
    obtain ⟨xs, hq, rfl⟩ := hg
    obtain ⟨its, rv, p, hz⟩ := I.tuple hq
    obtain ⟨f0, f1, f2, f3, f4, f5⟩ := hf it (by simp)
    have hd : X.A.in1.handled = none := I.ok.hd hc
    have hpa : s.heap.IsTuple a its.toArray := p
    have hl : its.toArray.size = xs.length := by rw [List.size_toArray, ← rv.length]
    refine wpAny_pyNext_enum_endD (Draws.tuple hd it a hai its.toArray) he (by rw [hl]; exact ⟨hit, hpa⟩) fun h' eb => ⟨rfl, I.turned (t' := s.toks) (fun b o hb q => eb b o hb q) f0 f1 f3 f4 f5⟩
  self := fun A i s Q E st h => let ⟨⟨_, he⟩, _⟩ := st; wpAny_pyIter_enum he h
def iEnumT (K : PySem.W.Frag) (ta : TA) : TI := fun σ H R => ta σ H fun vs H1 => ∃ a xs, vs = [.ref a] ∧ SqT K H1 a xs ∧ R (IteT K a) H1
theorem pi_enumT {X : Cx} {e : Expr} {ta : TA} {p pos tpos : Pos} {elts : List Expr} {kk : Nat} (hg : Gl X "enumerate") (hm : X.mg "enumerate" = none) (ha : PA X [e] ta) (hs : starEach [e] X.env = [(false, eval e X.env)] := by rfl) :
    PI X (.Tuple elts kk tpos) (.Call (.Name "enumerate" p) [e] [] pos) (iEnumT X.K ta) := by
  refine ⟨fun pins s σ H R I h => ?_⟩
  refine Call_ (ld_blt I hg hm boot_enumerate (PyProof.Rows.callWith_type1 (thn (ha.run pos pins s σ H _ I h) fun us s1 ⟨vs, H1, I1, r1, q1⟩ => ?_) hs rfl))
  obtain ⟨a, xs, ex, hq, q⟩ := q1
  subst ex
  cases r1 with
  | cons r rr =>
    cases rr
    cases r
    obtain ⟨its, rv, p', hz⟩ := I1.tuple hq
    obtain ⟨o1, ho1, _⟩ := id p'
    have la := Heap.lt_size ho1
    have hpa : s1.heap.IsTuple a its.toArray := p'
    refine enum_begins1 (begins_tuple a its.toArray) hpa fun h' he hit hsz hk => wpAny_pyIter_enum he ?_
    have I2 : Inv X pins σ H1 { s1 with heap := h' } := I1.kept (t' := s1.toks) hk
    refine ⟨s1.heap.objs.size + 1, [s1.heap.objs.size + 1, s1.heap.objs.size], _, _, H1, rfl, I2, turn_enumT a (s1.heap.objs.size + 1) s1.heap.objs.size (Nat.succ_ne_self _) (Nat.ne_of_gt (Nat.lt_succ_of_lt la)) (Nat.ne_of_lt la), ⟨⟨.none, he⟩, ⟨_, hit, rfl, rfl⟩⟩, fun b hb => ?_, q⟩
    have e' : b = s1.heap.objs.size + 1 ∨ b = s1.heap.objs.size := by simpa using hb
    have hle : s1.heap.objs.size ≤ b := by
      rcases e' with z | z
      · rw [z]; exact Nat.le_add_right _ _
      · rw [z]; exact Nat.le_refl _
    exact I1.fpOk hle (I1.hok.fresh hle)
section
variable {X : Cx} {K : PySem.W.Frag} {mg : Str → Option Value} {E : XK} {own : List Nat} {a : Expr} {ta : TE} {fa : Ex} {p pos : Pos}
theorem itOk_enumT {Hb : Hp} {l : Addr} {xs : List V} {ds : List D} (q : SqT K Hb l xs) (r : RAll K Hb xs ds) : ItOk K Hb (IteT K l) (zipD ((List.range ds.length).map fun i => .int (i : Nat)) ds) := by
  have hl : (zipD ((List.range ds.length).map fun i : Nat => PyData.int (i : Nat)) ds).length = ds.length := by rw [zipD_len, List.length_map, List.length_range]; omega
  refine ⟨fun i H hi s => ?_, fun H s => ⟨xs, sqT_same s q, by rw [hl, r.length]⟩, fun i d x H H' hd s y => ?_⟩
  · rw [hl] at hi
    have h1 : i < xs.length := by rw [r.length]; omega
    exact ⟨xs, xs[i], sqT_same s q, by simp [h1]⟩
  · obtain ⟨T, x1, rfl, nT, rfl, f1⟩ := y
    obtain ⟨d1, d2, e1, e2, rfl⟩ := zipD_get hd
    obtain ⟨v2, g2, rv2⟩ := r.get e2
    have z1 := f1 xs (sqT_same s q); rw [g2] at z1; cases z1
    rw [List.getElem?_map] at e1
    obtain ⟨j, e3, rfl⟩ := Option.map_eq_some_iff.mp e1
    have hi : i < ds.length := (List.getElem?_eq_some_iff.mp e2).1
    rw [List.getElem?_range hi] at e3
    cases e3
    refine ⟨same_new nT, fun A dm ha => .tup (.inl (.inl (cut_new (dm.new nT)))) (.cons (.int _) (.cons (rv2.mono ?_) .nil))⟩
    intro b o h
    have h' := (s.trans (same_new (o := .tup [.int (i : Nat), x1]) nT)) b o h
    rw [cut_out]
    · exact h'
    · intro z
      rw [ha b z] at h
      cases h
theorem itOk_enumL {Hb : Hp} {l : Addr} {xs : List V} {ds : List D} (q : Hb l = some (.lst xs)) (r : RAll K Hb xs ds) : ItOk K Hb (Ite K l) (zipD ((List.range ds.length).map fun i => .int (i : Nat)) ds) := by
  have hl : (zipD ((List.range ds.length).map fun i : Nat => PyData.int (i : Nat)) ds).length = ds.length := by rw [zipD_len, List.length_map, List.length_range]; omega
  refine ⟨fun i H hi s => ?_, fun H s => ⟨xs, .of (s _ _ q), by rw [hl, r.length]; exact Nat.le_refl _⟩, fun i d x H H' hd s y => ?_⟩
  · rw [hl] at hi
    have h1 : i < xs.length := by rw [r.length]; omega
    exact ⟨xs, xs[i], .of (s _ _ q), by simp [h1]⟩
  · obtain ⟨T, x1, rfl, nT, rfl, f1⟩ := y
    obtain ⟨d1, d2, e1, e2, rfl⟩ := zipD_get hd
    obtain ⟨v2, g2, rv2⟩ := r.get e2
    have z1 := f1 xs (.of (s _ _ q)); rw [g2] at z1; cases z1
    rw [List.getElem?_map] at e1
    obtain ⟨j, e3, rfl⟩ := Option.map_eq_some_iff.mp e1
    have hi : i < ds.length := (List.getElem?_eq_some_iff.mp e2).1
    rw [List.getElem?_range hi] at e3
    cases e3
    refine ⟨same_new nT, fun A dm ha => .tup (.inl (.inl (cut_new (dm.new nT)))) (.cons (.int _) (.cons (rv2.mono ?_) .nil))⟩
    intro b o h
    have h' := (s.trans (same_new (o := .tup [.int (i : Nat), x1]) nT)) b o h
    rw [cut_out]
    · exact h'
    · intro z
      rw [ha b z] at h
      cases h
theorem di_enum {elts : List Expr} {kk : Nat} {tpos : Pos} (hg : Gl X "enumerate") (hm : X.mg "enumerate" = none) (ha : DE X K mg E own a ta fa) (he : starEach (a :: []) X.env = (false, eval a X.env) :: starEach [] X.env := by rfl) (hs : starEach [a] X.env = [(false, eval a X.env)] := by rfl) (hK : X.K = K := by rfl) :
    DI X K mg E own (.Tuple elts kk tpos) (.Call (.Name "enumerate" p) [a] [] pos) (fun σ H W => iEnum K (tCons ta tNil) σ H W ∨ iEnumT K (tCons ta tNil) σ H W) (itE fa) := by
  subst hK
  refine ⟨PI.or (pi_enum hg hm (pa_cons ha.pe pa_nil he) hs) (pi_enumT hg hm (pa_cons ha.pe pa_nil he) hs), fun O H0 ρ σ H W e w => ?_⟩
  unfold itE at w
  cases q : fa ρ with
  | exc c =>
    rw [q] at w
    exact .inl (ha.ok O H0 ρ σ H _ e (by rw [q]; exact w))
  | bad => rw [q] at w; exact w.elim
  | ok d =>
    rw [q] at w
    cases d with
    | list ds =>
      refine .inl (ha.ok O H0 ρ σ H _ e ?_)
      rw [q]
      intro v H1 s1 r1
      obtain ⟨l, xs, rfl, q, r⟩ := r1.list_of
      exact ⟨l, xs, rfl, .of (cut_sub _ _ q), w _ H1 s1 (itOk_enumL q r)⟩
    | tuple ds =>
      refine .inr (ha.ok O H0 ρ σ H _ e ?_)
      rw [q]
      intro v H1 s1 r1
      obtain ⟨l, xs, rfl, q, r⟩ := r1.tuple_of
      exact ⟨l, xs, rfl, sqT_same cut_sub q, w _ H1 s1 (itOk_enumT q r)⟩
    | none => exact w.elim
    | bool _ => exact w.elim
    | int _ => exact w.elim
    | str _ => exact w.elim
    | dict _ => exact w.elim
end
end DL
end

section
set_option Elab.async false
set_option linter.all false
set_option maxRecDepth 100000
set_option maxHeartbeats 2000000
set_option autoImplicit false
/-! DL17: a new tuple that is known to its object; dict(a tuple of pairs). -/
namespace DL
open PySem PySem.Spec PyProof.Rows L2

/-- a new tuple, known to its object, which has no dict -/
def TupR (K : PySem.W.Frag) (C H : Hp) (a : Addr) (d : D) : Prop := ∃ (o : Obj) (xs : List V) (ds : List D), d = .tuple ds ∧ H a = some (.frz o (.tup xs)) ∧ o.cls = .type "tuple" ∧ o.dict = none ∧ RAll K C xs ds
theorem tupR_R {K : PySem.W.Frag} {A : Addr → Prop} {p : Addr} {H : Hp} {d : D} (h : TupR K (Cut (Plus A p) H) H p d) (n : ¬ A p) : R K (Cut A H) (.ref p) d := by
  obtain ⟨o, xs, ds, rfl, q, _, _, r⟩ := h
  exact .tup (.inl (.inr ⟨o, by rw [cut_out n]; exact q⟩)) (r.mono plus_sub)
theorem TupR.mono {K : PySem.W.Frag} {C C' H : Hp} {a : Addr} {d : D} (s : Same C C') (r : TupR K C H a d) : TupR K C' H a d := by
  obtain ⟨o, xs, ds, e, q, c, dd, r⟩ := r
  exact ⟨o, xs, ds, e, q, c, dd, r.mono s⟩
def TUok (K : PySem.W.Frag) (mg : Str → Option Value) (E : XK) (own : List Nat) (t : TE) (f : Ex) : Prop :=
  ∀ (O : Addr → Prop) (H0 : Hp) (ρ : Rho) (σ : L2.St) (H : Hp) (Q : VK), EnvOk K O H0 own ρ σ H →
    ResW mg E H (fun d => ∀ p H', Same H H' → H p = none → TupR K (Cut (Plus (AllA O own σ) p) H') H' p d → Q (.ref p) H') (f ρ) → t σ H Q
structure DU (X : Cx) (K : PySem.W.Frag) (mg : Str → Option Value) (E : XK) (own : List Nat) (e : Expr) (t : TE) (f : Ex) : Prop where
  pe : PE X e t
  ok : TUok K mg E own t f

/-! ### tuple(a new list) -/
def rTupU (K : PySem.W.Frag) : List V → Hp → VK → Prop := fun xs H Q => ∃ p ys, xs = [.ref p] ∧ SqL K H p ys ∧ ∀ l o, H l = none → o.cls = .type "tuple" → o.dict = none → Q (.ref l) (upd H l (.frz o (.tup ys)))
theorem call_tupU {X : Cx} : CallR X (.type "tuple") (rTupU X.K) := by
  intro pins s σ H xs us Q I r h
  obtain ⟨p, ys, rfl, hq, q⟩ := h
  obtain ⟨u, rfl, rx⟩ := vals1 r
  cases rx
  obtain ⟨its, r', pl, hz⟩ := I.list hq
  have hlen := r'.length
  refine call_tuple_list pl.isList (fun h' kp => ?_) (by simp only [List.size_toArray] <;> omega)
  have I1 : Inv X pins σ H { s with heap := h' } := I.kept (t' := s.toks) kp
  have I2 : Inv X pins σ (upd H h'.objs.size (.frz { cls := .type "tuple", data := .seq its.toArray } (.tup ys))) { s with heap := h'.push { cls := .type "tuple", data := .seq its.toArray } } :=
    I1.laid (t' := s.toks) (fun b o e => Heap.get?_push_of_some _ e) (Nat.le_refl _) (show ObjOk X.prog X.w _ _ _ (.frz _ (.tup ys)) from ⟨Heap.get?_push_size _ rfl, hz, its, r', IsTup.new _ _⟩)
  exact ⟨.ref h'.objs.size, _, I2, rfl, q _ _ (I1.hok.fresh (Nat.le_refl _)) rfl rfl⟩
section
variable {X : Cx} {K : PySem.W.Frag} {mg : Str → Option Value} {E : XK} {own own' : List Nat} {a : Expr} {ta : TE} {fa : Ex} {p pos : Pos}
theorem du_tuple (hm : X.mg "tuple" = none) (ha : DF X K mg E own a ta fa) (hg : Gl X "tuple" := by rfl) (he : starEach (a :: []) X.env = (false, eval a X.env) :: starEach [] X.env := by rfl) (hpl : (backTo pos (starEach [] X.env)).any (·.1) = false := by rfl) (hK : X.K = K := by rfl) :
    DU X K mg E own (.Call (.Name "tuple" p) [a] [] pos) (tCB (rTupU K) (tCons ta tNil)) (un fa dTuple) := by
  subst hK
  refine ⟨pe_callTy call_tupU hg hm bt_tuple (pa_cons ha.pe pa_nil he) (by decide) (by decide) he hpl, fun O H0 ρ σ H Q en w => ?_⟩
  unfold un at w
  rw [resW_bind] at w
  refine ha.ok O H0 ρ σ H _ en (w.mono (Same.refl H) fun d wd q H1 s1 nq r1 => ?_)
  cases r1 with
  | lst hq r =>
    rename_i vs ds
    refine ⟨q, vs, rfl, .of hq, fun l o nl hc hd => ?_⟩
    have nl0 : H l = none := s1.free nl
    refine wd l _ (s1.trans (same_new nl)) nl0 ⟨o, vs, ds, rfl, upd_same, hc, hd, r.mono fun b u z => ?_⟩
    obtain ⟨c, e⟩ := cut_some z
    have ne : b ≠ l := ne_of_none e nl
    rw [cut_out, upd_ne ne]
    · exact e
    · rintro (z | z)
      · exact c (.inl z)
      · exact ne z
  | dic hq r => exact wd.elim
end
/-! ### dict(a new tuple of pairs), the keys ints, each one once -/
def pairsI : List D → Option (List (Int × D))
  | [] => some []
  | .tuple [.int k, v] :: r => (pairsI r).map ((k, v) :: ·)
  | _ => none
def dDictP : D → Option D
  | .tuple ds => (pairsI ds).bind fun l => if (l.map (·.1)).Nodup then some (.dict (l.map fun p => (.int p.1, p.2))) else none
  | _ => none
theorem pairsI_map {α : Type} (k : α → Int) (v : α → D) (l : List α) : pairsI (l.map fun a => .tuple [.int (k a), v a]) = some (l.map fun a => (k a, v a)) := by
  induction l with
  | nil => rfl
  | cons a l ih =>
    show (pairsI (l.map fun a => .tuple [.int (k a), v a])).map _ = _
    rw [ih]
    rfl
theorem pairsI_cons {d : D} {ds : List D} {l : List (Int × D)} (h : pairsI (d :: ds) = some l) : ∃ k v l', d = .tuple [.int k, v] ∧ pairsI ds = some l' ∧ l = (k, v) :: l' := by
  unfold pairsI at h
  split at h
  · rename_i q; cases q
  · rename_i k v r q
    cases q
    obtain ⟨l', e, e2⟩ := Option.map_eq_some_iff.mp h
    exact ⟨_, _, l', rfl, e, e2.symm⟩
  · cases h
theorem pairs_ex {K : PySem.W.Frag} {C : Hp} : ∀ (xs : List V) (ds : List D) (l : List (Int × D)), RAll K C xs ds → pairsI ds = some l →
    ∃ ts : List (Addr × Int × V), xs = ts.map (fun t => V.ref t.1) ∧ l.map (·.1) = ts.map (·.2.1) ∧ (∀ t, t ∈ ts → SqT K C t.1 [.int t.2.1, t.2.2]) ∧ RKV K C (ts.map fun t => ((.inl t.2.1 : Key), t.2.2)) (l.map fun p => (PyData.int p.1, p.2)) := by
  intro xs
  induction xs with
  | nil =>
    intro ds l r h
    cases r
    have e : l = [] := by
      have h : some ([] : List (Int × D)) = some l := h
      exact (Option.some.inj h).symm
    subst e
    exact ⟨[], rfl, rfl, (fun t m => by cases m), .nil⟩
  | cons x xs ih =>
    intro ds l r h
    cases r with
    | cons r t =>
      rename_i d ds
      obtain ⟨k, v, l', rfl, e, rfl⟩ := pairsI_cons h
      obtain ⟨ts, rfl, e2, hT, hr⟩ := ih _ _ t e
      obtain ⟨a, ys, rfl, q, ry⟩ := r.tuple_of
      cases ry with
      | cons ry rz =>
        cases rz with
        | cons rz rn =>
          cases rn
          have ey := ry.int_of
          subst ey
          refine ⟨(a, k, _) :: ts, rfl, ?_, ?_, .cons rz hr⟩
          · rw [List.map_cons, List.map_cons, e2]
          · intro t m
            rcases List.mem_cons.mp m with rfl | m
            · exact q
            · exact hT t m
def rDictP (K : PySem.W.Frag) : List V → Hp → VK → Prop := fun xs H Q => ∃ p o, ∃ ts : List (Addr × Int × V), xs = [.ref p] ∧ H p = some (.frz o (.tup (ts.map fun t => V.ref t.1))) ∧ o.cls = .type "tuple" ∧ o.dict = none ∧ (∀ t, t ∈ ts → SqT K H t.1 [.int t.2.1, t.2.2]) ∧ (ts.map (·.2.1)).Nodup ∧
  ∀ l, H l = none → Q (.ref l) (upd H l (.dK (ts.map fun t => ((.inl t.2.1 : Key), t.2.2))))
theorem bt_dict : bootBuiltins "dict" = some (.type "dict") := by decide +kernel
theorem pairs_at {X : Cx} {pins : List (Addr × Obj)} {s : Shared} {σ : L2.St} {H : Hp} (I : Inv X pins σ H s) (ts : List (Addr × Int × V)) : (∀ t, t ∈ ts → SqT X.K H t.1 [.int t.2.1, t.2.2]) →
    ∃ (ps : List (Value × Value)) (kvs : List (Key × Value)), ps.length = ts.length ∧ kvs.length = ts.length ∧ KV (ts.map fun t => ((.inl t.2.1 : Key), t.2.2)) kvs ∧ kvs.map (·.1) = ts.map (fun t => (.inl t.2.1 : Key)) ∧
      ∀ (j : Nat) (k v : Value), ps[j]? = some (k, v) → ∃ t : Addr × Int × V, ts[j]? = some t ∧ PairAt s.heap t.1 k v ∧ ∃ k', kvs[j]? = some (k', v) ∧ (mixKind X.prog X.w).is k' k = true := by
  induction ts with
  | nil => exact fun _ => ⟨[], [], rfl, rfl, .nil, rfl, fun j k v h => by simp at h⟩
  | cons t ts ih =>
    intro h
    obtain ⟨ps, kvs, l1, l2, kv, ke, hj⟩ := ih fun u m => h u (List.mem_cons_of_mem _ m)
    obtain ⟨its, r, it, _⟩ := I.tuple (h t List.mem_cons_self)
    cases r with
    | cons ru rr =>
      cases rr with
      | cons rv rn =>
        cases rn
        obtain ⟨tk, eu⟩ := ru
        subst eu
        rename_i v
        refine ⟨(.int t.2.1 tk, v) :: ps, (.inl t.2.1, v) :: kvs, by rw [List.length_cons, List.length_cons, l1], by rw [List.length_cons, List.length_cons, l2], .cons ⟨rfl, rv⟩ kv, by rw [List.map_cons, List.map_cons, ke], ?_⟩
        intro j k w hw
        cases j with
        | zero =>
          have hw : some (Value.int t.2.1 tk, v) = some (k, w) := hw
          cases hw
          exact ⟨t, rfl, .inl it, .inl t.2.1, rfl, mixKind_int _ _ _ _⟩
        | succ j => exact hj j k w hw
theorem call_dictP {X : Cx} (hc : X.calm = true) : CallR X (.type "dict") (rDictP X.K) := by
  intro pins s σ H xs us Q I r h
  obtain ⟨p, o, ts, rfl, hp, ho, hd, hT, hn, q⟩ := h
  obtain ⟨u, rfl, rx⟩ := vals1 r
  cases rx
  obtain ⟨hg, hz, its, r', o', e', _, n, hdat⟩ := I.hok p _ hp
  rw [hg] at e'
  cases e'
  have hlen : its.length = ts.length := by rw [← r'.length, List.length_map]
  rw [List.length_map] at hz
  obtain ⟨ps, kvs, l1, l2, kv, ke, hj⟩ := pairs_at I ts hT
  have hnd : (kvs.map (·.1)).Nodup := by
    rw [ke]
    have := hn
    rw [List.nodup_iff_pairwise_ne, List.pairwise_map] at this ⊢
    exact this.imp fun h z => h (Sum.inl.inj z)
  have hits : ∀ (j : Nat) (t : Addr × Int × V), ts[j]? = some t → its.toArray[j]? = some (.ref t.1) := fun j t e => by
    obtain ⟨u, e1, e2⟩ := r'.get (i := j) (x := .ref t.1) (by rw [List.getElem?_map, e]; rfl)
    rw [List.getElem?_toArray, e1]
    exact congrArg some e2
  have hTs : ∀ (j : Nat) (t : Addr × Int × V), ts[j]? = some t → ((ts.map (·.1)).getD j 0) = t.1 := fun j t e => by
    rw [List.getD_eq_getElem?_getD, List.getElem?_map, e]
    rfl
  refine call_dict_pairs (knd := mixKind X.prog X.w) (kvs := kvs) (PairArg.tuple p its.toArray (fun j => (ts.map (·.1)).getD j 0) ps) (I.ok.hd hc)
    ⟨⟨o, n, hg, ho, hd, hdat⟩, by rw [List.size_toArray, hlen, l1], fun j k v e => ?_⟩ ⟨by rw [l1, l2], fun i key v e => ?_⟩ (by rw [l1]; exact hz) fun h' tk hd' hk => ?_
  · obtain ⟨t, e1, e2, _⟩ := hj j k v e
    show its.toArray[j]? = some (.ref ((ts.map (·.1)).getD j 0)) ∧ PairAt s.heap ((ts.map (·.1)).getD j 0) k v
    rw [hTs j t e1]
    exact ⟨hits j t e1, e2⟩
  · obtain ⟨t, e1, e2, k', e3, e4⟩ := hj i key v e
    exact ⟨k', e3, e4⟩
  · rw [merged_nil_of_nodup _ hnd] at hd'
    have I2 : Inv X pins σ (upd H s.heap.objs.size (.dK (ts.map fun t => ((.inl t.2.1 : Key), t.2.2)))) { s with heap := h', toks := tk } :=
      I.laid (t' := tk) (fun b o e => hk b o (by simp) e) (Nat.le_refl _) (show ObjOk X.prog X.w _ _ _ (.dK _) from ⟨by rw [List.length_map]; exact hz, beq_eq_false_iff_ne.mpr (Ne.symm (Nat.ne_of_lt I.big)), kvs, kv, hd'⟩)
    exact ⟨.ref s.heap.objs.size, _, I2, rfl, q _ (I.hok.fresh (Nat.le_refl _))⟩
section
variable {X : Cx} {K : PySem.W.Frag} {mg : Str → Option Value} {E : XK} {own own' : List Nat} {a : Expr} {ta : TE} {fa : Ex} {p pos : Pos}
theorem df_dictP (hm : X.mg "dict" = none) (hc : X.calm = true) (ha : DU X K mg E own a ta fa) (hg : Gl X "dict" := by rfl) (he : starEach (a :: []) X.env = (false, eval a X.env) :: starEach [] X.env := by rfl) (hpl : (backTo pos (starEach [] X.env)).any (·.1) = false := by rfl) (hK : X.K = K := by rfl) :
    DF X K mg E own (.Call (.Name "dict" p) [a] [] pos) (tCB (rDictP K) (tCons ta tNil)) (un fa dDictP) := by
  subst hK
  refine ⟨pe_callTy (call_dictP hc) hg hm bt_dict (pa_cons ha.pe pa_nil he) (by decide) (by decide) he hpl, fun O H0 ρ σ H Q en w => ?_⟩
  unfold un at w
  rw [resW_bind] at w
  refine ha.ok O H0 ρ σ H _ en (w.mono (Same.refl H) fun d wd q H1 s1 nq r1 => ?_)
  obtain ⟨o, xs, ds, rfl, hq, ho, hd, r⟩ := r1
  have wd : ResW mg E H (fun d => ∀ p H', Same H H' → H p = none → OwnR X.K (Cut (Plus (AllA O own σ) p) H') H' p d → Q (.ref p) H') (ofO ((pairsI ds).bind fun l => if (l.map (·.1)).Nodup then some (.dict (l.map fun p => (.int p.1, p.2))) else none)) := wd
  cases e : pairsI ds with
  | none => rw [e] at wd; exact wd.elim
  | some l =>
    rw [e] at wd
    obtain ⟨ts, rfl, e2, hT, hr⟩ := pairs_ex _ _ _ r e
    have wd : ResW mg E H (fun d => ∀ p H', Same H H' → H p = none → OwnR X.K (Cut (Plus (AllA O own σ) p) H') H' p d → Q (.ref p) H') (ofO (if (l.map (·.1)).Nodup then some (.dict (l.map fun p => (.int p.1, p.2))) else none)) := wd
    by_cases c : (l.map (·.1)).Nodup
    · rw [if_pos c] at wd
      refine ⟨q, o, ts, rfl, hq, ho, hd, fun t m => sqT_same cut_sub (hT t m), by rw [← e2]; exact c, fun l' nl => ?_⟩
      have nl0 : H l' = none := s1.free nl
      refine wd l' _ (s1.trans (same_new nl)) nl0 (.dic upd_same (hr.mono fun b u z => ?_))
      obtain ⟨c, e⟩ := cut_some z
      have ne : b ≠ l' := ne_of_none e nl
      rw [cut_out, upd_ne ne]
      · exact e
      · rintro (z | z)
        · exact c (.inl z)
        · exact ne z
    · rw [if_neg c] at wd
      exact wd.elim
end
/-! ### defs whose result is such a tuple -/
def spU (K : PySem.W.Frag) (mg : Str → Option Value) (n : Nat) (f : List D → Res D) : Sp := fun vs H Q E => vs.length = n ∧ ∃ (O : Addr → Prop) (ds : List D), Dom O H ∧ RAll K (Cut O H) vs ds ∧
  ResW mg E H (fun d => ∀ p H', Same H H' → H p = none → TupR K (Cut (Plus O p) H') H' p d → Q (.ref p) H') (f ds)
structure DefU (P : Program) (w : World) (K : PySem.W.Frag) (mg : Str → Option Value) (base : Heap) (x : Str) (ps : List Str) (k n : Nat) (fM : List D → Res D) : Prop where
  ex : ∃ (f : Addr) (fd : FuncData), mg x = some (.ref f) ∧ PySem.W.keepIn K (.ref f) = true ∧ (∃ oc od osl, K.lookup f = some ⟨oc, od, .func fd, osl⟩) ∧ Binds K fd ps [] ∧ FnOk P w K mg base CX0 k f fd ps (spU K mg n fun ds => (fM ds).calm)
theorem DefU.df {P : Program} {w : World} {K : PySem.W.Frag} {mg : Str → Option Value} {base : Heap} {x : Str} {ps : List Str} {k n : Nat} {fM : List D → Res D} (G : DefU P w K mg base x ps k n fM) : Def P w K mg base x ps k n fM := by
  obtain ⟨f, fd, a, b, c, d, F⟩ := G.ex
  refine ⟨f, fd, a, b, c, d, F.imp fun vs H Q E h => ?_⟩
  obtain ⟨hl, O, ds, dom, r, w⟩ := h
  exact ⟨hl, O, ds, dom, r, w.mono (Same.refl H) fun d k p H' s np r => k _ H' s (tupR_R r fun z => (dom.same (Same.refl H)) p z np)⟩
def OutWU (K : PySem.W.Frag) (mg : Str → Option Value) (E : XK) (O : Addr → Prop) (H0 : Hp) (D : Ends) : Out → Prop
  | .nx _ => False
  | .rt d => ∀ p H, Same H0 H → H0 p = none → TupR K (Cut (Plus O p) H) H p d → D.rt (.ref p) H
  | .exc c => ∃ C, mg c = some (.ref C) ∧ ∀ H, Same H0 H → E (.ref C) none H
  | .bad => False
structure DSsU (X : Cx) (K : PySem.W.Frag) (mg : Str → Option Value) (E : XK) (own : List Nat) (st : List Stmt) (t : TS) (g : Gx) : Prop where
  ps : PSs X st t
  ok : ∀ (O : Addr → Prop) (H0 : Hp) (ρ : Rho) (σ : L2.St) (H : Hp) (D : Ends), EnvOk K O H0 own ρ σ H → OutWU K mg E O H0 D (g ρ) → t D σ H
  nn : ∀ ρ ρ', g ρ ≠ .nx ρ'
section
variable {X : Cx} {K : PySem.W.Frag} {mg : Str → Option Value} {E : XK} {own own' own'' : List Nat} {st : Stmt} {rest : List Stmt} {t u : TS} {g h : Gx} {e : Expr} {te : TE} {f : Ex} {pos npos : Pos} {x : Str}
theorem dssU_ret (he : DU X K mg E own e te f) : DSsU X K mg E own [.Return (some e) pos] (tRet te) (gRet f) :=
  ⟨pss_one (ps_ret he.pe), fun O H0 ρ σ H D en w => he.ok O H0 ρ σ H _ en (by
    unfold gRet at w
    cases q : f ρ with
    | ok d =>
      rw [q] at w
      exact fun p H' s np r => w p H' (en.base.trans s) (en.base.free np) (r.mono (cut_mono fun a z => z.imp .inl id))
    | exc c => rw [q] at w; obtain ⟨C, a, b⟩ := w; exact ⟨C, a, fun H' s => b H' (en.base.trans s)⟩
    | bad => rw [q] at w; exact w), ret_nn⟩
theorem dssU_cons (h1 : DS X K mg E own own' st t g) (n : NoRt g) (h2 : DSsU X K mg E own' rest u h) : DSsU X K mg E own (st :: rest) (tSeq t u) (gSeq g h) :=
  ⟨pss_cons h1.ps h2.ps, fun O H0 ρ σ H D en w => by
    refine h1.ok O H0 ρ σ H _ en ?_
    unfold gSeq at w
    cases q : g ρ with
    | nx ρ' => rw [q] at w; exact fun σ' H' e' => h2.ok O H0 ρ' σ' H' D e' w
    | rt d => exact (n ρ d q).elim
    | exc c => rw [q] at w; exact w
    | bad => rw [q] at w; exact w, fun ρ ρ' z => by
    unfold gSeq at z
    cases q : g ρ with
    | nx ρ2 => rw [q] at z; exact h2.nn ρ2 ρ' z
    | rt d => rw [q] at z; cases z
    | exc c => rw [q] at z; cases z
    | bad => rw [q] at z; cases z⟩
theorem dssU_freeze (own' : List Nat) (h : DSsU X K mg E own' rest u g) (s : ∀ i ∈ own', i ∈ own := by decide) : DSsU X K mg E own rest u g := ⟨h.ps, fun O H0 ρ σ H D e w => h.ok O H0 ρ σ H D (e.freeze s) w, h.nn⟩
end
section
variable {P : Program} {w : World} {K : PySem.W.Frag} {mg : Str → Option Value} {base : Heap}
theorem mkDefU {x : Str} {st : Stmt} {N ps : List Str} {n : Nat} (g : Gx) {fM : List D → Res D} (hM : fM = run N.length g) (k : Nat) (T : At K mg x st) (S : FnScope N ps (defScope st)) (hn : ps.length = n)
    (hbind : ∀ (kV doc pm : Value) (an : Option Addr) (cdv ct : Value) (us : List Value), us.length = ps.length → bindArgs (PySem.W.fnOf x x (defArgs st) (defBody st) (defScope st) .none kV doc pm an cdv ct) ⟨us, []⟩ = pure (ps.zip us))
    (hbody : ∀ (cdv : Value) (A : Around) (outer : List Env) (s : Shared) (H : Hp) (E : XK) (f : Addr), Room k (A.deeper (envOfC x (defScope st) s.heap.objs.size f cdv)) →
      ∃ (t : TS), DSsU (cxOf CX0 P w K mg base N x (defScope st) f cdv A outer s H E).nox K mg E0' [] (defBody st) t g) : DefU P w K mg base x ps (k + 1) n fM := by
  subst hM
  obtain ⟨f, fd, hm, F⟩ := T.ex
  refine ⟨f, fd, hm, F.kp, (let ⟨oc, od, _, _, _, _, _, _, _, osl, _, lk, _⟩ := F.ex; ⟨oc, od, osl, lk⟩), F.bindsN hbind, F.ok S (fun vs H Q E h => by rw [h.1, hn]) fun cdv A outer s H vs Q E hr h => ?_⟩
  obtain ⟨t, hb⟩ := hbody cdv A outer s H E f hr
  obtain ⟨_, O, ds, dom, r, w⟩ := h
  refine ⟨t, hb.ps.nox, hb.ok O H _ _ H _ (env_start dom r) ?_⟩
  have w := resW_calm (E' := E0') w
  unfold run at w
  cases q : g (ds.map some ++ List.replicate (N.length - ds.length) none) with
  | nx ρ => exact (hb.nn _ _ q).elim
  | rt d => rw [q] at w; exact w
  | exc c => rw [q] at w; exact w
  | bad => rw [q] at w; exact w
theorem du_fn {X : Cx} {K : PySem.W.Frag} {mg : Str → Option Value} {own : List Nat} {k n : Nat} {fM : List D → Res D} {x : Str} {ps : List Str} {p pos : Pos} {e : Expr} {es : List Expr} {t : TA} {g : Ax}
    (G : DefU X.prog X.w X.K X.mg X.base x ps k n fM) (hr : Room k X.A) (ha : DA X K mg E0' own (e :: es) t g) (hg : Gl X x := by rfl) (hdb : (x == ("__debug__" : Str)) = false := by decide) (he : starEach (e :: es) X.env = (false, eval e X.env) :: starEach es X.env := by rfl) (hpl : (backTo pos (starEach es X.env)).any (·.1) = false := by rfl) (hK : X.K = K := by rfl) (hmg : X.mg = mg := by rfl) :
    DU X K mg E0' own (.Call (.Name x p) (e :: es) [] pos) (tCall (spU K mg n fun ds => (fM ds).calm) [] E0' t) (callD n fM g) := by
  subst hK hmg
  obtain ⟨f, fd, hm, hk, _, hb, F⟩ := G.ex
  refine ⟨pe_call F hr hg hm hk hb .nil pass0 ha.pa hdb he hpl, fun O H0 ρ σ H Q en w => ?_⟩
  unfold callD at w
  rw [resW_bind] at w
  refine ha.ok O H0 ρ σ H _ en (w.mono (Same.refl H) fun ds wd vs H1 s1 r1 => ?_)
  by_cases c : ds.length = n
  · rw [if_pos c] at wd
    rw [List.append_nil]
    have wd' : ResW X.mg E0' H (fun d => ∀ p H', Same H H' → H p = none → TupR X.K (Cut (Plus (AllA O own σ) p) H') H' p d → Q (.ref p) H') ((fM ds).calm) := by
      cases q : fM ds with
      | ok d => rw [q] at wd; exact wd
      | exc c => rw [q] at wd; obtain ⟨_, _, z⟩ := wd; exact (z H (Same.refl H)).elim
      | bad => rw [q] at wd; exact wd
    exact ⟨by rw [r1.length, c], AllA O own σ, ds, en.domA.same s1, r1, wd'.mono s1 fun d k p H' s np r => k p H' (s1.trans s) (s1.free np) r⟩
  · rw [if_neg c] at wd; exact wd.elim
end
end DL
end

section
set_option Elab.async false
set_option linter.all false
set_option maxRecDepth 100000
set_option maxHeartbeats 2000000
set_option autoImplicit false
/-! DL18: texts: str(int), int(text), join, split, partition, find. -/
namespace DL
open PySem PySem.Spec PyProof.Rows L2

/-! ### a method of a text, with one thing handed in -/
def binS (fo fe : Ex) (op : Str → D → Option D) : Ex := fun ρ => (fo ρ).bind fun a => match a with
  | .str x => (fe ρ).bind fun b => ofO (op x b)
  | _ => .bad
def OpM (K : PySem.W.Frag) (r : V → List V → Hp → VK → Prop) (op : Str → D → Option D) : Prop :=
  ∀ (A : Addr → Prop) (H : Hp) (x : Str) (y : V) (b : D) (Q : VK), Dom A H → CRep K (Cut A H) H y b → OkW (fun d => ∀ v H', Same H H' → R K (Cut A H') v d → Q v H') (op x b) → r (.str x) [y] H Q
/-- .. that makes a new list -/
def OpMF (K : PySem.W.Frag) (r : V → List V → Hp → VK → Prop) (op : Str → D → Option D) : Prop :=
  ∀ (A : Addr → Prop) (H : Hp) (x : Str) (y : V) (b : D) (Q : VK), Dom A H → CRep K (Cut A H) H y b → OkW (fun d => ∀ p H', Same H H' → H p = none → OwnR K (Cut (Plus A p) H') H' p d → Q (.ref p) H') (op x b) → r (.str x) [y] H Q
section
variable {X : Cx} {K : PySem.W.Frag} {mg : Str → Option Value} {E : XK} {own : List Nat} {o e : Expr} {to te : TE} {fo fe : Ex} {op : Str → D → Option D} {r : V → List V → Hp → VK → Prop}
theorem te_m1 {K : PySem.W.Frag} {mg : Str → Option Value} (hr : OpM K r op) (ho : TEok K mg E own to fo) (he : TCok K mg E own te fe) : TEok K mg E own (tM1 r to te) (binS fo fe op) := fun O H0 ρ σ H Q en w => by
  unfold binS at w
  rw [resW_bind] at w
  refine ho O H0 ρ σ H _ en (w.mono (Same.refl H) fun a wa v1 H1 s1 r1 => ?_)
  cases a <;> first | exact wa.elim | skip
  rename_i x
  rw [r1.str_of]
  refine ⟨⟨_, rfl⟩, ?_⟩
  have wa : ResW mg E H _ ((fe ρ).bind fun b => ofO (op x b)) := wa
  rw [resW_bind] at wa
  refine he O H0 ρ σ H1 _ (en.mono s1) (wa.mono s1 fun b wb v2 H2 s2 r2 => ?_)
  exact hr _ H2 x v2 b Q (en.domA.same (s1.trans s2)) r2 ((okW_of wb).mono fun d k v H' s r => k v H' ((s1.trans s2).trans s) r)
theorem tf_m1 {K : PySem.W.Frag} {mg : Str → Option Value} (hr : OpMF K r op) (ho : TEok K mg E own to fo) (he : TCok K mg E own te fe) : TFok K mg E own (tM1 r to te) (binS fo fe op) := fun O H0 ρ σ H Q en w => by
  unfold binS at w
  rw [resW_bind] at w
  refine ho O H0 ρ σ H _ en (w.mono (Same.refl H) fun a wa v1 H1 s1 r1 => ?_)
  cases a <;> first | exact wa.elim | skip
  rename_i x
  rw [r1.str_of]
  refine ⟨⟨_, rfl⟩, ?_⟩
  have wa : ResW mg E H _ ((fe ρ).bind fun b => ofO (op x b)) := wa
  rw [resW_bind] at wa
  refine he O H0 ρ σ H1 _ (en.mono s1) (wa.mono s1 fun b wb v2 H2 s2 r2 => ?_)
  exact hr _ H2 x v2 b Q (en.domA.same (s1.trans s2)) r2 ((okW_of wb).mono fun d k p H' s np r => k p H' ((s1.trans s2).trans s) ((s1.trans s2).free np) r)
end

/-! ### join -/
def allS : List D → Option (List Str)
  | [] => some []
  | .str x :: r => (allS r).map (x :: ·)
  | _ => none
theorem allS_map (xs : List Str) : allS (xs.map .str) = some xs := by
  induction xs with
  | nil => rfl
  | cons b r ih => show (allS (r.map .str)).map (b :: ·) = _; rw [ih]; rfl
theorem allS_eq : ∀ {ds : List D} {xs : List Str}, allS ds = some xs → ds = xs.map .str
  | [], xs, h => by cases h; rfl
  | d :: ds, xs, h => by
    cases d <;> first | cases h | skip
    rename_i x
    obtain ⟨ys, e, rfl⟩ := Option.map_eq_some_iff.mp (show (allS ds).map (x :: ·) = some xs from h)
    rw [List.map_cons, allS_eq e]
theorem RAll.strs {K : PySem.W.Frag} {H : Hp} : ∀ {vs : List V} {xs : List Str}, RAll K H vs (xs.map .str) → vs = xs.map .str := by
  intro vs
  induction vs with
  | nil => intro xs h; cases xs with
    | nil => rfl
    | cons x xs => cases h
  | cons v vs ih => intro xs h; cases xs with
    | nil => cases h
    | cons x xs => cases h with | cons a b => rw [a.str_of, ih b]; rfl
def joinFits (x : Str) (ys : List Str) : Bool := decide ((ys.map (·.length)).sum + ys.length * x.length ≤ 16777216)
def dJoin (x : Str) : D → Option D
  | .list ds => (allS ds).bind fun ys => if joinFits x ys = true then some (.str (Txt.join x ys)) else none
  | .tuple ds => (allS ds).bind fun ys => if joinFits x ys = true then some (.str (Txt.join x ys)) else none
  | _ => none
def rJoin (K : PySem.W.Frag) : V → List V → Hp → VK → Prop := fun x xs H Q => ∃ a p, ∃ ys : List Str, x = .str a ∧ xs = [.ref p] ∧ (SqL K H p (ys.map V.str) ∨ SqT K H p (ys.map V.str)) ∧
      (ys.map (·.length)).sum + ys.length * a.length ≤ 16777216 ∧ Q (.str (Txt.join a ys)) H
theorem om_join {K : PySem.W.Frag} : OpM K (rJoin K) dJoin := by
  intro A H x y b Q dom rb w
  unfold dJoin at w
  split at w
  · obtain ⟨d, e, w2⟩ := OkW.of_some w
    obtain ⟨ys, e1, e2⟩ := Option.bind_eq_some_iff.mp e
    by_cases c : joinFits x ys = true
    · rw [if_pos c] at e2
      cases e2
      obtain ⟨p, vs, rfl, q, r⟩ := rb.list_of cut_sub
      rw [allS_eq e1] at r
      rw [r.strs] at q
      exact ⟨x, p, ys, rfl, rfl, .inl (.of q), of_decide_eq_true c, w2 _ H (Same.refl H) (.str _)⟩
    · rw [if_neg c] at e2; cases e2
  · obtain ⟨d, e, w2⟩ := OkW.of_some w
    obtain ⟨ys, e1, e2⟩ := Option.bind_eq_some_iff.mp e
    by_cases c : joinFits x ys = true
    · rw [if_pos c] at e2
      cases e2
      obtain ⟨p, vs, rfl, q, r⟩ := rb.tuple_of cut_sub
      rw [allS_eq e1] at r
      rw [r.strs] at q
      exact ⟨x, p, ys, rfl, rfl, .inr q, of_decide_eq_true c, w2 _ H (Same.refl H) (.str _)⟩
    · rw [if_neg c] at e2; cases e2
  · exact w.elim

/-! ### split -/
def dSplit (x : Str) : D → Option D
  | .str b => if (b.length == 0) = false ∧ x.length + 2 ≤ sizeLine then some (.list ((Txt.split x b).map .str)) else none
  | _ => none
def rSplit : V → List V → Hp → VK → Prop := fun x xs H Q => ∃ a b, x = .str a ∧ xs = [.str b] ∧ (b.length == 0) = false ∧ a.length + 2 ≤ sizeLine ∧ rNewStrs (Txt.split a b) H Q
theorem RAll_strs {K : PySem.W.Frag} {H : Hp} : ∀ xs : List Str, RAll K H (xs.map V.str) (xs.map PyData.str)
  | [] => .nil
  | x :: r => .cons (.str x) (RAll_strs r)
theorem om_split {K : PySem.W.Frag} : OpMF K rSplit dSplit := by
  intro A H x y b Q dom rb w
  unfold dSplit at w
  split at w
  · obtain ⟨c, w⟩ := okW_if w
    rw [rb.str_of]
    exact ⟨x, _, rfl, rfl, c.1, c.2, fun p np => w p _ (same_new np) np (.lst upd_same (RAll_strs _))⟩
  · exact w.elim

/-! ### partition -/
def dPart (x : Str) : D → Option D
  | .str b => if (b.length == 0) = false ∧ x.length ≤ sizeLine then some (.tuple [.str (Txt.partition x b).1, .str (Txt.partition x b).2.1, .str (Txt.partition x b).2.2]) else none
  | _ => none
def rPart : V → List V → Hp → VK → Prop := fun x xs H Q => ∃ a b, x = .str a ∧ xs = [.str b] ∧ (b.length == 0) = false ∧ a.length ≤ sizeLine ∧
      ∀ p, H p = none → Q (.ref p) (upd H p (.tup [.str (Txt.partition a b).1, .str (Txt.partition a b).2.1, .str (Txt.partition a b).2.2]))
theorem om_part {K : PySem.W.Frag} : OpM K rPart dPart := by
  intro A H x y b Q dom rb w
  unfold dPart at w
  split at w
  · obtain ⟨c, w⟩ := okW_if w
    rw [rb.str_of]
    exact ⟨x, _, rfl, rfl, c.1, c.2, fun p np => w (.ref p) _ (same_new np) (.tup (.inl (.inl (cut_new (dom.new np)))) (.cons (.str _) (.cons (.str _) (.cons (.str _) .nil))))⟩
  · exact w.elim

/-! ### find -/
def dFind (x : Str) : D → Option D
  | .str b => some (.int (Txt.find x b))
  | _ => none
def rFind : V → List V → Hp → VK → Prop := fun x xs H Q => ∃ a b, x = .str a ∧ xs = [.str b] ∧ Q (.int (Txt.find a b)) H
theorem om_find {K : PySem.W.Frag} : OpM K rFind dFind := by
  intro A H x y b Q dom rb w
  unfold dFind at w
  split at w
  · rw [rb.str_of]
    exact ⟨x, _, rfl, rfl, w _ H (Same.refl H) (.int _)⟩
  · exact w.elim

/-! ### str(int), int(text) -/
def dStr : D → Option D
  | .int i => if i.natAbs.log2 < 1920 then some (.str (toString i)) else none
  | _ => none
theorem cc_str {K : PySem.W.Frag} : CallC K (fun xs H Q => ∃ i, xs = [.int i] ∧ i.natAbs.log2 < 1920 ∧ Q (.str (toString i)) H) dStr := by
  intro A H x a Q dom ra w
  unfold dStr at w
  split at w
  · obtain ⟨c, w⟩ := okW_if w
    rw [ra.int_of]
    exact ⟨_, rfl, c, w _ H (Same.refl H) (.str _)⟩
  · exact w.elim
def dIntT : D → Option D
  | .str a => (PySem.intText? a).bind fun n => if a.length ≤ 640 then some (.int n) else none
  | _ => none
theorem cc_intT {K : PySem.W.Frag} : CallC K (fun xs H Q => ∃ a n, xs = [.str a] ∧ PySem.intText? a = some n ∧ a.length ≤ 640 ∧ Q (.int n) H) dIntT := by
  intro A H x a Q dom ra w
  unfold dIntT at w
  split at w
  · obtain ⟨d, e, w2⟩ := OkW.of_some w
    obtain ⟨n, e1, e2⟩ := Option.bind_eq_some_iff.mp e
    split at e2
    · rename_i c
      cases e2
      rw [ra.str_of]
      exact ⟨_, n, rfl, e1, c, w2 _ H (Same.refl H) (.int _)⟩
    · cases e2
  · exact w.elim

section
variable {X : Cx} {K : PySem.W.Frag} {mg : Str → Option Value} {E : XK} {own : List Nat} {a o e : Expr} {ta to te : TE} {fa fo fe : Ex} {p pos apos : Pos}
theorem de_strOf (hm : X.mg "str" = none) (ha : DC X K mg E own a ta fa) (hg : Gl X "str" := by rfl) (he : starEach (a :: []) X.env = (false, eval a X.env) :: starEach [] X.env := by rfl) (hpl : (backTo pos (starEach [] X.env)).any (·.1) = false := by rfl) :
    DE X K mg E own (.Call (.Name "str" p) [a] [] pos) (tCB (fun xs H Q => ∃ i, xs = [.int i] ∧ i.natAbs.log2 < 1920 ∧ Q (.str (toString i)) H) (tCons ta tNil)) (un fa dStr) := de_callT1 call_str_int cc_str hg hm bt_str ha (by decide) (by decide) he hpl
theorem de_intT (hm : X.mg "int" = none) (ha : DC X K mg E own a ta fa) (hg : Gl X "int" := by rfl) (he : starEach (a :: []) X.env = (false, eval a X.env) :: starEach [] X.env := by rfl) (hpl : (backTo pos (starEach [] X.env)).any (·.1) = false := by rfl) :
    DE X K mg E own (.Call (.Name "int" p) [a] [] pos) (tCB (fun xs H Q => ∃ a n, xs = [.str a] ∧ PySem.intText? a = some n ∧ a.length ≤ 640 ∧ Q (.int n) H) (tCons ta tNil)) (un fa dIntT) := de_callT1 call_int_str cc_intT hg hm bt_int ha (by decide) (by decide) he hpl
theorem de_join (ho : DE X K mg E own o to fo) (he : DC X K mg E own e te fe) (hs : starEach [e] X.env = [(false, eval e X.env)] := by rfl) (hbase : attributeBase o "join" X.env (eval o X.env) = eval o X.env := by rfl) (hline : (apos.endLine == pos.line) = true := by rfl) (hK : X.K = K := by rfl) :
    DE X K mg E own (.Call (.Attribute o "join" apos) [e] [] pos) (tM1 (rJoin K) to te) (binS fo fe dJoin) := by
  subst hK
  exact ⟨pe_join ho.pe he.pe hs hbase hline, te_m1 om_join ho.ok he.ok⟩
theorem df_split (ho : DE X K mg E own o to fo) (he : DC X K mg E own e te fe) (hs : starEach [e] X.env = [(false, eval e X.env)] := by rfl) (hbase : attributeBase o "split" X.env (eval o X.env) = eval o X.env := by rfl) (hline : (apos.endLine == pos.line) = true := by rfl) :
    DF X K mg E own (.Call (.Attribute o "split" apos) [e] [] pos) (tM1 rSplit to te) (binS fo fe dSplit) := ⟨pe_split ho.pe he.pe hs hbase hline, tf_m1 om_split ho.ok he.ok⟩
theorem de_part (ho : DE X K mg E own o to fo) (he : DC X K mg E own e te fe) (hs : starEach [e] X.env = [(false, eval e X.env)] := by rfl) (hbase : attributeBase o "partition" X.env (eval o X.env) = eval o X.env := by rfl) (hline : (apos.endLine == pos.line) = true := by rfl) :
    DE X K mg E own (.Call (.Attribute o "partition" apos) [e] [] pos) (tM1 rPart to te) (binS fo fe dPart) := ⟨pe_partition ho.pe he.pe hs hbase hline, te_m1 om_part ho.ok he.ok⟩
theorem de_find (ho : DE X K mg E own o to fo) (he : DC X K mg E own e te fe) (hs : starEach [e] X.env = [(false, eval e X.env)] := by rfl) (hbase : attributeBase o "find" X.env (eval o X.env) = eval o X.env := by rfl) (hline : (apos.endLine == pos.line) = true := by rfl) :
    DE X K mg E own (.Call (.Attribute o "find" apos) [e] [] pos) (tM1 rFind to te) (binS fo fe dFind) := ⟨pe_m1 F.slot_str_find F.type_str_find mt_find ho.pe he.pe hs hbase hline, te_m1 om_find ho.ok he.ok⟩
end
end DL
end

section
set_option Elab.async false
set_option linter.all false
set_option maxRecDepth 100000
set_option maxHeartbeats 2000000
set_option autoImplicit false
/-! DL19: own things lent to a call; an own thing under another name; a def whose result is a new tuple, its second part new too. -/
namespace DL
open PySem PySem.Spec PyProof.Rows L2

/-! ### data without lists, dicts -/
mutual
def dryB : D → Bool
  | .none => true
  | .bool _ => true
  | .int _ => true
  | .str _ => true
  | .tuple ds => dryA ds
  | .list _ => false
  | .dict _ => false
def dryA : List D → Bool
  | [] => true
  | d :: ds => dryB d && dryA ds
end
/-- .. a new list of such -/
def dryL : D → Bool
  | .list ds => dryA ds
  | _ => false
def LstDic (H : Hp) (B : Addr → Prop) : Prop := ∀ a, B a → (∃ vs, H a = some (.lst vs)) ∨ ∃ kvs, H a = some (.dK kvs)
section
variable {K : PySem.W.Frag} {A B : Addr → Prop} {H : Hp}
theorem dry_cut (hB : LstDic H B) {a : Addr} {o : HO} (h : Cut A H a = some o) (h1 : ∀ vs, o ≠ .lst vs) (h2 : ∀ kvs, o ≠ .dK kvs) : Cut (fun a => A a ∨ B a) H a = some o := by
  obtain ⟨c, e⟩ := cut_some h
  rw [cut_out]
  · exact e
  · rintro (z | z)
    · exact c z
    · rcases hB a z with ⟨vs, q⟩ | ⟨kvs, q⟩
      · rw [e] at q; exact h1 vs (Option.some.inj q)
      · rw [e] at q; exact h2 kvs (Option.some.inj q)
mutual
theorem R.dry (hB : LstDic H B) : ∀ {v : V} {d : D}, R K (Cut A H) v d → dryB d = true → R K (Cut (fun a => A a ∨ B a) H) v d
  | _, _, .non, _ => .non
  | _, _, .bl b, _ => .bl b
  | _, _, .int i, _ => .int i
  | _, _, .str x, _ => .str x
  | _, _, .lst h r, c => by simp [dryB] at c
  | _, _, .scr h, c => by simp [dryB] at c
  | _, _, .tup h r, c => .tup (by
      rcases h with (h | ⟨o, h⟩) | h
      · exact .inl (.inl (dry_cut hB h (fun _ z => by cases z) (fun _ z => by cases z)))
      · exact .inl (.inr ⟨o, dry_cut hB h (fun _ z => by cases z) (fun _ z => by cases z)⟩)
      · exact .inr h) (RAll.dry hB r (by simpa [dryB] using c))
  | _, _, .dic h r, c => by simp [dryB] at c
  | _, _, .fdic h r, c => by simp [dryB] at c
theorem RAll.dry (hB : LstDic H B) : ∀ {vs : List V} {ds : List D}, RAll K (Cut A H) vs ds → dryA ds = true → RAll K (Cut (fun a => A a ∨ B a) H) vs ds
  | _, _, .nil, _ => .nil
  | _, _, .cons h r, c => by
    simp only [dryA, Bool.and_eq_true] at c
    exact .cons (R.dry hB h c.1) (RAll.dry hB r c.2)
end
end

/-! ### own lists, dicts lent -/
def allIn (l : List Nat) (ρ : Rho) : Bool := l.all fun i => match ρ[i]? with
  | some (some _) => true
  | _ => false
def lendE (l : List Nat) (f : Ex) : Ex := fun ρ => if allIn l ρ = true then (f ρ).bind fun d => if dryL d = true then .ok d else .bad else .bad
section
variable {X : Cx} {K : PySem.W.Frag} {mg : Str → Option Value} {E : XK} {own : List Nat} {e : Expr} {t : TE} {f : Ex}
theorem lent_lstDic {O : Addr → Prop} {H0 H : Hp} {ρ : Rho} {σ : L2.St} (en : EnvOk K O H0 own ρ σ H) {l : List Nat} (hl : ∀ i ∈ l, i ∈ own) (h : allIn l ρ = true) : LstDic H (OwnA l σ) := by
  rintro a ⟨i, m, q⟩
  have hi := List.all_eq_true.mp h i m
  cases r : ρ[i]? with
  | none => rw [r] at hi; cases hi
  | some o =>
    cases o with
    | none => rw [r] at hi; cases hi
    | some d =>
      obtain ⟨b, hb, w⟩ := en.ow i d (hl i m) r
      rw [q] at hb
      cases hb
      cases w with
      | lst x _ => exact .inl ⟨_, x⟩
      | dic x _ => exact .inr ⟨_, x⟩
theorem lstDic_mono {H H' : Hp} {B : Addr → Prop} (h : LstDic H B) (s : Same H H') : LstDic H' B := fun a z => (h a z).imp (fun ⟨vs, q⟩ => ⟨vs, s _ _ q⟩) fun ⟨kvs, q⟩ => ⟨kvs, s _ _ q⟩
theorem df_lend (own1 l : List Nat) (h : DF X K mg E own1 e t f) (s : ∀ i ∈ own1, i ∈ own := by decide) (hl : ∀ i ∈ l, i ∈ own := by decide) (hc : ∀ i ∈ own, i ∈ own1 ∨ i ∈ l := by decide) : DF X K mg E own e t (lendE l f) :=
  ⟨h.pe, fun O H0 ρ σ H Q en w => by
    unfold lendE at w
    by_cases c : allIn l ρ = true
    case neg => rw [if_neg c] at w; exact w.elim
    rw [if_pos c, resW_bind] at w
    have ld := lent_lstDic en hl c
    refine h.ok O H0 ρ σ H Q (en.freeze s) (w.mono (Same.refl H) fun d wd p H' s' np r => ?_)
    by_cases cd : dryL d = true
    case neg => rw [if_neg cd] at wd; exact wd.elim
    rw [if_pos cd] at wd
    cases r with
    | dic x y => simp [dryL] at cd
    | lst x y =>
      refine wd p H' s' np (.lst x ((RAll.dry (B := OwnA l σ) (lstDic_mono ld s') y cd).mono (cut_mono fun a z => ?_)))
      rcases z with z | z
      · rcases z with z | ⟨i, m, q⟩
        · exact .inl (.inl (.inl z))
        · rcases hc i m with m | m
          · exact .inl (.inl (.inr ⟨i, m, q⟩))
          · exact .inr ⟨i, m, q⟩
      · exact .inl (.inr z)⟩
theorem dt_lend (own1 : List Nat) {tt : TT} {ft : Tx} (h : DT X K mg E own1 e tt ft) (s : ∀ i ∈ own1, i ∈ own := by decide) : DT X K mg E own e tt ft :=
  ⟨h.pt, fun O H0 ρ σ H Q en w => h.ok O H0 ρ σ H Q (en.freeze s) w⟩
end

/-! ### y = x, x own and read no more -/
def gMove (i j : Nat) : Gx := fun ρ => match ρ[j]? with
  | some (some d) => .nx ((ρ.set i (some d)).set j none)
  | _ => .bad
theorem nrt_move {i j : Nat} : NoRt (gMove i j) := fun ρ d z => by
  unfold gMove at z
  split at z <;> cases z
theorem EnvOk.move {K : PySem.W.Frag} {O : Addr → Prop} {H0 H : Hp} {own own' : List Nat} {ρ : Rho} {σ : L2.St} (e : EnvOk K O H0 own ρ σ H) {i j : Nat} {d : D} {a : Addr} (hj : j ∈ own) (hi : i ∉ own) (hi' : i ∈ own') (hj' : j ∉ own')
    (h1 : ∀ k ∈ own', k = i ∨ k ∈ own) (h2 : ∀ k ∈ own, k = j ∨ k ∈ own') (hd : ρ[j]? = some (some d)) (ha : σ[j]? = some (some (.ref a))) :
    EnvOk K O H0 own' ((ρ.set i (some d)).set j none) (σ.set i (some (.ref a))) H := by
  have ij : i ≠ j := fun z => hi (z ▸ hj)
  have sub : ∀ {b : Addr}, OwnA own' (σ.set i (some (.ref a))) b → OwnA own σ b := fun {b} ⟨k, m, q⟩ => by
    by_cases c : i = k
    · subst c
      by_cases l : i < σ.length
      · rw [List.getElem?_set_self l] at q
        cases q
        exact ⟨j, hj, ha⟩
      · rw [List.getElem?_eq_none (by rw [List.length_set]; omega)] at q; cases q
    · rw [List.getElem?_set_ne c] at q
      rcases h1 k m with z | z
      · exact (c z.symm).elim
      · exact ⟨k, z, q⟩
  have mo : Same (Cut (AllA O own σ) H) (Cut (AllA O own' (σ.set i (some (.ref a)))) H) := cut_mono fun b z => z.imp id sub
  refine ⟨by rw [List.length_set, List.length_set, List.length_set]; exact e.len, e.base, e.dom, fun b z => e.new b (sub z), fun b z => e.live b (sub z), fun k m b hk hm q q' => ?_, fun k d' hk q => ?_, fun k d' hk q => ?_⟩
  · by_cases c : i = k
    · by_cases c' : i = m
      · exact c.symm.trans c'
      · exfalso
        subst c
        rw [List.getElem?_set_ne c'] at q'
        have l : i < σ.length := by
          by_cases l : i < σ.length
          · exact l
          · rw [List.getElem?_eq_none (by rw [List.length_set]; omega)] at q; cases q
        rw [List.getElem?_set_self l] at q
        cases q
        have mo2 : m ∈ own := (h1 m hm).resolve_left fun z => c' z.symm
        have : m = j := e.inj m j _ mo2 hj q' ha
        exact hj' (this ▸ hm)
    · by_cases c' : i = m
      · exfalso
        subst c'
        rw [List.getElem?_set_ne c] at q
        have l : i < σ.length := by
          by_cases l : i < σ.length
          · exact l
          · rw [List.getElem?_eq_none (by rw [List.length_set]; omega)] at q'; cases q'
        rw [List.getElem?_set_self l] at q'
        cases q'
        have mo2 : k ∈ own := (h1 k hk).resolve_left fun z => c z.symm
        have : k = j := e.inj k j _ mo2 hj q ha
        exact hj' (this ▸ hk)
      · rw [List.getElem?_set_ne c] at q
        rw [List.getElem?_set_ne c'] at q'
        exact e.inj k m b ((h1 k hk).resolve_left fun z => c z.symm) ((h1 m hm).resolve_left fun z => c' z.symm) q q'
  · have ki : i ≠ k := fun z => hk (z ▸ hi')
    have kj : j ≠ k := fun z => by
      subst z
      by_cases l : j < (ρ.set i (some d)).length
      · rw [List.getElem?_set_self l] at q; cases q
      · rw [List.getElem?_eq_none (by rw [List.length_set]; omega)] at q; cases q
    rw [List.getElem?_set_ne kj, List.getElem?_set_ne ki] at q
    have ko : k ∉ own := fun z => (h2 k z).elim (fun z => kj z.symm) hk
    obtain ⟨v, x, y⟩ := e.sh k d' ko q
    exact ⟨v, by rw [List.getElem?_set_ne ki]; exact x, y.mono mo⟩
  · have kj : j ≠ k := fun z => hj' (z ▸ hk)
    rw [List.getElem?_set_ne kj] at q
    by_cases c : i = k
    · subst c
      have l : i < ρ.length := by
        by_cases l : i < ρ.length
        · exact l
        · rw [List.getElem?_eq_none (by rw [List.length_set]; omega)] at q; cases q
      rw [List.getElem?_set_self l] at q
      cases q
      obtain ⟨b, x, y⟩ := e.ow j _ hj hd
      rw [ha] at x
      cases x
      refine ⟨a, List.getElem?_set_self (by rw [e.len]; exact l), ?_⟩
      cases y with
      | lst x z => exact .lst x (z.mono mo)
      | dic x z => exact .dic x (z.mono mo)
    · rw [List.getElem?_set_ne c] at q
      obtain ⟨b, x, y⟩ := e.ow k d' ((h1 k hk).resolve_left fun z => c z.symm) q
      refine ⟨b, by rw [List.getElem?_set_ne c]; exact x, ?_⟩
      cases y with
      | lst x z => exact .lst x (z.mono mo)
      | dic x z => exact .dic x (z.mono mo)
section
variable {X : Cx} {K : PySem.W.Frag} {mg : Str → Option Value} {E : XK} {own own' : List Nat} {pos npos : Pos}
theorem ds_move (i j : Nat) (own' : List Nat) {x y : Str} {pos' : Pos} (hN : X.N.Nodup) (hj : j ∈ own := by decide) (hi' : i ∉ own := by decide) (hi2 : i ∈ own' := by decide) (hj2 : j ∉ own' := by decide) (h1 : ∀ k ∈ own', k = i ∨ k ∈ own := by decide) (h2 : ∀ k ∈ own, k = j ∨ k ∈ own' := by decide)
    (hi : X.N[i]? = some x := by rfl) (hx : Loc X.env.scope x := by first | exact Or.inl rfl | exact Or.inr rfl)
    (hs : swapsWith (.Name y npos) (some (.Name x pos')) pos.line X.env = pure false := by rfl) (hf : X.fn x = true ∨ X.env.scope.names.lookup x = some .local := by first | exact .inl rfl | exact .inr rfl | assumption)
    (hNj : X.N[j]? = some y := by rfl) (hv : Vis X.env.scope y := by first | exact Or.inl rfl | exact Or.inr (Or.inl rfl) | exact Or.inr (Or.inr rfl)) (hd : (y == ("__debug__" : Str)) = false := by decide)
    (hcd : (y == ("__classdict__" : Str)) = false := by decide) :
    DS X K mg E own own' (.Assign [.Name x pos'] (.Name y npos) pos) (tAsg (tVar j) (gName i)) (gMove i j) :=
  ⟨ps_set hN hi hx (pe_var hNj hv hd hcd) hs hf, fun O H0 ρ σ H D en w => by
    unfold gMove at w
    split at w
    · rename_i d q
      obtain ⟨a, hσ, _⟩ := en.ow j d hj q
      exact ⟨.ref a, hσ, w _ H (en.move hj hi' hi2 hj2 h1 h2 q hσ)⟩
    · exact w.elim⟩
end

/-! ### defs whose result is a new tuple of two, the second new too -/
def TupT (K : PySem.W.Frag) (O : Addr → Prop) (H0 H : Hp) (v : V) (d : D) : Prop := ∃ (t : Addr) (x : V) (p : Addr) (d1 d2 : D), v = .ref t ∧ d = .tuple [d1, d2] ∧ ¬ O t ∧ H t = some (.tup [x, .ref p]) ∧ H0 p = none ∧ R K (Cut (Plus O p) H) x d1 ∧ OwnR K (Cut (Plus O p) H) H p d2
theorem TupT.r {K : PySem.W.Frag} {O : Addr → Prop} {H0 H : Hp} {v : V} {d : D} (dom : Dom O H0) (h : TupT K O H0 H v d) : R K (Cut O H) v d := by
  obtain ⟨t, x, p, d1, d2, rfl, rfl, nt, ht, np, r1, r2⟩ := h
  exact .tup (.inl (.inl (by rw [cut_out nt]; exact ht))) (.cons (r1.mono plus_sub) (.cons (ownR_R r2 (dom.new np)) .nil))
def spT (K : PySem.W.Frag) (mg : Str → Option Value) (n : Nat) (f : List D → Res D) : Sp := fun vs H Q E => vs.length = n ∧ ∃ (O : Addr → Prop) (ds : List D), Dom O H ∧ RAll K (Cut O H) vs ds ∧
  ResW mg E H (fun d => ∀ v H', Same H H' → TupT K O H H' v d → Q v H') (f ds)
structure DefT (P : Program) (w : World) (K : PySem.W.Frag) (mg : Str → Option Value) (base : Heap) (x : Str) (ps : List Str) (k n : Nat) (fM : List D → Res D) : Prop where
  ex : ∃ (f : Addr) (fd : FuncData), mg x = some (.ref f) ∧ PySem.W.keepIn K (.ref f) = true ∧ (∃ oc od osl, K.lookup f = some ⟨oc, od, .func fd, osl⟩) ∧ Binds K fd ps [] ∧ FnOk P w K mg base CX0 k f fd ps (spT K mg n fun ds => (fM ds).calm)
theorem DefT.df {P : Program} {w : World} {K : PySem.W.Frag} {mg : Str → Option Value} {base : Heap} {x : Str} {ps : List Str} {k n : Nat} {fM : List D → Res D} (G : DefT P w K mg base x ps k n fM) : Def P w K mg base x ps k n fM := by
  obtain ⟨f, fd, a, b, c, d, F⟩ := G.ex
  refine ⟨f, fd, a, b, c, d, F.imp fun vs H Q E h => ?_⟩
  obtain ⟨hl, O, ds, dom, r, w⟩ := h
  exact ⟨hl, O, ds, dom, r, w.mono (Same.refl H) fun d k v H' s r => k v H' s (r.r dom)⟩
def OutWT (K : PySem.W.Frag) (mg : Str → Option Value) (E : XK) (O : Addr → Prop) (H0 : Hp) (D : Ends) : Out → Prop
  | .nx _ => False
  | .rt d => ∀ v H, Same H0 H → TupT K O H0 H v d → D.rt v H
  | .exc c => ∃ C, mg c = some (.ref C) ∧ ∀ H, Same H0 H → E (.ref C) none H
  | .bad => False
structure DSsT (X : Cx) (K : PySem.W.Frag) (mg : Str → Option Value) (E : XK) (own : List Nat) (st : List Stmt) (t : TS) (g : Gx) : Prop where
  ps : PSs X st t
  ok : ∀ (O : Addr → Prop) (H0 : Hp) (ρ : Rho) (σ : L2.St) (H : Hp) (D : Ends), EnvOk K O H0 own ρ σ H → OutWT K mg E O H0 D (g ρ) → t D σ H
  nn : ∀ ρ ρ', g ρ ≠ .nx ρ'
section
variable {X : Cx} {K : PySem.W.Frag} {mg : Str → Option Value} {E : XK} {own own' own'' : List Nat} {st : Stmt} {rest : List Stmt} {t u : TS} {g h : Gx} {e : Expr} {te : TE} {f : Ex} {pos p1 p2 tpos : Pos} {x y : Str}
theorem rd_some {i : Nat} {ρ : Rho} {d : D} (h : rd i ρ = .ok d) : ρ[i]? = some (some d) := by
  unfold rd at h
  split at h
  · rename_i q; cases h; exact q
  · cases h
theorem dssT_ret (i j : Nat) {k1 : Nat} (hi : i ∉ own := by decide) (hj : j ∈ own := by decide) (hNi : X.N[i]? = some x := by rfl) (hNj : X.N[j]? = some y := by rfl)
    (hvi : Vis X.env.scope x := by first | exact Or.inl rfl | exact Or.inr (Or.inl rfl) | exact Or.inr (Or.inr rfl)) (hvj : Vis X.env.scope y := by first | exact Or.inl rfl | exact Or.inr (Or.inl rfl) | exact Or.inr (Or.inr rfl))
    (hdi : (x == ("__debug__" : Str)) = false := by decide) (hdj : (y == ("__debug__" : Str)) = false := by decide) (hci : (x == ("__classdict__" : Str)) = false := by decide) (hcj : (y == ("__classdict__" : Str)) = false := by decide)
    (hs1 : starEach [.Name x p1, .Name y p2] X.env = (false, eval (.Name x p1) X.env) :: starEach [.Name y p2] X.env := by rfl) (hs2 : starEach [.Name y p2] X.env = (false, eval (.Name y p2) X.env) :: starEach [] X.env := by rfl) :
    DSsT X K mg E own [.Return (some (.Tuple [.Name x p1, .Name y p2] k1 tpos)) pos] (tRet (tTup (tCons (tVar i) (tCons (tVar j) tNil)))) (gRet (mkTup (aCons (rd i) (aCons (rd j) aNil)))) :=
  ⟨pss_one (ps_ret (pe_tup (pa_cons (pe_var hNi hvi hdi hci) (pa_cons (pe_var hNj hvj hdj hcj) pa_nil hs2) hs1))), fun O H0 ρ σ H D en w => by
    have key : ∃ d1 d2, rd i ρ = .ok d1 ∧ rd j ρ = .ok d2 := by
      unfold gRet mkTup aCons aNil at w
      cases q1 : rd i ρ with
      | exc c => exfalso; unfold rd at q1; split at q1 <;> cases q1
      | bad => rw [q1] at w; exact w.elim
      | ok d1 =>
        cases q2 : rd j ρ with
        | exc c => exfalso; unfold rd at q2; split at q2 <;> cases q2
        | bad => rw [q1] at w; simp only [bind_ok, q2] at w; exact w.elim
        | ok d2 => exact ⟨d1, d2, rfl, rfl⟩
    obtain ⟨d1, d2, q1, q2⟩ := key
    have e : gRet (mkTup (aCons (rd i) (aCons (rd j) aNil))) ρ = .rt (.tuple [d1, d2]) := by
      unfold gRet mkTup aCons aNil
      rw [q1]
      simp only [bind_ok, q2]
      rfl
    rw [e] at w
    obtain ⟨v, a1, b1⟩ := en.sh i d1 hi (rd_some q1)
    obtain ⟨a, a2, b2⟩ := en.ow j d2 hj (rd_some q2)
    refine ⟨v, a1, .ref a, a2, (by decide : 2 ≤ sizeLine), fun t nt => w _ _ (en.base.trans (same_new nt)) ⟨t, v, a, d1, d2, rfl, rfl, fun z => ?_, upd_same, en.new a ⟨j, hj, a2⟩, ?_, ?_⟩⟩
    · exact (en.domA) t (.inl z) nt
    · exact b1.mono fun b o z => by
        obtain ⟨c, q⟩ := cut_some z
        rw [cut_out, upd_ne (ne_of_none q nt)]
        · exact q
        · rintro (z | z)
          · exact c (.inl z)
          · exact c (.inr ⟨j, hj, by rw [z]; exact a2⟩)
    · have mo : Same (Cut (AllA O own σ) H) (Cut (Plus O a) (upd H t (.tup [v, .ref a]))) := fun b o z => by
        obtain ⟨c, q⟩ := cut_some z
        rw [cut_out, upd_ne (ne_of_none q nt)]
        · exact q
        · rintro (z | z)
          · exact c (.inl z)
          · exact c (.inr ⟨j, hj, by rw [z]; exact a2⟩)
      cases b2 with
      | lst q z => exact .lst (by rw [upd_ne (ne_of_none q nt)]; exact q) (z.mono mo)
      | dic q z => exact .dic (by rw [upd_ne (ne_of_none q nt)]; exact q) (z.mono mo), ret_nn⟩
theorem dssT_cons (h1 : DS X K mg E own own' st t g) (n : NoRt g) (h2 : DSsT X K mg E own' rest u h) : DSsT X K mg E own (st :: rest) (tSeq t u) (gSeq g h) :=
  ⟨pss_cons h1.ps h2.ps, fun O H0 ρ σ H D en w => by
    refine h1.ok O H0 ρ σ H _ en ?_
    unfold gSeq at w
    cases q : g ρ with
    | nx ρ' => rw [q] at w; exact fun σ' H' e' => h2.ok O H0 ρ' σ' H' D e' w
    | rt d => exact (n ρ d q).elim
    | exc c => rw [q] at w; exact w
    | bad => rw [q] at w; exact w, fun ρ ρ' z => by
    unfold gSeq at z
    cases q : g ρ with
    | nx ρ2 => rw [q] at z; exact h2.nn ρ2 ρ' z
    | rt d => rw [q] at z; cases z
    | exc c => rw [q] at z; cases z
    | bad => rw [q] at z; cases z⟩
theorem dssT_freeze (own' : List Nat) (h : DSsT X K mg E own' rest u g) (s : ∀ i ∈ own', i ∈ own := by decide) : DSsT X K mg E own rest u g := ⟨h.ps, fun O H0 ρ σ H D e w => h.ok O H0 ρ σ H D (e.freeze s) w, h.nn⟩
end
section
variable {P : Program} {w : World} {K : PySem.W.Frag} {mg : Str → Option Value} {base : Heap}
theorem mkDefT {x : Str} {st : Stmt} {N ps : List Str} {n : Nat} (g : Gx) {fM : List D → Res D} (hM : fM = run N.length g) (k : Nat) (T : At K mg x st) (S : FnScope N ps (defScope st)) (hn : ps.length = n)
    (hbind : ∀ (kV doc pm : Value) (an : Option Addr) (cdv ct : Value) (us : List Value), us.length = ps.length → bindArgs (PySem.W.fnOf x x (defArgs st) (defBody st) (defScope st) .none kV doc pm an cdv ct) ⟨us, []⟩ = pure (ps.zip us))
    (hbody : ∀ (cdv : Value) (A : Around) (outer : List Env) (s : Shared) (H : Hp) (E : XK) (f : Addr), Room k (A.deeper (envOfC x (defScope st) s.heap.objs.size f cdv)) →
      ∃ (t : TS), DSsT (cxOf CX0 P w K mg base N x (defScope st) f cdv A outer s H E).nox K mg E0' [] (defBody st) t g) : DefT P w K mg base x ps (k + 1) n fM := by
  subst hM
  obtain ⟨f, fd, hm, F⟩ := T.ex
  refine ⟨f, fd, hm, F.kp, (let ⟨oc, od, _, _, _, _, _, _, _, osl, _, lk, _⟩ := F.ex; ⟨oc, od, osl, lk⟩), F.bindsN hbind, F.ok S (fun vs H Q E h => by rw [h.1, hn]) fun cdv A outer s H vs Q E hr h => ?_⟩
  obtain ⟨t, hb⟩ := hbody cdv A outer s H E f hr
  obtain ⟨_, O, ds, dom, r, w⟩ := h
  refine ⟨t, hb.ps.nox, hb.ok O H _ _ H _ (env_start dom r) ?_⟩
  have w := resW_calm (E' := E0') w
  unfold run at w
  cases q : g (ds.map some ++ List.replicate (N.length - ds.length) none) with
  | nx ρ => exact (hb.nn _ _ q).elim
  | rt d => rw [q] at w; exact w
  | exc c => rw [q] at w; exact w
  | bad => rw [q] at w; exact w
/-- x, y = f(..): y becomes own -/
theorem ds_unT {X : Cx} {K : PySem.W.Frag} {mg : Str → Option Value} {own : List Nat} {k n : Nat} {fM : List D → Res D} {x a b : Str} {ps : List Str} {p pos apos bpos tpos spos : Pos} {e : Expr} {es : List Expr} {t : TA} {g : Ax} (i j : Nat) {k1 : Nat}
    (G : DefT X.prog X.w X.K X.mg X.base x ps k n fM) (hr : Room k X.A) (ha : DA X K mg E0' own (e :: es) t g) (hN : X.N.Nodup) (hi : i ∉ own := by decide) (hj : j ∉ own := by decide) (hij : i ≠ j := by decide)
    (hNi : X.N[i]? = some a := by rfl) (hNj : X.N[j]? = some b := by rfl) (hai : Loc X.env.scope a := by first | exact Or.inl rfl | exact Or.inr rfl) (haj : Loc X.env.scope b := by first | exact Or.inl rfl | exact Or.inr rfl)
    (hfi : X.fn a = true ∨ X.env.scope.names.lookup a = some .local := by first | exact .inl rfl | exact .inr rfl | assumption) (hfj : X.fn b = true ∨ X.env.scope.names.lookup b = some .local := by first | exact .inl rfl | exact .inr rfl | assumption)
    (hg : Gl X x := by rfl) (hdb : (x == ("__debug__" : Str)) = false := by decide) (he : starEach (e :: es) X.env = (false, eval e X.env) :: starEach es X.env := by rfl) (hpl : (backTo pos (starEach es X.env)).any (·.1) = false := by rfl)
    (hs : swapsWithSole [.Tuple [.Name a apos, .Name b bpos] k1 tpos] (.Call (.Name x p) (e :: es) [] pos) spos.line X.env = pure false := by rfl) (hw : swappedStores [.Tuple [.Name a apos, .Name b bpos] k1 tpos] (.Call (.Name x p) (e :: es) [] pos) X.env = pure none := by rfl)
    (h1 : (assignEach [.Tuple [.Name a apos, .Name b bpos] k1 tpos] X.env).map (·.2) = [assign (.Tuple [.Name a apos, .Name b bpos] k1 tpos) X.env] := by rfl)
    (hn1 : (assignEach [.Name a apos, .Name b bpos] X.env).length = 2 := by rfl) (hst : (assignEach [.Name a apos, .Name b bpos] X.env).findIdx? (·.1) = none := by rfl)
    (hc1 : (assignEach [.Name a apos, .Name b bpos] X.env).map (·.2) = assign (.Name a apos) X.env :: (assignEach [.Name b bpos] X.env).map (·.2) := by rfl) (hc2 : (assignEach [.Name b bpos] X.env).map (·.2) = assign (.Name b bpos) X.env :: (assignEach [] X.env).map (·.2) := by rfl)
    (hca : X.calm = true := by rfl) (hK : X.K = K := by rfl) (hmg : X.mg = mg := by rfl) :
    DS X K mg E0' own (j :: own) (.Assign [.Tuple [.Name a apos, .Name b bpos] k1 tpos] (.Call (.Name x p) (e :: es) [] pos) spos) (tAsg (tCall (spT K mg n fun ds => (fM ds).calm) [] E0' t) (gTup K 2 (gCons (gName i) (gCons (gName j) gNil)))) (gUn (.tp [i, j]) (callD n fM g)) := by
  subst hK hmg
  obtain ⟨f, fd, hm, hk, _, hb, F⟩ := G.ex
  refine ⟨ps_asg (pe_call F hr hg hm hk hb .nil pass0 ha.pa hdb he hpl) (pg_tup hca (pgs_cons (pg_name hN hNi hai hfi) (pgs_cons (pg_name hN hNj haj hfj) pgs_nil hc2) hc1) hn1 hst) hs hw h1, fun O H0 ρ σ H D en w => ?_⟩
  have w := outW_out en w
  unfold callD at w
  rw [resW_bind] at w
  refine ha.ok O H0 ρ σ H _ en (w.mono (Same.refl H) fun ds wd vs H1 s1 r1 => ?_)
  by_cases c : ds.length = n
  · rw [if_pos c] at wd
    rw [List.append_nil]
    have wd' : ResW X.mg E0' H (fun d => OutW X.K X.mg E0' O H0 (j :: own) D (match (Tgt.tp [i, j]).put d ρ with | some ρ' => .nx ρ' | none => .bad)) ((fM ds).calm) := by
      cases q : fM ds with
      | ok d => rw [q] at wd; exact wd
      | exc c => rw [q] at wd; obtain ⟨_, _, z⟩ := wd; exact (z H (Same.refl H)).elim
      | bad => rw [q] at wd; exact wd
    refine ⟨by rw [r1.length, c], AllA O own σ, ds, en.domA.same s1, r1, wd'.mono s1 fun d kd v H' s r => ?_⟩
    obtain ⟨tt, xv, q, d1, d2, rfl, rfl, nt, ht, np, ra, rb⟩ := r
    refine ⟨tt, [xv, .ref q], rfl, .inl (.inl ht), rfl, xv, [.ref q], rfl, .ref q, [], rfl, rfl, ?_⟩
    have kd : ∀ σ H2, EnvOk X.K O H0 (j :: own) ((ρ.set i (some d1)).set j (some d2)) σ H2 → D.nx σ H2 := kd
    refine kd _ _ ?_
    have e1 := en.setNew (i := j) (p := q) (d := d2) hj (s1.trans s) (s1.free np) rb
    have e2 := e1.setSh (i := i) (v := xv) (d := d1) (fun z => (List.mem_cons.mp z).elim (fun z => hij z) hi) (ra.mono (cut_mono fun b z => by
      rcases z with z | z
      · exact .inl (.inl z)
      · rcases own_put hj z with z | z
        · exact .inr z
        · exact .inl (.inr z)))
    rw [List.set_comm _ _ hij.symm, List.set_comm _ _ hij.symm] at e2
    exact e2
  · rw [if_neg c] at wd; exact wd.elim
end
end DL
end

section
set_option Elab.async false
set_option linter.all false
set_option maxRecDepth 100000
set_option maxHeartbeats 2000000
set_option autoImplicit false
/-! DL20: comprehensions that let an exception out. -/
namespace DL
open PySem PySem.Spec PyProof.Rows L2

/-! ### an exception in the air, noted by whatever frame -/
section
open HandSPX
variable {M : Model} {A : Around} {E : Value → Shared → Prop} {s : Shared} {Z : Obj → Prop} {base : Heap} {env : Env} {outer l : List Env} {L e : Addr}
/-- fresh; or with a traceback, in flight at whatever frame -/
def SkyA (B : Heap) (l : List Env) (a : Addr) (Z : Obj → Prop) (h : Heap) : Prop :=
  B.StaysIn h ∧ B.get? a = none ∧ h.FunFrames B l ∧ ((∃ oe vs, h.get? a = some oe ∧ Z oe ∧ oe.data = .fields vs ∧ vs[1]? = some .none) ∨ ∃ fl, TracedZ h B a Z fl)
theorem skyA_of {B : Heap} {l : List Env} {a L : Addr} {Z : Obj → Prop} {h : Heap} (x : Sky B l a Z L h) : SkyA B l a Z h := by
  rcases x with ⟨h1, h2, h3, h4⟩ | ⟨h1, h2, h3, h4⟩ | ⟨h1, h2, h3, h4⟩
  · exact ⟨h1, h2, h3, .inl h4⟩
  · exact ⟨h1, h2, h3, .inr ⟨_, h4⟩⟩
  · exact ⟨h1, h2, h3, .inr ⟨_, h4⟩⟩
/-- the frame notes it -/
theorem noteA {Q : Unit → Shared → Prop} (hZ : Steady Z) (hfr : A.frames = some (env :: outer)) (hf : env.frame = some L) (x : SkyA base (env :: outer) e Z s.heap)
    (hQ : ∀ h', HeldZ base (env :: outer) e Z L h' → s.heap.UpToSlots h' → Q () { s with heap := h' }) : wpAny M A (noteFrame (.ref e) env) Q E s := by
  obtain ⟨hkb, hen, hl, x⟩ := x
  rcases x with ⟨oe, vs, he, hz, hd, h1⟩ | ⟨fl, ht⟩
  · exact look_newZ hZ hfr hl hf he hkb hen hd h1 hz hQ
  · by_cases c : fl = rawInt L
    · rw [c] at ht
      exact againZ hf ht (hQ s.heap ⟨hkb, hen, hl, ht⟩ (Heap.UpToSlots.refl _))
    · obtain ⟨oe, vs, T, oT, ts, he, hz, hd, h1, hnT, hTe, hT, hdT, h3⟩ := ht
      unfold noteFrame
      simp only [hf]
      refine wpAny_bind (wpAny_field he hd h1 ?_)
      rw [if_pos (show (Value.ref T != Value.none) = true from by simp)]
      refine wpAny_bind (wpAny_field hT hdT h3 ?_)
      rw [if_neg (show ¬ ((fl == rawInt L) = true) from fun z => c (eq_of_beq z))]
      refine wpAny_bind (wpAny_setField hT hdT (Array.getElem?_eq_some_iff.mp h3).1 ?_)
      have other : ∀ b, b ≠ T → (s.heap.update T (Obj.mapFields (·.setIfInBounds 3 Value.none))).get? b = s.heap.get? b := fun b hb => Heap.get?_update_other _ _ (Ne.symm hb)
      have noRec : ∀ b o, s.heap.get? b = some o → (∀ vs, o.data ≠ .fields vs) → b ≠ T := fun b o hb hnf q => by
        rw [q, hT] at hb
        cases hb
        exact hnf ts hdT
      refine wpAny_entryZ hZ hfr (hl.of_keeps fun b o hb hnf => ⟨o, (other b (noRec b o hb hnf)).trans hb, rfl⟩) hf ((other e (Ne.symm hTe)).trans he)
        (fun b o hbo => (other b fun q => by rw [q, hnT] at hbo; cases hbo).trans (hkb b o hbo)) hen hd (Array.getElem?_eq_some_iff.mp h1).1 hz fun h' hN => ?_
      obtain ⟨x1, x2, x3, x4⟩ := hN
      exact hQ h' ⟨x1, hen, x2, x3⟩ fun b o hb hnf => x4 b o ((other b (noRec b o hb hnf)).trans hb) hnf
/-- a block of the same frame notes alike -/
theorem note_same {env env' : Env} (h : env'.frame = env.frame) (x : Value) : noteFrame x env' = noteFrame x env := by
  unfold noteFrame PySem.frameOf
  rw [h]
end

/-! ### contexts that let exceptions out -/
def AirA (X : Cx) (E : XK) (u : Value) (s' : Shared) : Prop :=
  ∃ (a : Addr) (B : Heap) (sI : Shared) (pins : List (Addr × Obj)) (σ : L2.St) (H : Hp) (cls : Value) (d : Option Addr),
    u = .ref a ∧ Inv X pins σ H sI ∧ (∀ b o, sI.heap.get? b = some o → b ∉ frs X.stack → B.get? b = some o) ∧ sI.heap.UpToSlots s'.heap ∧
      SkyA B X.stack a (Zc cls d) s'.heap ∧ H a = none ∧ s'.os = sI.os ∧ AllBare s'.gens ∧ E cls d H
structure Lets (X : Cx) (E : XK) : Prop where
  fr : ∃ envF outer L, X.stack = envF :: outer ∧ envF.frame = some L ∧ X.env.frame = some L
  air : ∀ u s', AirA X E u s' → X.xe u s'
theorem Lets.passes {X : Cx} {E : XK} (l : Lets X E) : Passes (L2.CX X.prog X.w) X E := fun pins σ H s e s' I c => by
  have x : XE X (fun cls d _ H => E cls d H) e s' := XE.of_call I (fun _ _ _ h => h) c
  obtain ⟨a, B, sI, pins, σ, H, cls, d, e1, J, nb, up, sky, na, os, ag, w⟩ := x
  exact l.air _ _ ⟨a, B, sI, pins, σ, H, cls, d, e1, J, nb, up, skyA_of sky, na, os, ag, w⟩
/-- a def's own context -/
theorem lets_def {X : Cx} {E : XK} {E₁ : Value → Shared → Prop} (hs : X.stack = X.env :: X.outer) (hf : X.env.frame = some X.env.locals) (hex : X.ex = [])
    (hx : X.xe = fun e s' => wpAny (model X.prog X.w) X.A (leaving X.env e) (fun _ s'' => L2.CX X.prog X.w X.outer X.H_0 X.s_0 E e s'') E₁ s') : Lets X E :=
  ⟨⟨X.env, X.outer, X.env.locals, hs, hf, hf⟩, fun u s' x => by
    obtain ⟨a, B, sI, pins, σ, H, cls, d, rfl, I, nb, up, sky, na, os, ag, w⟩ := x
    rw [hx]
    show wpAny (model X.prog X.w) X.A (leaving X.env (.ref a)) _ _ _
    have hfr : X.A.frames = some (X.env :: X.outer) := by rw [I.ok.frames, hs]
    have hokB := I.inGround nb
    have nst : ∀ b o, X.s_0.heap.get? b = some o → b ∉ X.fs → b ∉ frs X.stack := fun b o e hb hm => by
      rcases List.mem_cons.mp (I.stkSub b hm) with z | z
      · have h1 := Heap.lt_size e
        rw [z] at h1
        exact absurd (Nat.lt_of_lt_of_le h1 I.ok.above) (Nat.lt_irrefl _)
      · exact hb z
    have hex' : ∀ b, b ∉ X.ex := fun b hb => by rw [hex] at hb; cases hb
    rw [hs] at sky
    unfold leaving
    refine wpAny_bind (noteA Zc.steady hfr hf sky fun h1 hh up1 => ?_)
    refine HandSPX.landsZ hh fun h2 fl up2 => ?_
    obtain ⟨k1, k2, ⟨_, _, k3⟩, k4⟩ := fl
    refine ⟨a, B, H, cls, d, rfl, ⟨k1, k2, k3, k4⟩, hokB, ⟨fun b o e n hb => nb b o (I.base.keep b o e n hb (hex' b)) (nst b o e hb), fun b o e hb => ?_, fun b o e n => I.base.free b o e n (hex' b), fun b o e hb => ?_, I.base.tups, I.base.frzs, I.base.tbls⟩,
      na, os.trans I.os, ag, w⟩
    · obtain ⟨_, o₀, e₀, hnf⟩ := I.ok.funs.mem hb
      rw [e] at e₀
      cases e₀
      obtain ⟨sl, e1⟩ := I.base.slot b o e (I.ok.frf b hb) hb (hex' b)
      obtain ⟨sl2, e2⟩ := up b _ e1 hnf
      obtain ⟨sl3, e3⟩ := up1 b _ e2 hnf
      obtain ⟨sl4, e4⟩ := up2 b _ e3 hnf
      exact ⟨sl4, e4⟩
    · obtain ⟨o', e1⟩ := I.base.there b o e (hex' b)
      exact ⟨o', nb b o' e1 (nst b o e hb)⟩⟩
abbrev xeC (X : Cx) (ce : Env) (Qf : Value → Shared → Prop) (D : Addr) : Value → Shared → Prop :=
  notedBy (model X.prog X.w) X.A ce fun e s' => compPost (model X.prog X.w) X.A X.xe none Qf (.ref D) ce.locals (.error e) s'
/-- a comprehension's block -/
theorem lets_blk {X : Cx} {E : XK} (lx : Lets X E) {pins : List (Addr × Obj)} {σ : L2.St} {H3 : Hp} {s3 : Shared} {scope : Scope} {ce : Env} {fp : List Addr} {Qf : Value → Shared → Prop} {D : Addr}
    (I3 : Inv X pins σ H3 s3) (f3 : ∀ b ∈ fp, FpOk X pins H3 b ∧ b < s3.heap.objs.size) (cL : ce.locals = s3.heap.objs.size) (cF : ce.frame = X.env.frame) :
    Lets ((X.blk s3 H3 scope ce fp).wish (xeC X ce Qf D)) E := by
  obtain ⟨envF, outer, L, hs, hf, hfx⟩ := lx.fr
  refine ⟨⟨envF, outer, L, hs, hf, cF.trans hfx⟩, fun u s' x => ?_⟩
  obtain ⟨a, B, sI, pins1, σ1, H1, cls, d, rfl, I1, nb, up, sky, na, os, ag, w⟩ := x
  have nb : ∀ b o, sI.heap.get? b = some o → b ∉ frs X.stack → B.get? b = some o := nb
  have sky : SkyA B X.stack a (Zc cls d) s'.heap := sky
  have hfr : X.A.frames = some (envF :: outer) := by rw [I3.ok.frames, hs]
  have nC : H1 s3.heap.objs.size = none := by
    have z : H1 ce.locals = none := I1.free
    rw [cL] at z
    exact z
  have fC := I3.fpOk (Nat.le_refl _) nC
  have nCs : s3.heap.objs.size ∉ frs X.stack := fun hm => by
    rcases List.mem_cons.mp (I3.stkSub _ hm) with z | z
    · exact fC.2.1 z
    · exact fC.2.2.1 z
  show wpAny _ _ (noteFrame (.ref a) ce) _ _ _
  rw [note_same (env := envF) (cF.trans (hfx.trans hf.symm))]
  rw [hs] at sky
  refine noteA Zc.steady hfr hf sky fun h1 hh up1 => ?_
  obtain ⟨hkb, hen, hl, oe, vs, T, oT, ts, he, hz, hd, h1v, hnT, hTe, hT, hdT, h3⟩ := hh
  obtain ⟨m, ⟨oC, es, ep, hoC, dC, kC, fCn⟩, _⟩ := I1.loc
  have hoC : sI.heap.get? ce.locals = some oC := hoC
  rw [cL] at hoC
  have hC1 : h1.get? s3.heap.objs.size = some oC := hkb _ _ (nb _ _ hoC nCs)
  have naC : a ≠ s3.heap.objs.size := fun z => by
    rw [z, hC1] at he
    cases he
    rw [dC] at hd
    cases hd
  have nTC : T ≠ s3.heap.objs.size := fun z => by
    rw [z, hC1] at hT
    cases hT
    rw [dC] at hdT
    cases hdT
  show ∃ m, h1.Ns ce.locals m ∧ _
  rw [cL]
  refine ⟨m, ⟨oC, es, ep, hC1, dC, kC, fCn⟩, fun h' sb cenv' _ => ?_⟩
  have g2 : ∀ b, b ≠ s3.heap.objs.size → h'.get? b = h1.get? b := sb.2
  unfold PySem.passOn
  refine wpAny_bind (wpAny_field (o := oe) ((g2 a naC).trans he) hd h1v ?_)
  rw [if_neg (show ¬ ((Value.ref T == Value.none) = true) from by simp)]
  have J0 : Inv X pins σ H1 sI := I3.call' (ch := fp) I1.os I1.base I1.hok I1.bare fun b hb => ⟨(f3 b hb).1.2.2.2.1, (f3 b hb).1.2.1, (f3 b hb).1.2.2.2.2.1, (f3 b hb).1.2.2.2.2.2⟩
  obtain ⟨q0, q1, q2, q3, q4, q5⟩ := fC
  have J : Inv X pins σ H1 { sI with heap := PySem.W.hideAll sI.heap [s3.heap.objs.size], toks := sI.toks } :=
    J0.turned (t' := sI.toks) (fun b o hb e => PySem.W.hideAll_get _ e (by simpa using hb)) q0 q1 q3 q4 q5
  have ff : h'.FunFrames (PySem.W.hideAll B [s3.heap.objs.size]) (envF :: outer) := by
    have key : ∀ l : List Env, (∀ b ∈ frs l, b ≠ s3.heap.objs.size) → h1.FunFrames B l → h'.FunFrames (PySem.W.hideAll B [s3.heap.objs.size]) l := by
      intro l
      induction l with
      | nil => intro _ _; trivial
      | cons env r ih =>
        intro hn hh
        obtain ⟨k1, ⟨L', o, k2, k3, k4, k5⟩, k6⟩ := hh
        have hn1 : L' ≠ s3.heap.objs.size := hn L' (by unfold frs; rw [List.filterMap_cons, k2]; exact List.mem_cons_self)
        refine ⟨k1, ⟨L', o, k2, ?_, (g2 L' hn1).trans k4, k5⟩, ih (fun b hb => hn b (by
          unfold frs at hb ⊢
          rw [List.filterMap_cons, k2]
          exact List.mem_cons_of_mem _ hb)) k6⟩
        cases q : (PySem.W.hideAll B [s3.heap.objs.size]).get? L' with
        | none => rfl
        | some o' =>
          have z := PySem.W.of_hideAll _ q
          rw [k3] at z
          cases z
    exact key _ (fun b hb z => nCs (by rw [hs, ← z]; exact hb)) hl
  have hideN : ∀ {b : Addr}, B.get? b = none → (PySem.W.hideAll B [s3.heap.objs.size]).get? b = none := fun {b} hb => by
    cases q : (PySem.W.hideAll B [s3.heap.objs.size]).get? b with
    | none => rfl
    | some o' =>
      have z := PySem.W.of_hideAll _ q
      rw [hb] at z
      cases z
  have kb2 : (PySem.W.hideAll B [s3.heap.objs.size]).StaysIn h' := fun b o e => by
    have z := PySem.W.of_hideAll _ e
    have nb' : b ≠ s3.heap.objs.size := fun y => by
      rw [y, PySem.W.hideAll_none _ (by simp)] at e
      cases e
    exact (g2 b nb').trans (hkb b o z)
  have fin : wpAny (model X.prog X.w) X.A (setFlight (.ref a) cenv'.frame) (fun _ s4 => wpAny (model X.prog X.w) X.A (throw (.ref a) : Sem Value) (fun _ _ => False) X.xe s4) X.xe { s' with heap := h' } := by
    refine HandSPX.setFlight_anyZ (base := PySem.W.hideAll B [s3.heap.objs.size]) (l := envF :: outer) (Z := Zc cls d) (fl := rawInt L) kb2 ff ⟨oe, vs, T, oT, ts, (g2 a naC).trans he, hz, hd, h1v, hideN hnT, hTe, (g2 T nTC).trans hT, hdT, h3⟩ fun h4 k1 k2 k3 k4 => wpAny_throw (lx.air _ _ ?_)
    refine ⟨a, PySem.W.hideAll B [s3.heap.objs.size], _, pins, σ, H1, cls, d, rfl, J, fun b o e hb => ?_, fun b o e hnf => ?_, ⟨k1, hideN hen, by rw [hs]; exact k2, .inr ⟨_, k3⟩⟩, na, os, ag, w⟩
    · have nb' : b ≠ s3.heap.objs.size := fun y => by
        rw [y] at e
        have z := PySem.W.hideAll_none [s3.heap.objs.size] (h := sI.heap) (b := s3.heap.objs.size) (by simp)
        have e : (PySem.W.hideAll sI.heap [s3.heap.objs.size]).get? s3.heap.objs.size = some o := e
        rw [z] at e
        cases e
      exact PySem.W.hideAll_get _ (nb b o (PySem.W.of_hideAll _ e) hb) (by simpa using nb')
    · have nb' : b ≠ s3.heap.objs.size := fun y => by
        rw [y] at e
        have z := PySem.W.hideAll_none [s3.heap.objs.size] (h := sI.heap) (b := s3.heap.objs.size) (by simp)
        have e : (PySem.W.hideAll sI.heap [s3.heap.objs.size]).get? s3.heap.objs.size = some o := e
        rw [z] at e
        cases e
      obtain ⟨sl1, e1⟩ := up b o (PySem.W.of_hideAll _ e) hnf
      obtain ⟨sl2, e2⟩ := up1 b _ e1 hnf
      obtain ⟨sl4, e4⟩ := k4 b _ ((g2 b nb').trans e2) hnf
      exact ⟨sl4, e4⟩
  first
    | exact wpAny_bind (wpAny_pure (wpAny_bind fin))
    | exact wpAny_bind fin

/-! ### the comprehension -/
theorem pe_lcX {X : Cx} {EX : XK} {elt tg iter : Expr} {ifs : List Expr} {scope : Scope} {own : List (Str × Nat)} {pos : Pos} {wi : TI} {g : TG} {tt : TT} {te : TE} (hc : X.calm = true) (hN : X.N.Nodup) (lx : Lets X EX) (hi : PI X tg iter wi) (ok : BlkOk X.N X.env.scope scope own)
    (hg : ∀ (s : Shared) (H : Hp) (C : Addr) (cl : List (Str × Addr)) (fp : List Addr) (xe : Value → Shared → Prop), PG ((X.blk s H scope (compEnvC scope cl C X.env) fp).wish xe) tg g)
    (ht : ∀ (s : Shared) (H : Hp) (C : Addr) (cl : List (Str × Addr)) (fp : List Addr) (xe : Value → Shared → Prop), PTs ((X.blk s H scope (compEnvC scope cl C X.env) fp).wish xe) ifs tt)
    (he : ∀ (s : Shared) (H : Hp) (C : Addr) (cl : List (Str × Addr)) (fp : List Addr) (xe : Value → Shared → Prop), Lets ((X.blk s H scope (compEnvC scope cl C X.env) fp).wish xe) EX → PE ((X.blk s H scope (compEnvC scope cl C X.env) fp).wish xe) elt te) (hs : ∀ x, foldedSetIterable iter X.env x = pure x := by intro _; rfl) :
    PE X (.ListComp elt [⟨tg, iter, ifs, 0⟩] scope pos) (tLc wi g tt te (own.map (·.2))) := by
  refine ⟨fun pins s σ H Q I h => ?_⟩
  rw [eval_ListComp]
  have hfree : ∀ y ∈ scope.names, y.2 = .free → ∃ c, X.env.cells.lookup y.1 = some c := fun y hy e => (ok.free y hy e).elim (fun k => I.ok.has _ (.inl k)) fun k => I.ok.has _ (.inr k)
  refine wpAny_comprehension_free (use := none) rfl hs (closure_ok hfree) ok.kind (fun y hy e => by rw [ok.uniq y hy, e]) (thn (hi.run pins s σ H _ I h) fun xv s1 hx => thn hx fun itv s2 h2 => ?_)
  obtain ⟨it, fp, tn, J, H2, e, I2, T, st2, f2, q⟩ := h2
  subst e
  refine wpAny_newObj_type (newEnv_comp ?_) (by show 0 ≤ sizeLine; decide)
  generalize hD : s2.heap.objs.size = D
  have hDn : H2 D = none := I2.hok.fresh (Nat.le_of_eq hD)
  obtain ⟨W, ⟨m0, w0⟩, turn⟩ := q D hDn
  generalize hs3 : ({ s2 with heap := s2.heap.push { cls := .type "list", data := .seq ([] : List Value).toArray } } : Shared) = s3
  have I3 : Inv X pins σ (upd H2 D (.lst [])) s3 := by
    rw [← hs3]
    refine I2.laid (t' := s2.toks) (fun b o e => Heap.get?_push_of_some _ e) (Nat.le_of_eq hD) ⟨Nat.zero_le _, [], 0, .nil, ?_⟩
    rw [← hD]
    exact Heap.get?_push_size _ rfl
  have h3 : s3.heap = s2.heap.push { cls := .type "list", data := .seq ([] : List Value).toArray } := by rw [← hs3]
  have f3 : ∀ b ∈ fp, FpOk X pins (upd H2 D (.lst [])) b ∧ b < s3.heap.objs.size := fun b hb => by
    obtain ⟨o, e, _⟩ := T.obj _ _ st2 b hb
    have hlt := Heap.lt_size e
    refine ⟨⟨?_, (f2 b hb).2⟩, by rw [h3, Heap.size_push]; exact Nat.lt_succ_of_lt hlt⟩
    rw [upd_ne (by rw [← hD]; exact Nat.ne_of_lt hlt)]
    exact (f2 b hb).1
  have st3 : tn 0 s3.heap := T.keep _ _ _ st2 fun b _ o e => by rw [h3]; exact Heap.get?_push_of_some _ e
  have I4 := block_start I3 ok hN f3
  have pg := hg s3 (upd H2 D (.lst [])) s3.heap.objs.size (cellsFrom (s3.heap.objs.size + 1) scope.names (cloFrom X.env.cells scope.names [])) fp
  have pt := ht s3 (upd H2 D (.lst [])) s3.heap.objs.size (cellsFrom (s3.heap.objs.size + 1) scope.names (cloFrom X.env.cells scope.names [])) fp
  have pe := he s3 (upd H2 D (.lst [])) s3.heap.objs.size (cellsFrom (s3.heap.objs.size + 1) scope.names (cloFrom X.env.cells scope.names [])) fp
  generalize hQf : EP X pins σ Q = Qf
  show codeAny _ _ (.compStart (.ListComp elt [⟨tg, iter, ifs, 0⟩] scope pos) 0 (.ref it) (.ref D) (compEnvC scope (cellsFrom (s3.heap.objs.size + 1) scope.names (cloFrom X.env.cells scope.names [])) s3.heap.objs.size X.env)) (compPost (model X.prog X.w) X.A X.xe none Qf (.ref D) s3.heap.objs.size) { s3 with heap := pushCells (s3.heap.push { cls := .type "dict", data := .dict #[] }) scope.names }
  have nfp : ∀ b ∈ fp, (upd H2 D (.lst [])) b = none := fun b hb => (f3 b hb).1.1
  have cF : (compEnvC scope (cellsFrom (s3.heap.objs.size + 1) scope.names (cloFrom X.env.cells scope.names [])) s3.heap.objs.size X.env).frame = X.env.frame := rfl
  generalize hce : compEnvC scope (cellsFrom (s3.heap.objs.size + 1) scope.names (cloFrom X.env.cells scope.names [])) s3.heap.objs.size X.env = ce at I4 pg pt pe cF ⊢
  have cL : ce.locals = s3.heap.objs.size := by subst hce; rfl
  generalize hH3 : upd H2 D (.lst []) = H3 at I3 I4 pg pt pe w0 nfp f3
  generalize hs4 : ({ s3 with heap := pushCells (s3.heap.push { cls := .type "dict", data := .dict #[] }) scope.names } : Shared) = s4 at I4 ⊢
  have st4 : tn 0 s4.heap := T.keep _ _ _ st3 fun b _ o e => by rw [← hs4]; exact pushCells_keeps _ _ _ _ (Heap.get?_push_of_some _ e)
  have lb := lets_blk lx (Qf := Qf) (D := D) (scope := scope) I3 f3 cL cF
  have pg := pg (xeC X ce Qf D)
  have pt := pt (xeC X ce Qf D)
  have pe := pe (xeC X ce Qf D) lb
  have I4 : Inv ((X.blk s3 H3 scope ce fp).wish (xeC X ce Qf D)) [] (wipe σ (own.map (·.2))) H3 s4 := I4.wish _
  generalize hX1 : (X.blk s3 H3 scope ce fp).wish (xeC X ce Qf D) = X1 at pg pt pe I4 lb
  have stat : ∀ {σ' : L2.St} {H' : Hp} {s' : Shared}, Inv X1 [] σ' H' s' → (∀ b ∈ fp, H' b = none) → ∀ b ∈ fp, FpOk X1 [] H' b := fun {σ' H' s'} I' hn b hb => by
    subst hX1
    exact ⟨hn b hb, (I'.ok.exf b hb).1, I'.ok.exfs b hb, .inl hb, fun x c e => (I'.ok.exf b hb).2 x c e, fun p hp => absurd (show p ∈ ([] : List (Addr × Obj)) ++ [] from hp) (by simp)⟩
  have hxe : X1.xe = notedBy (model X.prog X.w) X.A ce fun e s' => compPost (model X.prog X.w) X.A X.xe none Qf (.ref D) s3.heap.objs.size (.error e) s' := by
    rw [← hX1, ← cL]
  have hcal : X1.calm = true := by rw [← hX1]; exact hc
  have hp1 : X1.prog = X.prog := by rw [← hX1]
  have hw1 : X1.w = X.w := by rw [← hX1]
  have hA1 : X1.A = X.A := by rw [← hX1]
  have he1 : X1.env = ce := by rw [← hX1]
  have loop : codeAny (model X.prog X.w) X.A (.compLoop (.ListComp elt [⟨tg, iter, ifs, 0⟩] scope pos) 0 (.ref it) (.ref D) ce) (compPost (model X.prog X.w) X.A X.xe none Qf (.ref D) s3.heap.objs.size) s4 := by
    refine compLoop_any (fun n s' => ∃ i H', Inv X1 [] (wipe σ (own.map (·.2))) H' s' ∧ tn i s'.heap ∧ (∀ b ∈ fp, H' b = none) ∧ W i n H') ?_ m0 ⟨0, H3, I4, st4, nfp, w0⟩
    rintro n s5 ⟨i, H5, I5, st5, n5, w5⟩
    rcases turn i n H5 w5 with ⟨stop, qq⟩ | ⟨go, Nx, hNx, step⟩
    · subst hX1
      have td := T.done ((X.blk s3 H3 scope ce fp).wish (xeC X ce Qf D)) rfl rfl rfl hc i [] s5 _ H5 (fun _ _ => False) I5 (stat I5 n5) st5 stop
      refine thnF td fun r s6 ⟨hr, I6⟩ => ?_
      subst hr
      have I7 : Inv X pins σ H5 s6 := I3.call' (ch := fp) I6.os I6.base I6.hok I6.bare fun b hb => ⟨(f3 b hb).1.2.2.2.1, (f3 b hb).1.2.1, (f3 b hb).1.2.2.2.2.1, (f3 b hb).1.2.2.2.2.2⟩
      have nC : H5 s3.heap.objs.size = none := by
        have z : H5 ce.locals = none := I6.free
        rw [cL] at z
        exact z
      obtain ⟨m, hn, _⟩ := I6.loc
      have hn : s6.heap.Ns ce.locals m := hn
      rw [cL] at hn
      refine ⟨m, hn, fun h'' sb => ?_⟩
      obtain ⟨q0, q1, q2, q3, q4, q5⟩ := I3.fpOk (Nat.le_refl _) nC
      rw [← hQf]
      exact ⟨.ref D, H5, I7.turned (t' := s6.toks) (fun b o hb e => (sb.2 b hb).trans e) q0 q1 q3 q4 q5, rfl, qq⟩
    · subst hX1
      have ti := T.item ((X.blk s3 H3 scope ce fp).wish (xeC X ce Qf D)) rfl rfl rfl hc i [] s5 _ H5 (fun _ _ => False) I5 (stat I5 n5) st5 go
      refine thnF ti fun r s6 ⟨u, hr, h6⟩ => ?_
      subst hr
      refine thnF h6 fun _ s7 ⟨x, H7, I7, r7, y7, st7, n7⟩ => ?_
      have I7' := I7.pinned (stat I7 n7) (T.obj _ _ st7)
      rw [← hxe]
      refine thn (pg.run _ s7 _ H7 x u _ I7' r7 (step x H7 y7)) fun _ s8 ⟨σ8, H8, I8, hw8, q8⟩ => ?_
      refine thn (pt.run _ s8 σ8 H8 _ I8 q8) fun b s9 ⟨H9, I9, q9⟩ => ?_
      have fin : ∀ {s' : Shared} {H' : Hp}, Inv ((X.blk s3 H3 scope ce fp).wish (xeC X ce Qf D)) ([] ++ pinsAt fp s7.heap) σ8 H' s' → Nx H' → ∃ m, m < n ∧ ∃ i H', Inv ((X.blk s3 H3 scope ce fp).wish (xeC X ce Qf D)) [] (wipe σ (own.map (·.2))) H' s' ∧ tn i s'.heap ∧ (∀ b ∈ fp, H' b = none) ∧ W i m H' := fun {s' H'} I' nx => by
        obtain ⟨m', hm, w'⟩ := hNx H' nx
        have pin' : ∀ b ∈ fp, ∀ o, s7.heap.get? b = some o → s'.heap.get? b = some o ∧ H' b = none := fun b hb o e =>
          let z := I'.pin (b, o) (List.mem_append_right _ (List.mem_append_right _ (mem_pinsAt hb e)))
          ⟨z.1, z.2.1⟩
        have hl : (wipe σ (own.map (·.2))).length = σ8.length := by rw [← hw8, wipe_length]
        refine ⟨m', hm, i + 1, H', (I'.unpinned (pins := [])).weak hl (fun j v e => ?_), T.keep _ _ _ st7 fun b hb o e => (pin' b hb o e).1, fun b hb => ?_, w'⟩
        · rw [← hw8] at e
          exact (wipe_some e).1
        · obtain ⟨o, e, _⟩ := T.obj _ _ st7 b hb
          exact (pin' b hb o e).2
      cases b with
      | false =>
        simp only [Bool.false_eq_true, if_false] at q9 ⊢
        exact fin I9 q9
      | true =>
        simp only [if_true] at q9 ⊢
        refine thn (pe.run _ s9 σ8 H9 _ I9 q9) fun z s10 ⟨yv, H10, I10, r10, acc, hD10, hz10, nx⟩ => ?_
        exact app_ok (X := (X.blk s3 H3 scope ce fp).wish (xeC X ce Qf D)) I10 hD10 hz10 r10 fun s11 I11 => fin I11 nx
  exact codeAny_compStart_list loop (T.self X.A 0 _ _ _ st4 loop)

/-! ### .. in the layer -/
def compLX (tg : Tgt) (ft : Tx) (fe : Ex) (ρ : Rho) : List D → Res (List D)
  | [] => .ok []
  | d :: r => match tg.put d ρ with
    | none => .bad
    | some ρ' => (ft ρ').calm.bind fun b => if b = true then (fe ρ').bind fun x => (compLX tg ft fe ρ r).bind fun xs => .ok (x :: xs) else compLX tg ft fe ρ r
/-- a comprehension whose element may raise -/
def compX (vs : List Nat) (tg : Tgt) (fi : Ax) (ft : Tx) (fe : Ex) : Ex := fun ρ => (fi ρ).bind fun items => if items.length ≤ sizeLine then (compLX tg ft fe (wipeR ρ vs) items).bind fun ds => .ok (.list ds) else .bad
section
variable {K : PySem.W.Frag} {mg : Str → Option Value} {E : XK} {own vs : List Nat} {wi : TI} {g : TG} {tt : TT} {te : TE} {tg : Tgt} {fi : Ax} {ft : Tx} {fe : Ex}
theorem tf_lcX (hi : TIok K mg E own wi fi) (hg : TGok K own g tg) (ht : TTok K mg E0' own tt ft) (he : TEok K mg E own te fe) (hv : ∀ i ∈ vs, i ∉ own) (hs : ∀ i ∈ tg.slots, i ∈ vs) : TFok K mg E own (tLc wi g tt te vs) (compX vs tg fi ft fe) := fun O H0 ρ σ H Q en w => by
  unfold compX at w
  rw [resW_bind] at w
  refine hi O H0 ρ σ H _ en (w.mono (Same.refl H) fun items wi J H1 s1 it => ?_)
  by_cases cz : items.length ≤ sizeLine
  case neg => rw [if_neg cz] at wi; exact wi.elim
  rw [if_pos cz, resW_bind] at wi
  intro Dl nD
  generalize hA : AllA O own σ = A at it wi
  have wi1 : ResW mg E H1 (fun ds => ∀ p H', Same H H' → H p = none → OwnR K (Cut (Plus A p) H') H' p (.list ([] ++ ds)) → Q (.ref p) H') (compLX tg ft fe (wipeR ρ vs) (items.drop 0)) := by
    rw [List.drop_zero]
    exact wi.mono s1 fun ds k => k
  have en1 := en.mono s1
  have hP : ∀ a, Plus A Dl a → Cut A H1 a = none := fun a h => by
    rcases h with h | h
    · exact cut_in h
    · subst h
      by_cases c : A a
      · exact cut_in c
      · rw [cut_out c]; exact nD
  refine ⟨fun i m H' => m = items.length - i ∧ i ≤ items.length ∧ ∃ acc xs, H' Dl = some (.lst acc) ∧ Same H1 H' ∧ RAll K (Cut (Plus A Dl) H') acc xs ∧ acc.length ≤ i ∧ ResW mg E H1 (fun rest => ∀ p H', Same H H' → H p = none → OwnR K (Cut (Plus A p) H') H' p (.list (xs ++ rest)) → Q (.ref p) H') (compLX tg ft fe (wipeR ρ vs) (items.drop i)),
    ⟨items.length, by simp, Nat.zero_le _, [], [], upd_same, same_new nD, .nil, Nat.zero_le _, wi1⟩, ?_⟩
  rintro i m H' ⟨rfl, hi', acc, xs, hD, sm, ra, la, hr⟩
  have sb : Same (Cut A H1) H' := fun a o h => sm a o (cut_sub a o h)
  by_cases hlt : i < items.length
  · refine .inr ⟨it.go i H' hlt sb, fun H2 => ∃ acc xs, H2 Dl = some (.lst acc) ∧ Same H1 H2 ∧ RAll K (Cut (Plus A Dl) H2) acc xs ∧ acc.length ≤ i + 1 ∧ ResW mg E H1 (fun rest => ∀ p H', Same H H' → H p = none → OwnR K (Cut (Plus A p) H') H' p (.list (xs ++ rest)) → Q (.ref p) H') (compLX tg ft fe (wipeR ρ vs) (items.drop (i + 1))), fun H2 h => ⟨items.length - (i + 1), by omega, rfl, hlt, h⟩, fun x H2 y => ?_⟩
    obtain ⟨s2, rx⟩ := it.yld i items[i] x H' H2 (by simp [hlt]) sb y
    have dm : Dom (Plus A Dl) H' := fun a h z => by
      rcases h with h | h
      · exact (hA ▸ en1.domA).same sm a h z
      · subst h; rw [hD] at z; cases z
    have rx := rx (Plus A Dl) dm hP
    have hD2 : H2 Dl = some (.lst acc) := s2 _ _ hD
    have sm2 : Same H1 H2 := sm.trans s2
    have eu : EnvOk K (Plus O Dl) (fun a => if a = Dl then H2 Dl else H0 a) own (wipeR ρ vs) (L2.wipe σ vs) H2 := (en1.under nD sm2 (by rw [hD2]; intro z; cases z)).wipe hv
    have au : AllA (Plus O Dl) own (L2.wipe σ vs) = Plus A Dl := by rw [all_wipe hv, all_under, hA]
    rw [List.drop_eq_getElem_cons hlt] at hr
    unfold compLX at hr
    refine hg _ _ _ _ H2 x items[i] _ eu (by rw [au]; exact rx) ?_
    cases hput : tg.put items[i] (wipeR ρ vs) with
    | none => rw [hput] at hr; exact hr.elim
    | some ρ' =>
      rw [hput] at hr
      intro σ2 d2 a2 e2
      refine ⟨wipe_eq d2 hs, ?_⟩
      replace hr : ResW mg E H1 (fun rest => ∀ p H', Same H H' → H p = none → OwnR K (Cut (Plus A p) H') H' p (.list (xs ++ rest)) → Q (.ref p) H') ((ft ρ').calm.bind fun b => if b = true then (fe ρ').bind fun x => (compLX tg ft fe (wipeR ρ vs) (items.drop (i + 1))).bind fun xs => .ok (x :: xs) else compLX tg ft fe (wipeR ρ vs) (items.drop (i + 1))) := hr
      refine ht _ _ ρ' σ2 H2 _ e2 ?_
      cases hft : ft ρ' with
      | exc _ => rw [hft] at hr; exact hr.elim
      | bad => rw [hft] at hr; exact hr.elim
      | ok b =>
        rw [hft] at hr
        intro H3 s3
        replace hr : ResW mg E H1 (fun rest => ∀ p H', Same H H' → H p = none → OwnR K (Cut (Plus A p) H') H' p (.list (xs ++ rest)) → Q (.ref p) H') (if b = true then (fe ρ').bind fun x => (compLX tg ft fe (wipeR ρ vs) (items.drop (i + 1))).bind fun xs => .ok (x :: xs) else compLX tg ft fe (wipeR ρ vs) (items.drop (i + 1))) := hr
        cases b with
        | false =>
          rw [if_neg Bool.false_ne_true] at hr
          exact iteF ⟨acc, xs, s3 _ _ hD2, sm2.trans s3, ra.mono (cut_same (s2.trans s3)), Nat.le_succ_of_le la, hr⟩
        | true =>
          rw [if_pos rfl, resW_bind] at hr
          refine iteT (he _ _ ρ' σ2 H3 _ (e2.mono s3) (hr.mono (sm2.trans s3) fun z hz => ?_))
          intro yv H4 s4 ry
          have hD4 : H4 Dl = some (.lst acc) := s4 _ _ (s3 _ _ hD2)
          have s14 : Same H1 H4 := sm2.trans (s3.trans s4)
          refine ⟨acc, hD4, by omega, ?_⟩
          rw [resW_bind] at hz
          have ce : Cut (Plus A Dl) (upd H4 Dl (.lst (acc ++ [yv]))) = Cut (Plus A Dl) H4 := cut_upd_in (.inr rfl)
          refine ⟨acc ++ [yv], xs ++ [z], upd_same, fun a o h => ?_, ?_, by rw [List.length_append]; simp; exact la, hz.mono (Same.refl H1) fun rest k p H' s np r => k p H' s np (by rw [List.append_assoc] at r; exact r)⟩
          · rw [upd_ne (ne_of_none h nD)]; exact s14 a o h
          · rw [ce]
            refine (ra.mono (cut_same (s2.trans (s3.trans s4)))).append (.cons ?_ .nil)
            rw [← au, ← a2]
            exact ry
  · have e : i = items.length := by omega
    subst e
    rw [List.drop_length] at hr
    have hr : ∀ p H', Same H H' → H p = none → OwnR K (Cut (Plus A p) H') H' p (.list (xs ++ [])) → Q (.ref p) H' := hr
    refine .inl ⟨it.stop H' sb, hr Dl H' (s1.trans sm) (s1.free nD) (.lst hD ?_)⟩
    rw [List.append_nil]
    exact ra
end
section
variable {X : Cx} {K : PySem.W.Frag} {mg : Str → Option Value} {E : XK} {own : List Nat} {elt tgx iter : Expr} {ifs : List Expr} {scope : Scope} {cown : List (Str × Nat)} {pos : Pos} {wi : TI} {g : TG} {tt : TT} {te : TE} {tg : Tgt} {fi : Ax} {ft : Tx} {fe : Ex}
theorem lets_any {scope : Scope} (lx : Lets X E) : Lets ((X.blk {} (fun _ => none) scope (compEnvC scope [] 0 X.env) []).wish fun _ _ => True) E :=
  ⟨lx.fr, fun _ _ _ => trivial⟩
theorem df_lcX (hc : X.calm = true) (hN : X.N.Nodup) (lx : Lets X E) (hi : DI X K mg E own tgx iter wi fi) (ok : BlkOk X.N X.env.scope scope cown)
    (hg : ∀ (s : Shared) (H : Hp) (C : Addr) (cl : List (Str × Addr)) (fp : List Addr) (xe : Value → Shared → Prop), DG ((X.blk s H scope (compEnvC scope cl C X.env) fp).wish xe) K own tgx g tg)
    (ht : ∀ (s : Shared) (H : Hp) (C : Addr) (cl : List (Str × Addr)) (fp : List Addr) (xe : Value → Shared → Prop), DTs ((X.blk s H scope (compEnvC scope cl C X.env) fp).wish xe) K mg E0' own ifs tt ft)
    (he : ∀ (s : Shared) (H : Hp) (C : Addr) (cl : List (Str × Addr)) (fp : List Addr) (xe : Value → Shared → Prop), Lets ((X.blk s H scope (compEnvC scope cl C X.env) fp).wish xe) E → DE ((X.blk s H scope (compEnvC scope cl C X.env) fp).wish xe) K mg E own elt te fe)
    (hv : ∀ i ∈ cown.map (·.2), i ∉ own := by decide) (hsl : ∀ i ∈ tg.slots, i ∈ cown.map (·.2) := by decide) (hs : ∀ x, foldedSetIterable iter X.env x = pure x := by intro _; rfl) :
    DF X K mg E own (.ListComp elt [⟨tgx, iter, ifs, 0⟩] scope pos) (tLc wi g tt te (cown.map (·.2))) (compX (cown.map (·.2)) tg fi ft fe) :=
  ⟨pe_lcX hc hN lx hi.pi ok (fun s H C cl fp xe => (hg s H C cl fp xe).pg) (fun s H C cl fp xe => (ht s H C cl fp xe).pt) (fun s H C cl fp xe l => (he s H C cl fp xe l).pe) hs,
    tf_lcX hi.ok (hg {} (fun _ => none) 0 [] [] fun _ _ => True).ok (ht {} (fun _ => none) 0 [] [] fun _ _ => True).ok (he {} (fun _ => none) 0 [] [] (fun _ _ => True) (lets_any lx)).ok hv hsl⟩
end
end DL
end

section
set_option linter.all false
/-! DLZ: the whole layer. -/
namespace DL
end DL
end

section
set_option Elab.async false
set_option linter.all false
set_option maxRecDepth 100000
namespace LW
open PySem L2 DL

noncomputable def g_is_whole : Gx :=
  (gRet (andV (un (rd 0) (dIsi "int")) (notV (un (rd 0) (dIsi "bool")))))
noncomputable def m_is_whole : List D → Res D := run 1 g_is_whole

noncomputable def g_need_room : Gx :=
  (gIf (orT (notT (asB (callD 1 m_is_whole (aCons (rd 1) aNil)))) (orT (asB (bin (rd 1) (kc (.int 0)) dLt)) (asB (bin (rd 1) (un (rd 0) dLen) dGe)))) (gRaise ("NoRooms" : PySem.Str)) gSkip)
noncomputable def m_need_room : List D → Res D := run 2 g_need_room

noncomputable def g_divisor : Gx :=
  (gSeq (gSet 0 (un (rd 0) dAbs)) (gSeq (gSet 1 (un (rd 1) dAbs)) (gSeq (gWh (asB (bin (rd 1) (kc (.int 0)) dNe)) (gSeq (gSet 2 (bin (rd 0) (rd 1) dMod)) (gSeq (gSet 0 (rd 1)) (gSet 1 (rd 2))))) (gRet (rd 0)))))
noncomputable def m_divisor : List D → Res D := run 3 g_divisor

noncomputable def g_frac : Gx :=
  (gSeq (gIf (asB (bin (rd 1) (kc (.int 0)) dLt)) (gSeq (gSet 0 (un (rd 0) dNeg)) (gSet 1 (un (rd 1) dNeg))) gSkip) (gSeq (gSet 2 (callD 2 m_divisor (aCons (rd 0) (aCons (rd 1) aNil)))) (gRet (mkTup (aCons (bin (rd 0) (rd 2) dDiv) (aCons (bin (rd 1) (rd 2) dDiv) aNil))))))
noncomputable def m_frac : List D → Res D := run 3 g_frac

noncomputable def g_plus : Gx :=
  (gRet (callD 2 m_frac (aCons (bin (bin (bin (rd 0) (kc (.int 0)) dIx) (bin (rd 1) (kc (.int 1)) dIx) dMul) (bin (bin (rd 1) (kc (.int 0)) dIx) (bin (rd 0) (kc (.int 1)) dIx) dMul) dAdd) (aCons (bin (bin (rd 0) (kc (.int 1)) dIx) (bin (rd 1) (kc (.int 1)) dIx) dMul) aNil))))
noncomputable def m_plus : List D → Res D := run 2 g_plus

noncomputable def g_times : Gx :=
  (gRet (callD 2 m_frac (aCons (bin (bin (rd 0) (kc (.int 0)) dIx) (bin (rd 1) (kc (.int 0)) dIx) dMul) (aCons (bin (bin (rd 0) (kc (.int 1)) dIx) (bin (rd 1) (kc (.int 1)) dIx) dMul) aNil))))
noncomputable def m_times : List D → Res D := run 2 g_times

noncomputable def g_stepped : Gx :=
  (gSeq (gSet 2 (comp [6] (.nm 6) (itS (rd 0)) yes (kc (.tuple [.int 0, .int 1])))) (gSeq (gFor (.nm 3) (itR1 (un (rd 0) dLen)) (gFor (.tp [4, 5]) (itS (bin (rd 0) (rd 3) dIx)) (gPutL 2 (rd 4) (callD 2 m_plus (aCons (bin (rd 2) (rd 4) dIx) (aCons (callD 2 m_times (aCons (bin (rd 1) (rd 3) dIx) (aCons (rd 5) aNil))) aNil)))))) (gRet (rd 2))))
noncomputable def m_stepped : List D → Res D := run 7 g_stepped

noncomputable def g_after : Gx :=
  (gSeq (gDrop (callD 2 m_need_room (aCons (rd 0) (aCons (rd 1) aNil)))) (gSeq (gSet 3 (comp [5] (.nm 5) (itS (rd 0)) yes (kc (.tuple [.int 0, .int 1])))) (gSeq (gPutL 3 (rd 1) (kc (.tuple [.int 1, .int 1]))) (gSeq (gFor (.nm 4) (itR1 (rd 2)) (gSet 3 (callD 2 m_stepped (aCons (rd 0) (aCons (rd 3) aNil))))) (gRet (rd 3))))))
noncomputable def m_after : List D → Res D := run 6 g_after

noncomputable def g_can_come : Gx :=
  (gSeq (gSet 2 (kc (.dict []))) (gSeq (gFor (.nm 3) (itS (rd 1)) (gPutD 2 (rd 3) (kc (.bool true)))) (gSeq (gSet 4 (kc (.bool true))) (gSeq (gWh (asB (rd 4)) (gSeq (gSet 4 (kc (.bool false))) (gFor (.nm 3) (itR1 (un (rd 0) dLen)) (gIf (andT (asB (bin (rd 3) (rd 2) dNotIn)) (asB (un (comp [5, 6] (.tp [5, 6]) (itS (bin (rd 0) (rd 3) dIx)) yes (bin (rd 5) (rd 2) dIn)) dAny))) (gSeq (gPutD 2 (rd 3) (kc (.bool true))) (gSet 4 (kc (.bool true)))) gSkip)))) (gRet (un (un (rd 2) dList) dSorted))))))
noncomputable def m_can_come : List D → Res D := run 7 g_can_come

noncomputable def g_ahead_of : Gx :=
  (gRet (comp [2] (.nm 2) (itR1 (un (rd 0) dLen)) (asB (bin (rd 1) (callD 2 m_can_come (aCons (rd 0) (aCons (mkLst (aCons (rd 2) aNil)) aNil))) dIn)) (rd 2)))
noncomputable def m_ahead_of : List D → Res D := run 3 g_ahead_of

noncomputable def g_ends : Gx :=
  (gSeq (gSet 1 (mkLst aNil)) (gSeq (gFor (.nm 2) (itR1 (un (rd 0) dLen)) (gSeq (gSet 3 (callD 2 m_ahead_of (aCons (rd 0) (aCons (rd 2) aNil)))) (gIf (andT (asB (un (comp [4] (.nm 4) (itS (rd 3)) yes (bin (rd 2) (callD 2 m_ahead_of (aCons (rd 0) (aCons (rd 4) aNil))) dIn)) dAll)) (asB (bin (bin (rd 3) (kc (.int 0)) dIx) (rd 2) dEq))) (gApp 1 (rd 3)) gSkip))) (gRet (rd 1))))
noncomputable def m_ends : List D → Res D := run 5 g_ends

noncomputable def g_beat : Gx :=
  (gSeq (gDrop (callD 2 m_need_room (aCons (rd 0) (aCons (rd 1) aNil)))) (gSeq (gSet 2 (comp [9] (.nm 9) (itS (callD 1 m_ends (aCons (rd 0) aNil))) (asB (bin (rd 1) (rd 9) dIn)) (rd 9))) (gSeq (gIf (asB (bin (rd 2) (mkLst aNil) dEq)) (gRet (kc .none)) gSkip) (gSeq (gSet 3 (dOne (rd 1) (kc (.int 0)))) (gSeq (gSet 4 (mkLst (aCons (rd 1) aNil))) (gSeq (gSet 5 (kc (.int 0))) (gSeq (gSet 6 (kc (.int 0))) (gSeq (gWh (asB (bin (rd 6) (un (rd 4) dLen) dLt)) (gSeq (gFor (.tp [7, 8]) (itS (bin (rd 0) (bin (rd 4) (rd 6) dIx) dIx)) (gSeq (gIf (asB (bin (rd 7) (rd 3) dNotIn)) (gSeq (gPutD 3 (rd 7) (bin (bin (rd 3) (bin (rd 4) (rd 6) dIx) dDix) (kc (.int 1)) dAdd)) (gApp 4 (rd 7))) gSkip) (gSet 5 (callD 2 m_divisor (aCons (rd 5) (aCons (bin (bin (bin (rd 3) (bin (rd 4) (rd 6) dIx) dDix) (kc (.int 1)) dAdd) (bin (rd 3) (rd 7) dDix) dSub) aNil)))))) (gSet 6 (bin (rd 6) (kc (.int 1)) dAdd)))) (gRet (rd 5))))))))))
noncomputable def m_beat : List D → Res D := run 10 g_beat

noncomputable def g_below : Gx :=
  (gRet (bin (bin (bin (rd 0) (kc (.int 0)) dIx) (bin (rd 1) (kc (.int 1)) dIx) dMul) (bin (bin (rd 1) (kc (.int 0)) dIx) (bin (rd 0) (kc (.int 1)) dIx) dMul) dLt))
noncomputable def m_below : List D → Res D := run 2 g_below

noncomputable def g_summed : Gx :=
  (gSeq (gSet 1 (kc (.tuple [.int 0, .int 1]))) (gSeq (gFor (.nm 2) (itS (rd 0)) (gSet 1 (callD 2 m_plus (aCons (rd 1) (aCons (rd 2) aNil))))) (gRet (rd 1))))
noncomputable def m_summed : List D → Res D := run 3 g_summed

noncomputable def g_made_of : Gx :=
  (gRet (callD 1 m_summed (aCons (comp [2, 3] (.tp [2, 3]) (itS (rd 0)) yes (callD 2 m_times (aCons (rd 3) (aCons (bin (rd 1) (rd 2) dIx) aNil)))) aNil)))
noncomputable def m_made_of : List D → Res D := run 4 g_made_of

noncomputable def g_better : Gx :=
  (gSeq (gSet 4 (un (rd 2) dList)) (gSeq (gFor (.nm 5) (itR1 (un (rd 0) dLen)) (gSeq (gSet 6 (bin (rd 1) (rd 5) dIx)) (gFor (.nm 7) (itR1 (un (bin (rd 0) (rd 5) dIx) dLen)) (gSeq (gSet 8 (callD 2 m_made_of (aCons (bin (bin (rd 0) (rd 5) dIx) (rd 7) dIx) (aCons (rd 1) aNil)))) (gIf (andT (asB (bin (rd 5) (rd 3) dNotIn)) (asB (callD 2 m_below (aCons (rd 6) (aCons (rd 8) aNil))))) (gSeq (gSet 6 (rd 8)) (gPutL 4 (rd 5) (rd 7))) gSkip))))) (gRet (rd 4))))
noncomputable def m_better : List D → Res D := run 9 g_better

noncomputable def g_known_part : Gx :=
  (gSeq (gIf (asB (bin (rd 0) (kc (.tuple [.int 1, .int 1])) dEq)) (gRet (rd 1)) gSkip) (gRet (kc (.tuple [.int 0, .int 1]))))
noncomputable def m_known_part : List D → Res D := run 2 g_known_part

noncomputable def g_less : Gx :=
  (gRet (callD 2 m_frac (aCons (bin (bin (bin (rd 0) (kc (.int 0)) dIx) (bin (rd 1) (kc (.int 1)) dIx) dMul) (bin (bin (rd 1) (kc (.int 0)) dIx) (bin (rd 0) (kc (.int 1)) dIx) dMul) dSub) (aCons (bin (bin (rd 0) (kc (.int 1)) dIx) (bin (rd 1) (kc (.int 1)) dIx) dMul) aNil))))
noncomputable def m_less : List D → Res D := run 2 g_less

noncomputable def g_over : Gx :=
  (gRet (callD 2 m_frac (aCons (bin (bin (rd 0) (kc (.int 0)) dIx) (bin (rd 1) (kc (.int 1)) dIx) dMul) (aCons (bin (bin (rd 0) (kc (.int 1)) dIx) (bin (rd 1) (kc (.int 0)) dIx) dMul) aNil))))
noncomputable def m_over : List D → Res D := run 2 g_over

noncomputable def g_eased : Gx :=
  (gSeq (gSet 2 (comp [5] (.nm 5) (itR2 (rd 1) (un (rd 0) dLen)) (asB (bin (bin (bin (rd 0) (rd 5) dIx) (rd 1) dIx) (kc (.tuple [.int 0, .int 1])) dNe)) (rd 5))) (gSeq (gIf (asB (bin (rd 2) (mkLst aNil) dEq)) (gRet (kc .none)) gSkip) (gSeq (gSet 3 (comp [7] (.nm 7) (itS (bin (rd 0) (bin (rd 2) (kc (.int 0)) dIx) dIx)) yes (callD 2 m_over (aCons (rd 7) (aCons (bin (bin (rd 0) (bin (rd 2) (kc (.int 0)) dIx) dIx) (rd 1) dIx) aNil))))) (gSeq (gSet 4 (mkLst aNil)) (gSeq (gFor (.nm 5) (itR1 (un (rd 0) dLen)) (gIf (asB (bin (rd 5) (bin (rd 2) (kc (.int 0)) dIx) dNe)) (gSeq (gSet 6 (bin (bin (rd 0) (rd 5) dIx) (rd 1) dIx)) (gApp 4 (comp [7, 8] (.tp [7, 8]) (itY (bin (rd 0) (rd 5) dIx) (rd 3)) yes (callD 2 m_less (aCons (rd 7) (aCons (callD 2 m_times (aCons (rd 6) (aCons (rd 8) aNil))) aNil)))))) gSkip)) (gRet (bin (bin (slc (rd 4) pNo (pIs (rd 1))) (mkLst (aCons (rd 3) aNil)) dAdd) (slc (rd 4) (pIs (rd 1)) pNo) dAdd)))))))
noncomputable def m_eased : List D → Res D := run 9 g_eased

noncomputable def g_solved : Gx :=
  (gSeq (gSet 1 (rd 0)) (gSeq (gFor (.nm 2) (itR1 (un (rd 0) dLen)) (gSet 1 (callD 2 m_eased (aCons (rd 1) (aCons (rd 2) aNil))))) (gRet (comp [3] (.nm 3) (itS (rd 1)) yes (bin (rd 3) (un (kc (.int 1)) dNeg) dIx)))))
noncomputable def m_solved : List D → Res D := run 4 g_solved

noncomputable def g_solved_for : Gx :=
  (gSeq (gSet 4 (mkLst aNil)) (gSeq (gFor (.nm 5) (itS (rd 1)) (gSeq (gSet 6 (bin (comp [7] (.nm 7) (itS (rd 1)) yes (kc (.tuple [.int 0, .int 1]))) (mkLst (aCons (rd 3) aNil)) dCat)) (gSeq (gPutL 6 (idx (rd 1) (rd 5)) (kc (.tuple [.int 1, .int 1]))) (gSeq (gFor (.tp [7, 8]) (itS (bin (rd 0) (rd 5) dIx)) (gIf (asB (bin (rd 7) (rd 1) dIn)) (gPutL 6 (idx (rd 1) (rd 7)) (callD 2 m_less (aCons (bin (rd 6) (idx (rd 1) (rd 7)) dIx) (aCons (rd 8) aNil)))) (gPutL 6 (un (kc (.int 1)) dNeg) (callD 2 m_plus (aCons (bin (rd 6) (un (kc (.int 1)) dNeg) dIx) (aCons (callD 2 m_known_part (aCons (bin (rd 2) (rd 7) dIx) (aCons (rd 8) aNil))) aNil)))))) (gApp 4 (rd 6)))))) (gSeq (gSet 9 (un (rd 2) dList)) (gSeq (gFor (.tp [5, 10]) (itY (rd 1) (callD 1 m_solved (aCons (rd 4) aNil))) (gPutL 9 (rd 5) (rd 10))) (gRet (rd 9))))))
noncomputable def m_solved_for : List D → Res D := run 11 g_solved_for

noncomputable def g_walk_by : Gx :=
  (gRet (un (comp [2, 3] (.tp [2, 3]) (itY (rd 0) (rd 1)) yes (bin (rd 2) (rd 3) dIx)) dTuple))
noncomputable def m_walk_by : List D → Res D := run 4 g_walk_by

noncomputable def g_by_picks : Gx :=
  (gSeq (gSet 4 (comp [6] (.nm 6) (itS (rd 0)) yes (kc (.tuple [.int 0, .int 1])))) (gSeq (gFor (.nm 5) (itS (rd 2)) (gPutL 4 (rd 5) (kc (.tuple [.int 1, .int 1])))) (gRet (callD 4 m_solved_for (aCons (callD 2 m_walk_by (aCons (rd 0) (aCons (rd 1) aNil))) (aCons (rd 3) (aCons (rd 4) (aCons (kc (.tuple [.int 0, .int 1])) aNil))))))))
noncomputable def m_by_picks : List D → Res D := run 7 g_by_picks

noncomputable def g_is_fraction : Gx :=
  (gSeq (gIf (orT (notT (asB (un (rd 0) (dIsi "tuple")))) (orT (asB (bin (un (rd 0) dLen) (kc (.int 2)) dNe)) (orT (notT (asB (callD 1 m_is_whole (aCons (bin (rd 0) (kc (.int 0)) dIx) aNil)))) (notT (asB (callD 1 m_is_whole (aCons (bin (rd 0) (kc (.int 1)) dIx) aNil))))))) (gRet (kc (.bool false))) gSkip) (gRet (andV (bin (bin (rd 0) (kc (.int 0)) dIx) (kc (.int 0)) dGe) (andV (bin (bin (rd 0) (kc (.int 1)) dIx) (kc (.int 1)) dGe) (bin (callD 2 m_divisor (aCons (bin (rd 0) (kc (.int 0)) dIx) (aCons (bin (rd 0) (kc (.int 1)) dIx) aNil))) (kc (.int 1)) dEq)))))
noncomputable def m_is_fraction : List D → Res D := run 1 g_is_fraction

noncomputable def g_need_begin : Gx :=
  (gSeq (gIf (orT (notT (asB (un (rd 1) (dIsi "list")))) (asB (bin (un (rd 1) dLen) (un (rd 0) dLen) dNe))) (gRaise ("NoBegin" : PySem.Str)) gSkip) (gIf (orT (notT (asB (un (comp [2] (.nm 2) (itS (rd 1)) yes (callD 1 m_is_fraction (aCons (rd 2) aNil))) dAll))) (asB (bin (callD 1 m_summed (aCons (rd 1) aNil)) (kc (.tuple [.int 1, .int 1])) dNe))) (gRaise ("NoBegin" : PySem.Str)) gSkip))
noncomputable def m_need_begin : List D → Res D := run 3 g_need_begin

noncomputable def g_need_marks : Gx :=
  (gSeq (gIf (orT (notT (asB (un (rd 1) (dIsi "list")))) (asB (bin (un (rd 1) dLen) (un (rd 0) dLen) dNe))) (gRaise ("NoMarks" : PySem.Str)) gSkip) (gFor (.nm 2) (itS (rd 1)) (gIf (notT (asB (callD 1 m_is_whole (aCons (rd 2) aNil)))) (gRaise ("NoMarks" : PySem.Str)) gSkip)))
noncomputable def m_need_marks : List D → Res D := run 3 g_need_marks

noncomputable def g_need_seen : Gx :=
  (gIf (orT (notT (asB (un (rd 0) (dIsi "list")))) (orT (asB (bin (rd 0) (mkLst aNil) dEq)) (notT (asB (un (comp [1] (.nm 1) (itS (rd 0)) yes (callD 1 m_is_whole (aCons (rd 1) aNil))) dAll))))) (gRaise ("NoMarks" : PySem.Str)) gSkip)
noncomputable def m_need_seen : List D → Res D := run 2 g_need_seen

noncomputable def g_shown_only : Gx :=
  (gSeq (gSet 3 (mkLst aNil)) (gSeq (gFor (.tp [4, 5]) (itY (rd 0) (rd 1)) (gIf (asB (bin (rd 5) (rd 2) dEq)) (gApp 3 (rd 4)) (gApp 3 (kc (.tuple [.int 0, .int 1]))))) (gRet (rd 3))))
noncomputable def m_shown_only : List D → Res D := run 6 g_shown_only

noncomputable def g_reckoned : Gx :=
  (gSeq (gDrop (callD 2 m_need_begin (aCons (rd 0) (aCons (rd 1) aNil)))) (gSeq (gDrop (callD 2 m_need_marks (aCons (rd 0) (aCons (rd 2) aNil)))) (gSeq (gDrop (callD 1 m_need_seen (aCons (rd 3) aNil))) (gSeq (gSet 4 (callD 3 m_shown_only (aCons (rd 1) (aCons (rd 2) (aCons (bin (rd 3) (kc (.int 0)) dIx) aNil))))) (gSeq (gFor (.nm 5) (itS (slc (rd 3) (pIs (kc (.int 1))) pNo)) (gSet 4 (callD 3 m_shown_only (aCons (callD 2 m_stepped (aCons (rd 0) (aCons (rd 4) aNil))) (aCons (rd 2) (aCons (rd 5) aNil)))))) (gRet (rd 4)))))))
noncomputable def m_reckoned : List D → Res D := run 6 g_reckoned

noncomputable def g_chance_of : Gx :=
  (gRet (callD 1 m_summed (aCons (callD 4 m_reckoned (aCons (rd 0) (aCons (rd 1) (aCons (rd 2) (aCons (rd 3) aNil))))) aNil)))
noncomputable def m_chance_of : List D → Res D := run 4 g_chance_of

noncomputable def g_chances_of : Gx :=
  (gSeq (gSet 2 (callD 2 m_can_come (aCons (rd 0) (aCons (rd 1) aNil)))) (gSeq (gSet 3 (comp [6] (.nm 6) (itS (rd 0)) yes (kc (.tuple [.int 0, .int 1])))) (gSeq (gFor (.nm 4) (itS (rd 1)) (gPutL 3 (rd 4) (kc (.tuple [.int 1, .int 1])))) (gSeq (gSet 5 (comp [4] (.nm 4) (itS (rd 2)) (asB (bin (rd 4) (rd 1) dNotIn)) (rd 4))) (gRet (callD 4 m_solved_for (aCons (rd 0) (aCons (rd 5) (aCons (rd 3) (aCons (kc (.tuple [.int 0, .int 1])) aNil))))))))))
noncomputable def m_chances_of : List D → Res D := run 7 g_chances_of

noncomputable def g_need_rooms : Gx :=
  (gSeq (gIf (notT (asB (un (rd 1) (dIsi "list")))) (gRaise ("NoRooms" : PySem.Str)) gSkip) (gSeq (gSet 2 (un (kc (.int 1)) dNeg)) (gFor (.nm 3) (itS (rd 1)) (gSeq (gDrop (callD 2 m_need_room (aCons (rd 0) (aCons (rd 3) aNil)))) (gSeq (gIf (asB (bin (rd 3) (rd 2) dLe)) (gRaise ("NoRooms" : PySem.Str)) gSkip) (gSet 2 (rd 3)))))))
noncomputable def m_need_rooms : List D → Res D := run 4 g_need_rooms

noncomputable def g_chances : Gx :=
  (gSeq (gDrop (callD 2 m_need_rooms (aCons (rd 0) (aCons (rd 1) aNil)))) (gRet (callD 2 m_chances_of (aCons (rd 0) (aCons (rd 1) aNil)))))
noncomputable def m_chances : List D → Res D := run 2 g_chances

noncomputable def g_lies_in : Gx :=
  (gRet (un (comp [3, 4] (.tp [3, 4]) (itS (rd 0)) yes (orV (bin (rd 3) (rd 1) dIn) (bin (rd 3) (rd 2) dIn))) dAll))
noncomputable def m_lies_in : List D → Res D := run 5 g_lies_in

noncomputable def g_cheaper : Gx :=
  (gSeq (gSet 6 (un (rd 5) dList)) (gSeq (gFor (.nm 7) (itS (rd 3)) (gSeq (gSet 8 (bin (rd 4) (rd 7) dIx)) (gFor (.nm 9) (itR1 (un (bin (rd 0) (rd 7) dIx) dLen)) (gIf (asB (callD 3 m_lies_in (aCons (bin (bin (rd 0) (rd 7) dIx) (rd 9) dIx) (aCons (rd 3) (aCons (rd 2) aNil))))) (gSeq (gSet 10 (callD 2 m_plus (aCons (mkTup (aCons (bin (bin (rd 1) (rd 7) dIx) (rd 9) dIx) (aCons (kc (.int 1)) aNil))) (aCons (callD 2 m_made_of (aCons (bin (bin (rd 0) (rd 7) dIx) (rd 9) dIx) (aCons (rd 4) aNil))) aNil)))) (gIf (asB (callD 2 m_below (aCons (rd 10) (aCons (rd 8) aNil)))) (gSeq (gSet 8 (rd 10)) (gPutL 6 (rd 7) (rd 9))) gSkip)) gSkip)))) (gRet (rd 6))))
noncomputable def m_cheaper : List D → Res D := run 11 g_cheaper

noncomputable def g_is_spread : Gx :=
  (gSeq (gIf (orT (notT (asB (un (rd 0) (dIsi "tuple")))) (asB (bin (un (rd 0) dLen) (kc (.int 0)) dEq))) (gRet (kc (.bool false))) gSkip) (gSeq (gSet 2 (un (kc (.int 1)) dNeg)) (gSeq (gFor (.nm 3) (itS (rd 0)) (gSeq (gIf (orT (notT (asB (un (rd 3) (dIsi "tuple")))) (orT (asB (bin (un (rd 3) dLen) (kc (.int 2)) dNe)) (orT (notT (asB (callD 1 m_is_whole (aCons (bin (rd 3) (kc (.int 0)) dIx) aNil)))) (notT (asB (callD 1 m_is_fraction (aCons (bin (rd 3) (kc (.int 1)) dIx) aNil))))))) (gRet (kc (.bool false))) gSkip) (gSeq (gIf (orT (asB (bin (bin (rd 3) (kc (.int 0)) dIx) (rd 2) dLe)) (orT (asB (bin (bin (rd 3) (kc (.int 0)) dIx) (rd 1) dGe)) (asB (bin (bin (rd 3) (kc (.int 1)) dIx) (kc (.tuple [.int 0, .int 1])) dEq)))) (gRet (kc (.bool false))) gSkip) (gSet 2 (bin (rd 3) (kc (.int 0)) dIx))))) (gRet (bin (callD 1 m_summed (aCons (comp [3] (.nm 3) (itS (rd 0)) yes (bin (rd 3) (kc (.int 1)) dIx)) aNil)) (kc (.tuple [.int 1, .int 1])) dEq)))))
noncomputable def m_is_spread : List D → Res D := run 4 g_is_spread

noncomputable def g_is_walk : Gx :=
  (gSeq (gIf (orT (notT (asB (un (rd 0) (dIsi "tuple")))) (orT (asB (bin (un (rd 0) dLen) (kc (.int 1)) dLt)) (asB (bin (un (rd 0) dLen) (kc (.int 8)) dGt)))) (gRet (kc (.bool false))) gSkip) (gRet (un (comp [1] (.nm 1) (itS (rd 0)) yes (callD 2 m_is_spread (aCons (rd 1) (aCons (un (rd 0) dLen) aNil)))) dAll)))
noncomputable def m_is_walk : List D → Res D := run 2 g_is_walk

noncomputable def g_checked : Gx :=
  (gSeq (gIf (notT (asB (callD 1 m_is_walk (aCons (rd 0) aNil)))) (gRaise ("NoWalk" : PySem.Str)) gSkip) (gRet (rd 0)))
noncomputable def m_checked : List D → Res D := run 1 g_checked

noncomputable def g_is_choice : Gx :=
  (gSeq (gIf (orT (notT (asB (un (rd 0) (dIsi "tuple")))) (orT (asB (bin (un (rd 0) dLen) (kc (.int 1)) dLt)) (asB (bin (un (rd 0) dLen) (kc (.int 6)) dGt)))) (gRet (kc (.bool false))) gSkip) (gSeq (gFor (.nm 1) (itS (rd 0)) (gSeq (gIf (orT (notT (asB (un (rd 1) (dIsi "tuple")))) (orT (asB (bin (un (rd 1) dLen) (kc (.int 1)) dLt)) (asB (bin (un (rd 1) dLen) (kc (.int 4)) dGt)))) (gRet (kc (.bool false))) gSkip) (gIf (notT (asB (un (comp [2] (.nm 2) (itS (rd 1)) yes (callD 2 m_is_spread (aCons (rd 2) (aCons (un (rd 0) dLen) aNil)))) dAll))) (gRet (kc (.bool false))) gSkip))) (gRet (kc (.bool true)))))
noncomputable def m_is_choice : List D → Res D := run 3 g_is_choice

noncomputable def g_checked_choice : Gx :=
  (gSeq (gIf (notT (asB (callD 1 m_is_choice (aCons (rd 0) aNil)))) (gRaise ("NoChoice" : PySem.Str)) gSkip) (gRet (rd 0)))
noncomputable def m_checked_choice : List D → Res D := run 1 g_checked_choice

noncomputable def g_costs_by : Gx :=
  (gSeq (gSet 3 (mkLst aNil)) (gSeq (gFor (.nm 4) (itS (rd 2)) (gSeq (gSet 5 (bin (comp [6] (.nm 6) (itS (rd 2)) yes (kc (.tuple [.int 0, .int 1]))) (mkLst (aCons (mkTup (aCons (bin (rd 1) (rd 4) dIx) (aCons (kc (.int 1)) aNil))) aNil)) dCat)) (gSeq (gPutL 5 (idx (rd 2) (rd 4)) (kc (.tuple [.int 1, .int 1]))) (gSeq (gFor (.tp [6, 7]) (itS (bin (rd 0) (rd 4) dIx)) (gIf (asB (bin (rd 6) (rd 2) dIn)) (gPutL 5 (idx (rd 2) (rd 6)) (callD 2 m_less (aCons (bin (rd 5) (idx (rd 2) (rd 6)) dIx) (aCons (rd 7) aNil)))) gSkip)) (gApp 3 (rd 5)))))) (gSeq (gSet 8 (comp [10] (.nm 10) (itS (rd 0)) yes (kc (.tuple [.int 0, .int 1])))) (gSeq (gFor (.tp [4, 9]) (itY (rd 2) (callD 1 m_solved (aCons (rd 3) aNil))) (gPutL 8 (rd 4) (rd 9))) (gRet (rd 8))))))
noncomputable def m_costs_by : List D → Res D := run 11 g_costs_by

noncomputable def g_nearer : Gx :=
  (gSeq (gIf (orT (asB (bin (rd 0) (kc .none) dIs)) (asB (callD 2 m_below (aCons (bin (rd 0) (kc (.int 0)) dIx) (aCons (bin (rd 1) (kc (.int 0)) dIx) aNil))))) (gRet (rd 1)) gSkip) (gSeq (gIf (andT (asB (bin (bin (rd 0) (kc (.int 0)) dIx) (bin (rd 1) (kc (.int 0)) dIx) dEq)) (asB (bin (bin (rd 1) (kc (.int 1)) dIx) (bin (rd 0) (kc (.int 1)) dIx) dLtA))) (gRet (rd 1)) gSkip) (gRet (rd 0))))
noncomputable def m_nearer : List D → Res D := run 2 g_nearer

noncomputable def g_further : Gx :=
  (gSeq (gSet 4 (comp [9] (.nm 9) (itS (rd 0)) yes (kc .none))) (gSeq (gFor (.nm 5) (itR1 (un (rd 0) dLen)) (gIf (asB (bin (bin (rd 1) (rd 5) dIx) (kc .none) dIsNot)) (gFor (.tp [6, 7]) (itS (bin (rd 0) (rd 5) dIx)) (gIf (asB (bin (bin (rd 2) (rd 6) dIx) (rd 3) dEq)) (gSeq (gSet 8 (callD 2 m_times (aCons (bin (bin (rd 1) (rd 5) dIx) (kc (.int 0)) dIx) (aCons (rd 7) aNil)))) (gPutL 4 (rd 6) (callD 2 m_nearer (aCons (bin (rd 4) (rd 6) dIx) (aCons (mkTup (aCons (rd 8) (aCons (bin (bin (bin (rd 1) (rd 5) dIx) (kc (.int 1)) dIx) (mkLst (aCons (rd 6) aNil)) dAdd) aNil))) aNil))))) gSkip)) gSkip)) (gRet (rd 4))))
noncomputable def m_further : List D → Res D := run 10 g_further

noncomputable def g_law_divisor : Gx :=
  (gSeq (gSet 0 (un (rd 0) dAbs)) (gSeq (gSet 1 (un (rd 1) dAbs)) (gSeq (gWh (asB (bin (rd 1) (kc (.int 0)) dNe)) (gSeq (gSet 2 (bin (rd 0) (rd 1) dMod)) (gSeq (gSet 0 (rd 1)) (gSet 1 (rd 2))))) (gRet (rd 0)))))
noncomputable def m_law_divisor : List D → Res D := run 3 g_law_divisor

noncomputable def g_law_frac : Gx :=
  (gSeq (gSet 2 (callD 2 m_law_divisor (aCons (rd 0) (aCons (rd 1) aNil)))) (gSeq (gIf (asB (bin (rd 1) (kc (.int 0)) dLt)) (gSet 2 (un (rd 2) dNeg)) gSkip) (gRet (mkTup (aCons (bin (rd 0) (rd 2) dDiv) (aCons (bin (rd 1) (rd 2) dDiv) aNil))))))
noncomputable def m_law_frac : List D → Res D := run 3 g_law_frac

noncomputable def g_law_add : Gx :=
  (gRet (callD 2 m_law_frac (aCons (bin (bin (bin (bin (rd 0) (kc (.int 0)) dIx) (bin (rd 1) (kc (.int 1)) dIx) dMul) (bin (rd 2) (kc (.int 1)) dIx) dMul) (bin (bin (bin (rd 2) (kc (.int 0)) dIx) (bin (rd 1) (kc (.int 0)) dIx) dMul) (bin (rd 0) (kc (.int 1)) dIx) dMul) dAdd) (aCons (bin (bin (bin (rd 0) (kc (.int 1)) dIx) (bin (rd 1) (kc (.int 1)) dIx) dMul) (bin (rd 2) (kc (.int 1)) dIx) dMul) aNil))))
noncomputable def m_law_add : List D → Res D := run 3 g_law_add

noncomputable def g_law_ahead : Gx :=
  (gSeq (gSet 2 (mkLst (aCons (rd 1) aNil))) (gSeq (gSet 3 (kc (.int 0))) (gSeq (gWh (asB (bin (rd 3) (un (rd 2) dLen) dLt)) (gSeq (gFor (.nm 4) (itS (bin (rd 0) (bin (rd 2) (rd 3) dIx) dIx)) (gIf (asB (bin (bin (rd 4) (kc (.int 0)) dIx) (rd 2) dNotIn)) (gApp 2 (bin (rd 4) (kc (.int 0)) dIx)) gSkip)) (gSet 3 (bin (rd 3) (kc (.int 1)) dAdd)))) (gRet (un (rd 2) dSorted)))))
noncomputable def m_law_ahead : List D → Res D := run 5 g_law_ahead

noncomputable def g_law_all_picks : Gx :=
  (gSeq (gSet 1 (mkLst (aCons (mkLst aNil) aNil))) (gSeq (gFor (.nm 2) (itS (rd 0)) (gSeq (gSet 3 (mkLst aNil)) (gSeq (gFor (.nm 4) (itS (rd 1)) (gFor (.nm 5) (itR1 (un (rd 2) dLen)) (gApp 3 (bin (rd 4) (mkLst (aCons (rd 5) aNil)) dAdd)))) (gSet 1 (rd 3))))) (gRet (rd 1))))
noncomputable def m_law_all_picks : List D → Res D := run 6 g_law_all_picks

noncomputable def g_law_whole : Gx :=
  (gRet (andV (un (rd 0) (dIsi "int")) (notV (un (rd 0) (dIsi "bool")))))
noncomputable def m_law_whole : List D → Res D := run 1 g_law_whole

noncomputable def g_law_are_picks : Gx :=
  (gSeq (gIf (orT (notT (asB (un (rd 1) (dIsi "list")))) (asB (bin (un (rd 1) dLen) (un (rd 0) dLen) dNe))) (gRet (kc (.bool false))) gSkip) (gSeq (gFor (.nm 2) (itR1 (un (rd 0) dLen)) (gIf (orT (notT (asB (callD 1 m_law_whole (aCons (bin (rd 1) (rd 2) dIx) aNil)))) (orT (asB (bin (bin (rd 1) (rd 2) dIx) (kc (.int 0)) dLt)) (asB (bin (bin (rd 1) (rd 2) dIx) (un (bin (rd 0) (rd 2) dIx) dLen) dGe)))) (gRet (kc (.bool false))) gSkip)) (gRet (kc (.bool true)))))
noncomputable def m_law_are_picks : List D → Res D := run 3 g_law_are_picks

noncomputable def g_law_bad_choice : Gx :=
  (gSeq (gSet 2 (bin (bin (rd 0) (kc (.int 0)) dIx) (kc (.int 0)) dIx)) (gSeq (gSet 3 (mkLst (aCons (un (rd 0) dList) (aCons (mkTup aNil) (aCons (bin (mkTup (aCons (mkTup (aCons (mkTup (aCons (kc (.int 0)) (aCons (mkTup (aCons (kc (.int 1)) (aCons (kc (.int 1)) aNil))) aNil))) aNil)) aNil)) (kc (.int 7)) dMul) (aCons (kc .none) (aCons (bin (mkTup (aCons (un (bin (rd 0) (kc (.int 0)) dIx) dList) aNil)) (slc (rd 0) (pIs (kc (.int 1))) pNo) dAdd) (aCons (bin (mkTup (aCons (mkTup aNil) aNil)) (slc (rd 0) (pIs (kc (.int 1))) pNo) dAdd) aNil)))))))) (gSeq (gExt 3 (mkLst (aCons (bin (mkTup (aCons (bin (mkTup (aCons (rd 2) aNil)) (kc (.int 5)) dMul) aNil)) (slc (rd 0) (pIs (kc (.int 1))) pNo) dAdd) (aCons (bin (mkTup (aCons (mkTup (aCons (un (rd 2) dList) aNil)) aNil)) (slc (rd 0) (pIs (kc (.int 1))) pNo) dAdd) (aCons (bin (mkTup (aCons (mkTup (aCons (mkTup (aCons (mkTup (aCons (kc (.int 9)) (aCons (mkTup (aCons (kc (.int 1)) (aCons (kc (.int 1)) aNil))) aNil))) aNil)) aNil)) aNil)) (slc (rd 0) (pIs (kc (.int 1))) pNo) dAdd) aNil))))) (gSeq (gApp 3 (bin (mkTup (aCons (mkTup (aCons (mkTup (aCons (mkTup (aCons (kc (.int 0)) (aCons (mkTup (aCons (kc (.int 1)) (aCons (kc (.int 2)) aNil))) aNil))) aNil)) aNil)) aNil)) (slc (rd 0) (pIs (kc (.int 1))) pNo) dAdd)) (gRet (bin (rd 3) (bin (rd 1) (kc (.int 10)) dMod) dIx))))))
noncomputable def m_law_bad_choice : List D → Res D := run 4 g_law_bad_choice

noncomputable def g_law_below : Gx :=
  (gRet (bin (bin (bin (rd 0) (kc (.int 0)) dIx) (bin (rd 1) (kc (.int 1)) dIx) dMul) (bin (bin (rd 1) (kc (.int 0)) dIx) (bin (rd 0) (kc (.int 1)) dIx) dMul) dLt))
noncomputable def m_law_below : List D → Res D := run 2 g_law_below

noncomputable def g_picked : Gx :=
  (gSeq (gIf (orT (notT (asB (un (rd 1) (dIsi "list")))) (asB (bin (un (rd 1) dLen) (un (rd 0) dLen) dNe))) (gRaise ("NoPicks" : PySem.Str)) gSkip) (gSeq (gFor (.tp [2, 3]) (itY (rd 0) (rd 1)) (gIf (orT (notT (asB (callD 1 m_is_whole (aCons (rd 3) aNil)))) (orT (asB (bin (rd 3) (kc (.int 0)) dLt)) (asB (bin (rd 3) (un (rd 2) dLen) dGe)))) (gRaise ("NoPicks" : PySem.Str)) gSkip)) (gRet (callD 2 m_walk_by (aCons (rd 0) (aCons (rd 1) aNil))))))
noncomputable def m_picked : List D → Res D := run 4 g_picked

noncomputable def g_law_by_base : Gx :=
  (gSeq (gTryE [("ChanceError" : PySem.Str), ("NoChoice" : PySem.Str), ("NoPicks" : PySem.Str)] (bIf (asB (bin (rd 1) (kc .none) dIs)) (bCall 1 m_checked_choice (aCons (rd 0) aNil)) (bCall 2 m_picked (aCons (rd 0) (aCons (bin (rd 1) (kc (.int 0)) dIx) aNil)))) ("ChanceError" : PySem.Str) 2 (fun c => (gRet (kc (.bool true))))) (gRet (kc (.bool false))))
noncomputable def m_law_by_base : List D → Res D := run 3 g_law_by_base

noncomputable def g_law_cell_at : Gx :=
  (gSeq (gIf (asB (bin (rd 1) (un (rd 0) dLen) dLt)) (gRet (bin (rd 0) (rd 1) dIx)) gSkip) (gSeq (gIf (asB (bin (rd 0) (mkLst aNil) dEq)) (gRet (kc (.int 0))) gSkip) (gRet (bin (bin (bin (rd 0) (bin (rd 1) (un (rd 0) dLen) dMod) dIx) (kc (.int 31)) dMul) (rd 1) dAdd))))
noncomputable def m_law_cell_at : List D → Res D := run 2 g_law_cell_at

noncomputable def g_law_mixed : Gx :=
  (gSeq (gSet 3 (bin (bin (bin (bin (callD 2 m_law_cell_at (aCons (rd 0) (aCons (rd 1) aNil))) (bin (kc (.int 7919)) (rd 1) dMul) dAdd) (kc (.int 1)) dAdd) (kc (.int 48271)) dMul) (kc (.int 2147483647)) dMod)) (gRet (bin (bin (bin (bin (bin (rd 3) (rd 3) dMul) (bin (kc (.int 7)) (rd 3) dMul) dAdd) (rd 1) dAdd) (kc (.int 2147483629)) dMod) (rd 2) dMod)))
noncomputable def m_law_mixed : List D → Res D := run 4 g_law_mixed

noncomputable def g_law_spread : Gx :=
  (gSeq (gSet 3 (kc (.dict []))) (gSeq (gFor (.nm 4) (itR1 (bin (kc (.int 1)) (callD 3 m_law_mixed (aCons (rd 0) (aCons (rd 1) (aCons (kc (.int 3)) aNil)))) dAdd)) (gSeq (gSet 5 (callD 3 m_law_mixed (aCons (rd 0) (aCons (bin (bin (rd 1) (kc (.int 1)) dAdd) (bin (kc (.int 2)) (rd 4) dMul) dAdd) (aCons (rd 2) aNil))))) (gPutD 3 (rd 5) (bin (bin (getV (rd 3) (rd 5) (kc (.int 0))) (kc (.int 1)) dAdd) (callD 3 m_law_mixed (aCons (rd 0) (aCons (bin (bin (rd 1) (kc (.int 2)) dAdd) (bin (kc (.int 2)) (rd 4) dMul) dAdd) (aCons (kc (.int 4)) aNil)))) dAdd)))) (gSeq (gSet 6 (un (rd 3) dSumV)) (gRet (un (comp [5] (.nm 5) (itS (un (un (rd 3) dList) dSorted)) yes (mkTup (aCons (rd 5) (aCons (callD 2 m_law_frac (aCons (bin (rd 3) (rd 5) dDix) (aCons (rd 6) aNil))) aNil)))) dTuple)))))
noncomputable def m_law_spread : List D → Res D := run 7 g_law_spread

noncomputable def g_law_choice : Gx :=
  (gSeq (gSet 2 (bin (kc (.int 1)) (callD 3 m_law_mixed (aCons (rd 0) (aCons (rd 1) (aCons (kc (.int 4)) aNil)))) dAdd)) (gSeq (gSet 3 (mkLst aNil)) (gSeq (gFor (.nm 4) (itR1 (rd 2)) (gSeq (gSet 5 (bin (kc (.int 1)) (callD 3 m_law_mixed (aCons (rd 0) (aCons (bin (bin (rd 1) (kc (.int 1)) dAdd) (rd 4) dAdd) (aCons (kc (.int 3)) aNil)))) dAdd)) (gApp 3 (un (comp [6] (.nm 6) (itR1 (rd 5)) yes (callD 3 m_law_spread (aCons (rd 0) (aCons (bin (bin (bin (rd 1) (kc (.int 6)) dAdd) (bin (kc (.int 21)) (rd 4) dMul) dAdd) (bin (kc (.int 7)) (rd 6) dMul) dAdd) (aCons (rd 2) aNil))))) dTuple)))) (gRet (un (rd 3) dTuple)))))
noncomputable def m_law_choice : List D → Res D := run 7 g_law_choice

noncomputable def g_law_doubled : Gx :=
  (gSeq (gIf (orT (asB (bin (callD 3 m_law_mixed (aCons (rd 0) (aCons (kc (.int 80)) (aCons (kc (.int 2)) aNil)))) (kc (.int 0)) dEq)) (asB (bin (un (rd 1) dLen) (kc (.int 4)) dGt))) (gRet (rd 1)) gSkip) (gSeq (gSet 2 (un (rd 1) dLen)) (gSeq (gSet 3 (mkLst aNil)) (gSeq (gFor (.nm 4) (itR1 (kc (.int 2))) (gFor (.nm 5) (itS (rd 1)) (gSeq (gSet 6 (mkLst aNil)) (gSeq (gFor (.tp [7, 8]) (itE (rd 5)) (gSeq (gSet 9 (mkTup (aCons (bin (bin (rd 8) (kc (.int 1)) dIx) (kc (.int 0)) dIx) (aCons (bin (kc (.int 2)) (bin (bin (rd 8) (kc (.int 1)) dIx) (kc (.int 1)) dIx) dMul) aNil)))) (gSeq (gIf (asB (bin (bin (bin (rd 9) (kc (.int 0)) dIx) (kc (.int 2)) dMod) (kc (.int 0)) dEq)) (gSet 9 (mkTup (aCons (bin (bin (bin (rd 8) (kc (.int 1)) dIx) (kc (.int 0)) dIx) (kc (.int 2)) dDiv) (aCons (bin (bin (rd 8) (kc (.int 1)) dIx) (kc (.int 1)) dIx) aNil)))) gSkip) (gExt 6 (mkLst (aCons (mkTup (aCons (bin (rd 8) (kc (.int 0)) dIx) (aCons (rd 9) aNil))) (aCons (mkTup (aCons (bin (bin (rd 8) (kc (.int 0)) dIx) (rd 2) dAdd) (aCons (rd 9) aNil))) aNil))))))) (gApp 3 (un (un (rd 6) dSortedA) dTuple)))))) (gRet (un (rd 3) dTuple))))))
noncomputable def m_law_doubled : List D → Res D := run 10 g_law_doubled

noncomputable def g_law_even : Gx :=
  (gSeq (gSet 3 (mkLst aNil)) (gSeq (gFor (.nm 4) (itR1 (rd 2)) (gSeq (gSet 5 (callD 3 m_law_mixed (aCons (rd 0) (aCons (bin (rd 1) (bin (kc (.int 2)) (rd 4) dMul) dAdd) (aCons (rd 2) aNil))))) (gSeq (gSet 6 (callD 3 m_law_mixed (aCons (rd 0) (aCons (bin (bin (rd 1) (bin (kc (.int 2)) (rd 4) dMul) dAdd) (kc (.int 1)) dAdd) (aCons (rd 2) aNil))))) (gIf (asB (bin (rd 5) (rd 6) dEq)) (gApp 3 (mkTup (aCons (mkTup (aCons (rd 5) (aCons (mkTup (aCons (kc (.int 1)) (aCons (kc (.int 1)) aNil))) aNil))) aNil))) (gApp 3 (un (comp [7] (.nm 7) (itS (un (mkLst (aCons (rd 5) (aCons (rd 6) aNil))) dSorted)) yes (mkTup (aCons (rd 7) (aCons (mkTup (aCons (kc (.int 1)) (aCons (kc (.int 2)) aNil))) aNil)))) dTuple)))))) (gRet (un (rd 3) dTuple))))
noncomputable def m_law_even : List D → Res D := run 8 g_law_even

noncomputable def g_law_figures : Gx :=
  (gSeq (gSet 1 (kc (.str ("" : PySem.Str)))) (gSeq (gWh (orT (asB (bin (rd 0) (kc (.int 0)) dGt)) (asB (bin (rd 1) (kc (.str ("" : PySem.Str))) dEq))) (gSeq (gSet 1 (bin (bin (kc (.str ("0123456789" : PySem.Str))) (bin (rd 0) (kc (.int 10)) dMod) dIx) (rd 1) dAdd)) (gSet 0 (bin (rd 0) (kc (.int 10)) dDiv)))) (gRet (rd 1))))
noncomputable def m_law_figures : List D → Res D := run 2 g_law_figures

noncomputable def g_law_goals : Gx :=
  (gRet (comp [3] (.nm 3) (itR1 (rd 2)) (asB (bin (callD 3 m_law_mixed (aCons (rd 0) (aCons (bin (rd 1) (rd 3) dAdd) (aCons (kc (.int 3)) aNil)))) (kc (.int 0)) dEq)) (rd 3)))
noncomputable def m_law_goals : List D → Res D := run 4 g_law_goals

noncomputable def g_law_is_fraction : Gx :=
  (gSeq (gIf (orT (notT (asB (un (rd 0) (dIsi "tuple")))) (asB (bin (un (rd 0) dLen) (kc (.int 2)) dNe))) (gRet (kc (.bool false))) gSkip) (gSeq (gIf (orT (notT (asB (callD 1 m_law_whole (aCons (bin (rd 0) (kc (.int 0)) dIx) aNil)))) (orT (notT (asB (callD 1 m_law_whole (aCons (bin (rd 0) (kc (.int 1)) dIx) aNil)))) (asB (bin (bin (rd 0) (kc (.int 1)) dIx) (kc (.int 1)) dLt)))) (gRet (kc (.bool false))) gSkip) (gRet (bin (callD 2 m_law_divisor (aCons (bin (rd 0) (kc (.int 0)) dIx) (aCons (bin (rd 0) (kc (.int 1)) dIx) aNil))) (kc (.int 1)) dEq))))
noncomputable def m_law_is_fraction : List D → Res D := run 1 g_law_is_fraction

noncomputable def g_law_is_spread : Gx :=
  (gSeq (gIf (orT (notT (asB (un (rd 0) (dIsi "tuple")))) (asB (bin (rd 0) (mkTup aNil) dEq))) (gRet (kc (.bool false))) gSkip) (gSeq (gSet 2 (mkTup (aCons (kc (.int 0)) (aCons (kc (.int 1)) aNil)))) (gSeq (gSet 3 (un (kc (.int 1)) dNeg)) (gSeq (gFor (.nm 4) (itS (rd 0)) (gSeq (gIf (orT (notT (asB (un (rd 4) (dIsi "tuple")))) (orT (asB (bin (un (rd 4) dLen) (kc (.int 2)) dNe)) (orT (notT (asB (callD 1 m_law_whole (aCons (bin (rd 4) (kc (.int 0)) dIx) aNil)))) (notT (asB (callD 1 m_law_is_fraction (aCons (bin (rd 4) (kc (.int 1)) dIx) aNil))))))) (gRet (kc (.bool false))) gSkip) (gSeq (gIf (orT (asB (bin (bin (rd 4) (kc (.int 0)) dIx) (rd 3) dLe)) (orT (asB (bin (bin (rd 4) (kc (.int 0)) dIx) (rd 1) dGe)) (asB (bin (bin (bin (rd 4) (kc (.int 1)) dIx) (kc (.int 0)) dIx) (kc (.int 0)) dLe)))) (gRet (kc (.bool false))) gSkip) (gSeq (gSet 3 (bin (rd 4) (kc (.int 0)) dIx)) (gSet 2 (callD 3 m_law_add (aCons (rd 2) (aCons (bin (rd 4) (kc (.int 1)) dIx) (aCons (mkTup (aCons (kc (.int 1)) (aCons (kc (.int 1)) aNil))) aNil))))))))) (gRet (bin (rd 2) (mkTup (aCons (kc (.int 1)) (aCons (kc (.int 1)) aNil))) dEq))))))
noncomputable def m_law_is_spread : List D → Res D := run 5 g_law_is_spread

noncomputable def g_law_is_walk : Gx :=
  (gSeq (gIf (orT (notT (asB (un (rd 0) (dIsi "tuple")))) (orT (asB (bin (un (rd 0) dLen) (kc (.int 1)) dLt)) (asB (bin (un (rd 0) dLen) (kc (.int 8)) dGt)))) (gRet (kc (.bool false))) gSkip) (gRet (bin (comp [1] (.nm 1) (itS (rd 0)) (notT (asB (callD 2 m_law_is_spread (aCons (rd 1) (aCons (un (rd 0) dLen) aNil))))) (rd 1)) (mkLst aNil) dEq)))
noncomputable def m_law_is_walk : List D → Res D := run 2 g_law_is_walk

noncomputable def g_law_kind : Gx :=
  (gSeq (gSet 2 (kc (.str ("" : PySem.Str)))) (gSeq (gTryM [("ChanceError" : PySem.Str), ("NoChoice" : PySem.Str), ("NoPicks" : PySem.Str)] (bIf (asB (bin (rd 1) (kc .none) dIs)) (bCall 1 m_checked_choice (aCons (rd 0) aNil)) (bCall 2 m_picked (aCons (rd 0) (aCons (bin (rd 1) (kc (.int 0)) dIx) aNil)))) ((("NoChoice" : PySem.Str), (gSet 2 (kc (.str ("choice" : PySem.Str))))) :: (("NoPicks" : PySem.Str), (gSet 2 (kc (.str ("picks" : PySem.Str))))) :: [])) (gRet (rd 2))))
noncomputable def m_law_kind : List D → Res D := run 3 g_law_kind

noncomputable def g_law_made : Gx :=
  (gSeq (gSet 2 (mkTup (aCons (kc (.int 0)) (aCons (kc (.int 1)) aNil)))) (gSeq (gFor (.nm 3) (itS (rd 0)) (gSet 2 (callD 3 m_law_add (aCons (rd 2) (aCons (bin (rd 3) (kc (.int 1)) dIx) (aCons (bin (rd 1) (bin (rd 3) (kc (.int 0)) dIx) dIx) aNil)))))) (gRet (rd 2))))
noncomputable def m_law_made : List D → Res D := run 4 g_law_made

noncomputable def g_law_number_of : Gx :=
  (gSeq (gIf (orT (asB (bin (rd 0) (kc (.str ("" : PySem.Str))) dEq)) (orT (asB (bin (un (rd 0) dLen) (kc (.int 30)) dGt)) (andT (asB (bin (bin (rd 0) (kc (.int 0)) dIx) (kc (.str ("0" : PySem.Str))) dEq)) (asB (bin (rd 0) (kc (.str ("0" : PySem.Str))) dNe))))) (gRet (kc .none)) gSkip) (gSeq (gSet 1 (kc (.int 0))) (gSeq (gFor (.nm 2) (itS (rd 0)) (gSeq (gSet 3 (binS (kc (.str ("0123456789" : PySem.Str))) (rd 2) dFind)) (gSeq (gIf (asB (bin (rd 3) (kc (.int 0)) dLt)) (gRet (kc .none)) gSkip) (gSet 1 (bin (bin (kc (.int 10)) (rd 1) dMul) (rd 3) dAdd))))) (gRet (rd 1)))))
noncomputable def m_law_number_of : List D → Res D := run 4 g_law_number_of

noncomputable def g_law_pair_of : Gx :=
  (gSeq (gSet 1 (binS (rd 0) (kc (.str (">" : PySem.Str))) dFind)) (gSeq (gIf (asB (bin (rd 1) (kc (.int 0)) dLt)) (gRet (kc .none)) gSkip) (gSeq (gSet 2 (slc (rd 0) pNo (pIs (rd 1)))) (gSeq (gSet 3 (kc (.int 1))) (gSeq (gSet 4 (binS (rd 2) (kc (.str ("/" : PySem.Str))) dFind)) (gSeq (gIf (asB (bin (rd 4) (kc (.int 0)) dGe)) (gSeq (gSet 3 (callD 1 m_law_number_of (aCons (slc (rd 2) (pIs (bin (rd 4) (kc (.int 1)) dAdd)) pNo) aNil))) (gSeq (gSet 2 (slc (rd 2) pNo (pIs (rd 4)))) (gIf (orT (asB (bin (rd 3) (kc .none) dIs)) (asB (bin (rd 3) (kc (.int 2)) dLt))) (gRet (kc .none)) gSkip))) gSkip) (gSeq (gSet 5 (mkTup (aCons (callD 1 m_law_number_of (aCons (slc (rd 0) (pIs (bin (rd 1) (kc (.int 1)) dAdd)) pNo) aNil)) (aCons (callD 1 m_law_number_of (aCons (rd 2) aNil)) aNil)))) (gSeq (gIf (orT (asB (bin (bin (rd 5) (kc (.int 0)) dIx) (kc .none) dIs)) (orT (asB (bin (bin (rd 5) (kc (.int 1)) dIx) (kc .none) dIs)) (orT (asB (bin (bin (rd 5) (kc (.int 1)) dIx) (kc (.int 0)) dEq)) (asB (bin (callD 2 m_law_divisor (aCons (bin (rd 5) (kc (.int 1)) dIx) (aCons (rd 3) aNil))) (kc (.int 1)) dNe))))) (gRet (kc .none)) gSkip) (gRet (mkTup (aCons (bin (rd 5) (kc (.int 0)) dIx) (aCons (mkTup (aCons (bin (rd 5) (kc (.int 1)) dIx) (aCons (rd 3) aNil))) aNil))))))))))))
noncomputable def m_law_pair_of : List D → Res D := run 6 g_law_pair_of

noncomputable def g_law_refused : Gx :=
  (gSeq (gSet 1 (kc (.int 0))) (gSeq (gTryM [("ChanceError" : PySem.Str), ("NoWalk" : PySem.Str)] (bCall 1 m_checked (aCons (rd 0) aNil)) ((("NoWalk" : PySem.Str), (gSet 1 (bin (rd 1) (kc (.int 1)) dAdd))) :: [])) (gSeq (gTryE [("ChanceError" : PySem.Str), ("NoWalk" : PySem.Str)] (bCall 1 m_checked (aCons (rd 0) aNil)) ("ChanceError" : PySem.Str) 2 (fun c => (gSet 1 (bin (rd 1) (un (kc (.bool true)) dInt) dAdd)))) (gRet (bin (rd 1) (kc (.int 2)) dEq)))))
noncomputable def m_law_refused : List D → Res D := run 3 g_law_refused

noncomputable def g_law_shares : Gx :=
  (gSeq (gSet 2 (kc (.dict []))) (gSeq (gFor (.tp [3, 4]) (itS (rd 0)) (gPutD 2 (bin (rd 1) (rd 3) dIx) (callD 3 m_law_add (aCons (getV (rd 2) (bin (rd 1) (rd 3) dIx) (mkTup (aCons (kc (.int 0)) (aCons (kc (.int 1)) aNil)))) (aCons (rd 4) (aCons (mkTup (aCons (kc (.int 1)) (aCons (kc (.int 1)) aNil))) aNil)))))) (gRet (un (rd 2) dSortedItems))))
noncomputable def m_law_shares : List D → Res D := run 5 g_law_shares

noncomputable def g_law_small : Gx :=
  (gRet (mkTup (aCons (mkTup (aCons (mkTup (aCons (kc (.int 0)) (aCons (mkTup (aCons (kc (.int 1)) (aCons (kc (.int 2)) aNil))) aNil))) (aCons (mkTup (aCons (kc (.int 1)) (aCons (mkTup (aCons (kc (.int 1)) (aCons (kc (.int 2)) aNil))) aNil))) aNil))) (aCons (mkTup (aCons (mkTup (aCons (kc (.int 0)) (aCons (mkTup (aCons (kc (.int 1)) (aCons (kc (.int 3)) aNil))) aNil))) (aCons (mkTup (aCons (kc (.int 1)) (aCons (mkTup (aCons (kc (.int 2)) (aCons (kc (.int 3)) aNil))) aNil))) aNil))) aNil))))
noncomputable def m_law_small : List D → Res D := run 0 g_law_small

noncomputable def g_law_spoilt_spread : Gx :=
  (gSeq (gSet 2 (bin (bin (rd 1) (kc (.int 16)) dDiv) (un (rd 0) dLen) dMod)) (gSeq (gSet 3 (bin (bin (rd 0) (rd 2) dIx) (kc (.int 0)) dIx)) (gSeq (gSet 4 (bin (bin (rd 0) (rd 2) dIx) (kc (.int 1)) dIx)) (gSeq (gSet 5 (mkLst (aCons (mkTup (aCons (un (kc (.int 1)) dNeg) (aCons (rd 4) aNil))) (aCons (mkTup (aCons (kc (.int 9)) (aCons (rd 4) aNil))) (aCons (mkTup (aCons (kc (.bool true)) (aCons (rd 4) aNil))) (aCons (mkTup (aCons (kc (.str ("0" : PySem.Str))) (aCons (rd 4) aNil))) (aCons (mkTup (aCons (rd 3) (aCons (mkTup (aCons (kc (.int 0)) (aCons (kc (.int 1)) aNil))) aNil))) (aCons (mkTup (aCons (rd 3) (aCons (mkTup (aCons (un (kc (.int 1)) dNeg) (aCons (kc (.int 2)) aNil))) aNil))) (aCons (mkTup (aCons (rd 3) (aCons (mkTup (aCons (kc (.int 2)) (aCons (kc (.int 4)) aNil))) aNil))) aNil))))))))) (gSeq (gExt 5 (mkLst (aCons (mkTup (aCons (rd 3) (aCons (kc (.int 1)) aNil))) (aCons (mkTup (aCons (rd 3) (aCons (mkTup (aCons (kc (.int 1)) (aCons (kc (.int 1)) aNil))) aNil))) (aCons (mkLst (aCons (rd 3) (aCons (rd 4) aNil))) (aCons (mkTup (aCons (rd 3) aNil)) (aCons (mkTup (aCons (rd 3) (aCons (mkTup (aCons (bin (rd 4) (kc (.int 0)) dIx) (aCons (bin (bin (rd 4) (kc (.int 1)) dIx) (kc (.int 1)) dAdd) aNil))) aNil))) aNil))))))) (gSeq (gIf (asB (bin (bin (rd 1) (kc (.int 16)) dMod) (kc (.int 12)) dLt)) (gRet (bin (bin (slc (rd 0) pNo (pIs (rd 2))) (mkTup (aCons (bin (rd 5) (bin (rd 1) (kc (.int 16)) dMod) dIx) aNil)) dAdd) (slc (rd 0) (pIs (bin (rd 2) (kc (.int 1)) dAdd)) pNo) dAdd)) gSkip) (gRet (bin (mkLst (aCons (un (rd 0) dList) (aCons (mkTup aNil) (aCons (un (rd 0) dRev) (aCons (bin (rd 0) (slc (rd 0) (pIs (un (kc (.int 1)) dNeg)) pNo) dAdd) aNil))))) (bin (bin (rd 1) (kc (.int 16)) dMod) (kc (.int 12)) dSub) dIx))))))))
noncomputable def m_law_spoilt_spread : List D → Res D := run 6 g_law_spoilt_spread

noncomputable def g_law_step : Gx :=
  (gSeq (gSet 2 (comp [5] (.nm 5) (itS (rd 0)) yes (mkTup (aCons (kc (.int 0)) (aCons (kc (.int 1)) aNil))))) (gSeq (gFor (.nm 3) (itR1 (un (rd 0) dLen)) (gFor (.nm 4) (itS (bin (rd 0) (rd 3) dIx)) (gPutL 2 (bin (rd 4) (kc (.int 0)) dIx) (callD 3 m_law_add (aCons (bin (rd 2) (bin (rd 4) (kc (.int 0)) dIx) dIx) (aCons (bin (rd 1) (rd 3) dIx) (aCons (bin (rd 4) (kc (.int 1)) dIx) aNil))))))) (gRet (rd 2))))
noncomputable def m_law_step : List D → Res D := run 6 g_law_step

noncomputable def g_law_walk : Gx :=
  (gSeq (gSet 2 (bin (kc (.int 1)) (callD 3 m_law_mixed (aCons (rd 0) (aCons (rd 1) (aCons (kc (.int 5)) aNil)))) dAdd)) (gSeq (gIf (asB (bin (callD 3 m_law_mixed (aCons (rd 0) (aCons (bin (rd 1) (kc (.int 1)) dAdd) (aCons (kc (.int 6)) aNil)))) (kc (.int 5)) dEq)) (gSet 2 (kc (.int 8))) gSkip) (gRet (un (comp [3] (.nm 3) (itR1 (rd 2)) yes (callD 3 m_law_spread (aCons (rd 0) (aCons (bin (bin (rd 1) (kc (.int 2)) dAdd) (bin (kc (.int 7)) (rd 3) dMul) dAdd) (aCons (rd 2) aNil))))) dTuple))))
noncomputable def m_law_walk : List D → Res D := run 4 g_law_walk

noncomputable def g_law_walk_of : Gx :=
  (gSeq (gSet 1 (binS (rd 0) (kc (.str (" ; " : PySem.Str))) dSplit)) (gSeq (gSet 2 (mkLst aNil)) (gSeq (gFor (.nm 3) (itS (rd 1)) (gSeq (gSet 4 (comp [8] (.nm 8) (itS (binS (rd 3) (kc (.str (" " : PySem.Str))) dSplit)) yes (callD 1 m_law_pair_of (aCons (rd 8) aNil)))) (gSeq (gIf (asB (bin (kc .none) (rd 4) dIn)) (gRet (kc .none)) gSkip) (gSeq (gSet 5 (comp [7] (.nm 7) (itS (rd 4)) yes (bin (rd 7) (kc (.int 0)) dIx))) (gSeq (gIf (orT (asB (bin (rd 5) (un (rd 5) dSortedSet) dNe)) (asB (bin (bin (rd 5) (un (kc (.int 1)) dNeg) dIx) (un (rd 1) dLen) dGe))) (gRet (kc .none)) gSkip) (gSeq (gSet 6 (mkTup (aCons (kc (.int 0)) (aCons (kc (.int 1)) aNil)))) (gSeq (gFor (.nm 7) (itS (rd 4)) (gSet 6 (callD 3 m_law_add (aCons (rd 6) (aCons (bin (rd 7) (kc (.int 1)) dIx) (aCons (mkTup (aCons (kc (.int 1)) (aCons (kc (.int 1)) aNil))) aNil)))))) (gSeq (gIf (asB (bin (rd 6) (mkTup (aCons (kc (.int 1)) (aCons (kc (.int 1)) aNil))) dNe)) (gRet (kc .none)) gSkip) (gApp 2 (un (rd 4) dTuple)))))))))) (gSeq (gIf (asB (bin (un (rd 2) dLen) (kc (.int 8)) dGt)) (gRet (kc .none)) gSkip) (gRet (un (rd 2) dTuple))))))
noncomputable def m_law_walk_of : List D → Res D := run 9 g_law_walk_of

noncomputable def g_law_way_cost : Gx :=
  (gSeq (gSet 3 (mkTup (aCons (rd 1) (aCons (kc (.int 1)) aNil)))) (gSeq (gFor (.nm 4) (itS (rd 0)) (gSeq (gIf (asB (bin (bin (rd 2) (bin (rd 4) (kc (.int 0)) dIx) dIx) (kc .none) dIs)) (gRet (kc .none)) gSkip) (gSet 3 (callD 3 m_law_add (aCons (rd 3) (aCons (bin (rd 4) (kc (.int 1)) dIx) (aCons (bin (rd 2) (bin (rd 4) (kc (.int 0)) dIx) dIx) aNil))))))) (gRet (rd 3))))
noncomputable def m_law_way_cost : List D → Res D := run 5 g_law_way_cost

noncomputable def g_law_walked : Gx :=
  (gSeq (gFor (.nm 5) (itR1 (un (rd 0) dLen)) (gIf (orT (asB (bin (rd 5) (rd 2) dIn)) (asB (bin (bin (rd 3) (rd 5) dIx) (kc .none) dIs))) (gIf (orT (asB (bin (bin (rd 4) (rd 5) dIx) (kc (.int 0)) dNe)) (andT (asB (bin (bin (rd 3) (rd 5) dIx) (kc .none) dIsNot)) (asB (bin (bin (rd 3) (rd 5) dIx) (mkTup (aCons (kc (.int 0)) (aCons (kc (.int 1)) aNil))) dNe)))) (gRet (kc (.bool false))) gSkip) (gSeq (gSet 6 (comp [7, 8] (.tp [7, 8]) (itY (bin (rd 0) (rd 5) dIx) (bin (rd 1) (rd 5) dIx)) yes (callD 3 m_law_way_cost (aCons (rd 7) (aCons (rd 8) (aCons (rd 3) aNil)))))) (gSeq (gIf (asB (bin (bin (rd 6) (bin (rd 4) (rd 5) dIx) dIx) (bin (rd 3) (rd 5) dIx) dNe)) (gRet (kc (.bool false))) gSkip) (gIf (asB (bin (comp [8] (.nm 8) (itS (rd 6)) (andT (asB (bin (rd 8) (kc .none) dIsNot)) (asB (callD 2 m_law_below (aCons (rd 8) (aCons (bin (rd 3) (rd 5) dIx) aNil))))) (rd 8)) (mkLst aNil) dNe)) (gRet (kc (.bool false))) gSkip))))) (gRet (kc (.bool true))))
noncomputable def m_law_walked : List D → Res D := run 9 g_law_walked

noncomputable def g_law_ways : Gx :=
  (gSeq (gSet 4 (mkLst aNil)) (gSeq (gFor (.nm 5) (itR1 (un (rd 0) dLen)) (gIf (andT (asB (bin (bin (rd 1) (rd 5) dIx) (mkTup (aCons (kc (.int 0)) (aCons (kc (.int 1)) aNil))) dNe)) (asB (bin (bin (rd 2) (rd 5) dIx) (bin (rd 3) (kc (.int 0)) dIx) dEq))) (gApp 4 (mkTup (aCons (bin (rd 1) (rd 5) dIx) (aCons (mkLst (aCons (rd 5) aNil)) aNil)))) gSkip)) (gSeq (gFor (.nm 6) (itS (slc (rd 3) (pIs (kc (.int 1))) pNo)) (gSeq (gSet 7 (mkLst aNil)) (gSeq (gFor (.tp [8, 9]) (itS (rd 4)) (gFor (.nm 10) (itS (bin (rd 0) (bin (rd 9) (un (kc (.int 1)) dNeg) dIx) dIx)) (gIf (asB (bin (bin (rd 2) (bin (rd 10) (kc (.int 0)) dIx) dIx) (rd 6) dEq)) (gApp 7 (mkTup (aCons (callD 3 m_law_add (aCons (mkTup (aCons (kc (.int 0)) (aCons (kc (.int 1)) aNil))) (aCons (rd 8) (aCons (bin (rd 10) (kc (.int 1)) dIx) aNil)))) (aCons (bin (rd 9) (mkLst (aCons (bin (rd 10) (kc (.int 0)) dIx) aNil)) dAdd) aNil)))) gSkip))) (gSet 4 (rd 7))))) (gRet (rd 4)))))
noncomputable def m_law_ways : List D → Res D := run 11 g_law_ways

noncomputable def g_law_written : Gx :=
  (gSeq (gSet 1 (mkLst aNil)) (gSeq (gFor (.nm 2) (itS (rd 0)) (gSeq (gSet 3 (mkLst aNil)) (gSeq (gFor (.tp [4, 5]) (itS (rd 2)) (gApp 3 (bin (bin (bin (mkLst (aCons (bin (bin (un (bin (rd 5) (kc (.int 0)) dIx) dStr) (kc (.str ("/" : PySem.Str))) dAdd) (un (bin (rd 5) (kc (.int 1)) dIx) dStr) dAdd) (aCons (un (bin (rd 5) (kc (.int 0)) dIx) dStr) aNil))) (un (bin (bin (rd 5) (kc (.int 1)) dIx) (kc (.int 1)) dEq) dInt) dIx) (kc (.str (">" : PySem.Str))) dAdd) (un (rd 4) dStr) dAdd))) (gApp 1 (binS (kc (.str (" " : PySem.Str))) (rd 3) dJoin))))) (gRet (binS (kc (.str (" ; " : PySem.Str))) (rd 1) dJoin))))
noncomputable def m_law_written : List D → Res D := run 6 g_law_written

noncomputable def g_never : Gx :=
  (gSeq (gSet 2 (kc (.dict []))) (gSeq (gFor (.nm 3) (itR1 (un (rd 0) dLen)) (gIf (asB (bin (rd 3) (rd 1) dNotIn)) (gPutD 2 (rd 3) (kc (.int 0))) gSkip)) (gSeq (gSet 4 (un (kc (.int 1)) dNeg)) (gSeq (gWh (asB (bin (rd 4) (un (rd 2) dLen) dNe)) (gSeq (gSet 4 (un (rd 2) dLen)) (gSeq (gSet 5 (kc (.dict []))) (gSeq (gForK (.nm 3) 2 (gSeq (gSet 6 (comp [7] (.nm 7) (itR1 (un (bin (rd 0) (rd 3) dIx) dLen)) (asB (un (comp [8, 9] (.tp [8, 9]) (itS (bin (bin (rd 0) (rd 3) dIx) (rd 7) dIx)) yes (bin (rd 8) (rd 2) dIn)) dAll)) (rd 7))) (gIf (asB (bin (rd 6) (mkLst aNil) dNe)) (gPutD 5 (rd 3) (bin (rd 6) (kc (.int 0)) dIx)) gSkip))) (gSet 2 (rd 5)))))) (gRet (rd 2))))))
noncomputable def m_never : List D → Res D := run 10 g_never

noncomputable def g_worse : Gx :=
  (gSeq (gSet 4 (un (rd 2) dList)) (gSeq (gFor (.nm 5) (itS (rd 3)) (gSeq (gSet 6 (bin (rd 1) (rd 5) dIx)) (gFor (.nm 7) (itR1 (un (bin (rd 0) (rd 5) dIx) dLen)) (gSeq (gSet 8 (callD 2 m_made_of (aCons (bin (bin (rd 0) (rd 5) dIx) (rd 7) dIx) (aCons (rd 1) aNil)))) (gIf (asB (callD 2 m_below (aCons (rd 8) (aCons (rd 6) aNil)))) (gSeq (gSet 6 (rd 8)) (gPutL 4 (rd 5) (rd 7))) gSkip))))) (gRet (rd 4))))
noncomputable def m_worse : List D → Res D := run 9 g_worse

noncomputable def g_least : Gx :=
  (gSeq (gDrop (callD 2 m_need_rooms (aCons (rd 0) (aCons (rd 1) aNil)))) (gSeq (gSet 2 (callD 2 m_never (aCons (rd 0) (aCons (rd 1) aNil)))) (gSeq (gSet 3 (comp [7] (.nm 7) (itR1 (un (rd 0) dLen)) (andT (asB (bin (rd 7) (rd 2) dNotIn)) (asB (bin (rd 7) (rd 1) dNotIn))) (rd 7))) (gSeq (gSet 4 (comp [7] (.nm 7) (itR1 (un (rd 0) dLen)) yes (getV (rd 2) (rd 7) (kc (.int 0))))) (gSeq (gSet 5 (callD 4 m_by_picks (aCons (rd 0) (aCons (rd 4) (aCons (rd 1) (aCons (rd 3) aNil)))))) (gSeq (gSet 6 (callD 4 m_worse (aCons (rd 0) (aCons (rd 5) (aCons (rd 4) (aCons (rd 3) aNil)))))) (gSeq (gWh (asB (bin (rd 6) (rd 4) dNe)) (gSeq (gSet 4 (rd 6)) (gSeq (gSet 5 (callD 4 m_by_picks (aCons (rd 0) (aCons (rd 4) (aCons (rd 1) (aCons (rd 3) aNil)))))) (gSet 6 (callD 4 m_worse (aCons (rd 0) (aCons (rd 5) (aCons (rd 4) (aCons (rd 3) aNil))))))))) (gRet (mkTup (aCons (rd 5) (aCons (rd 4) aNil)))))))))))
noncomputable def m_least : List D → Res D := run 8 g_least

noncomputable def g_likeliest : Gx :=
  (gSeq (gDrop (callD 2 m_need_begin (aCons (rd 0) (aCons (rd 1) aNil)))) (gSeq (gDrop (callD 2 m_need_marks (aCons (rd 0) (aCons (rd 2) aNil)))) (gSeq (gDrop (callD 1 m_need_seen (aCons (rd 3) aNil))) (gSeq (gSet 4 (comp [9] (.nm 9) (itS (rd 0)) yes (kc .none))) (gSeq (gFor (.nm 5) (itR1 (un (rd 0) dLen)) (gIf (andT (asB (bin (bin (rd 1) (rd 5) dIx) (kc (.tuple [.int 0, .int 1])) dNe)) (asB (bin (bin (rd 2) (rd 5) dIx) (bin (rd 3) (kc (.int 0)) dIx) dEq))) (gPutL 4 (rd 5) (mkTup (aCons (bin (rd 1) (rd 5) dIx) (aCons (mkLst (aCons (rd 5) aNil)) aNil)))) gSkip)) (gSeq (gFor (.nm 6) (itS (slc (rd 3) (pIs (kc (.int 1))) pNo)) (gSet 4 (callD 4 m_further (aCons (rd 0) (aCons (rd 4) (aCons (rd 2) (aCons (rd 6) aNil))))))) (gSeq (gSet 7 (kc .none)) (gSeq (gFor (.nm 8) (itS (rd 4)) (gIf (asB (bin (rd 8) (kc .none) dIsNot)) (gSet 7 (callD 2 m_nearer (aCons (rd 7) (aCons (rd 8) aNil)))) gSkip)) (gSeq (gIf (asB (bin (rd 7) (kc .none) dIs)) (gRet (kc .none)) gSkip) (gRet (bin (rd 7) (kc (.int 1)) dIx)))))))))))
noncomputable def m_likeliest : List D → Res D := run 10 g_likeliest

noncomputable def g_numbered : Gx :=
  (gRet (comp [1] (.nm 1) (itS (rd 0)) yes (idx (rd 0) (rd 1))))
noncomputable def m_numbered : List D → Res D := run 2 g_numbered

noncomputable def g_shares_to : Gx :=
  (gSeq (gSet 2 (mkLst aNil)) (gSeq (gFor (.nm 3) (itS (un (rd 1) dSortedSet)) (gApp 2 (callD 1 m_summed (aCons (comp [4, 5] (.tp [4, 5]) (itS (rd 0)) (asB (bin (bin (rd 1) (rd 4) dIx) (rd 3) dEq)) (rd 5)) aNil)))) (gRet (rd 2))))
noncomputable def m_shares_to : List D → Res D := run 6 g_shares_to

noncomputable def g_likeness : Gx :=
  (gSeq (gDrop (callD 2 m_need_marks (aCons (rd 0) (aCons (rd 1) aNil)))) (gSeq (gSet 2 (callD 1 m_numbered (aCons (rd 1) aNil))) (gSeq (gSet 3 (mkLst aNil)) (gSeq (gWh (asB (bin (rd 2) (rd 3) dNe)) (gSeq (gSet 3 (rd 2)) (gSet 2 (callD 1 m_numbered (aCons (comp [4] (.nm 4) (itR1 (un (rd 0) dLen)) yes (mkTup (aCons (bin (rd 3) (rd 4) dIx) (aCons (callD 2 m_shares_to (aCons (bin (rd 0) (rd 4) dIx) (aCons (rd 3) aNil))) aNil)))) aNil))))) (gRet (rd 2))))))
noncomputable def m_likeness : List D → Res D := run 5 g_likeness

noncomputable def g_steady : Gx :=
  (gSeq (gSet 2 (mkLst aNil)) (gSeq (gFor (.nm 3) (itS (slc (rd 1) (pIs (kc (.int 1))) pNo)) (gSeq (gSet 4 (bin (comp [5] (.nm 5) (itS (rd 1)) yes (kc (.tuple [.int 0, .int 1]))) (mkLst (aCons (kc (.tuple [.int 0, .int 1])) aNil)) dCat)) (gSeq (gFor (.nm 5) (itS (rd 1)) (gFor (.tp [6, 7]) (itS (bin (rd 0) (rd 5) dIx)) (gIf (asB (bin (rd 6) (rd 3) dEq)) (gPutL 4 (idx (rd 1) (rd 5)) (callD 2 m_plus (aCons (bin (rd 4) (idx (rd 1) (rd 5)) dIx) (aCons (rd 7) aNil)))) gSkip))) (gSeq (gPutL 4 (idx (rd 1) (rd 3)) (callD 2 m_less (aCons (bin (rd 4) (idx (rd 1) (rd 3)) dIx) (aCons (kc (.tuple [.int 1, .int 1])) aNil)))) (gApp 2 (rd 4)))))) (gSeq (gApp 2 (bin (comp [5] (.nm 5) (itS (rd 1)) yes (kc (.tuple [.int 1, .int 1]))) (mkLst (aCons (kc (.tuple [.int 1, .int 1])) aNil)) dAdd)) (gRet (callD 1 m_solved (aCons (rd 2) aNil))))))
noncomputable def m_steady : List D → Res D := run 8 g_steady

noncomputable def g_long_run : Gx :=
  (gSeq (gDrop (callD 2 m_need_room (aCons (rd 0) (aCons (rd 1) aNil)))) (gSeq (gSet 2 (comp [7] (.nm 7) (itS (rd 0)) yes (kc (.tuple [.int 0, .int 1])))) (gSeq (gFor (.nm 3) (itS (callD 1 m_ends (aCons (rd 0) aNil))) (gSeq (gSet 4 (bin (callD 2 m_chances_of (aCons (rd 0) (aCons (rd 3) aNil))) (rd 1) dIx)) (gFor (.tp [5, 6]) (itY (rd 3) (callD 2 m_steady (aCons (rd 0) (aCons (rd 3) aNil)))) (gPutL 2 (rd 5) (callD 2 m_times (aCons (rd 4) (aCons (rd 6) aNil))))))) (gRet (rd 2)))))
noncomputable def m_long_run : List D → Res D := run 8 g_long_run

noncomputable def g_most : Gx :=
  (gSeq (gDrop (callD 2 m_need_rooms (aCons (rd 0) (aCons (rd 1) aNil)))) (gSeq (gSet 2 (comp [5] (.nm 5) (itS (rd 0)) yes (kc (.int 0)))) (gSeq (gSet 3 (callD 2 m_chances_of (aCons (callD 2 m_walk_by (aCons (rd 0) (aCons (rd 2) aNil))) (aCons (rd 1) aNil)))) (gSeq (gSet 4 (callD 4 m_better (aCons (rd 0) (aCons (rd 3) (aCons (rd 2) (aCons (rd 1) aNil)))))) (gSeq (gWh (asB (bin (rd 4) (rd 2) dNe)) (gSeq (gSet 2 (rd 4)) (gSeq (gSet 3 (callD 2 m_chances_of (aCons (callD 2 m_walk_by (aCons (rd 0) (aCons (rd 2) aNil))) (aCons (rd 1) aNil)))) (gSet 4 (callD 4 m_better (aCons (rd 0) (aCons (rd 3) (aCons (rd 2) (aCons (rd 1) aNil))))))))) (gRet (mkTup (aCons (rd 3) (aCons (rd 2) aNil)))))))))
noncomputable def m_most : List D → Res D := run 6 g_most

noncomputable def g_need_costs : Gx :=
  (gSeq (gIf (orT (notT (asB (un (rd 1) (dIsi "list")))) (asB (bin (un (rd 1) dLen) (un (rd 0) dLen) dNe))) (gRaise ("NoCosts" : PySem.Str)) gSkip) (gFor (.tp [2, 3]) (itY (rd 0) (rd 1)) (gSeq (gIf (orT (notT (asB (un (rd 3) (dIsi "list")))) (asB (bin (un (rd 3) dLen) (un (rd 2) dLen) dNe))) (gRaise ("NoCosts" : PySem.Str)) gSkip) (gFor (.nm 4) (itS (rd 3)) (gIf (orT (notT (asB (callD 1 m_is_whole (aCons (rd 4) aNil)))) (asB (bin (rd 4) (kc (.int 1)) dLt))) (gRaise ("NoCosts" : PySem.Str)) gSkip)))))
noncomputable def m_need_costs : List D → Res D := run 5 g_need_costs

noncomputable def g_number_of : Gx :=
  (gSeq (gIf (orT (asB (bin (rd 0) (kc (.str ("" : PySem.Str))) dEq)) (orT (asB (bin (un (rd 0) dLen) (kc (.int 30)) dGt)) (andT (asB (bin (bin (rd 0) (kc (.int 0)) dIx) (kc (.str ("0" : PySem.Str))) dEq)) (asB (bin (rd 0) (kc (.str ("0" : PySem.Str))) dNe))))) (gRaise ("NoText" : PySem.Str)) gSkip) (gSeq (gFor (.nm 1) (itS (rd 0)) (gIf (asB (bin (rd 1) (kc (.str ("0123456789" : PySem.Str))) dNotIn)) (gRaise ("NoText" : PySem.Str)) gSkip)) (gRet (un (rd 0) dIntT))))
noncomputable def m_number_of : List D → Res D := run 2 g_number_of

noncomputable def g_share_of : Gx :=
  (gSeq (gSet 1 (binS (rd 0) (kc (.str ("/" : PySem.Str))) dPart)) (gSeq (gIf (asB (bin (bin (rd 1) (kc (.int 1)) dIx) (kc (.str ("" : PySem.Str))) dEq)) (gRet (mkTup (aCons (callD 1 m_number_of (aCons (rd 0) aNil)) (aCons (kc (.int 1)) aNil)))) gSkip) (gSeq (gSet 2 (callD 1 m_number_of (aCons (bin (rd 1) (kc (.int 2)) dIx) aNil))) (gSeq (gIf (asB (bin (rd 2) (kc (.int 2)) dLt)) (gRaise ("NoText" : PySem.Str)) gSkip) (gRet (mkTup (aCons (callD 1 m_number_of (aCons (bin (rd 1) (kc (.int 0)) dIx) aNil)) (aCons (rd 2) aNil))))))))
noncomputable def m_share_of : List D → Res D := run 3 g_share_of

noncomputable def g_pair_of : Gx :=
  (gSeq (gSet 1 (binS (rd 0) (kc (.str (">" : PySem.Str))) dPart)) (gSeq (gIf (asB (bin (bin (rd 1) (kc (.int 1)) dIx) (kc (.str ("" : PySem.Str))) dEq)) (gRaise ("NoText" : PySem.Str)) gSkip) (gRet (mkTup (aCons (callD 1 m_number_of (aCons (bin (rd 1) (kc (.int 2)) dIx) aNil)) (aCons (callD 1 m_share_of (aCons (bin (rd 1) (kc (.int 0)) dIx) aNil)) aNil))))))
noncomputable def m_pair_of : List D → Res D := run 2 g_pair_of

noncomputable def g_put_together : Gx :=
  (gSeq (gSet 2 (callD 2 m_likeness (aCons (rd 0) (aCons (rd 1) aNil)))) (gSeq (gSet 3 (un (rd 2) dSortedSet)) (gSeq (gSet 4 (mkLst aNil)) (gSeq (gFor (.nm 5) (itS (rd 3)) (gSeq (gSet 6 (callD 2 m_shares_to (aCons (bin (rd 0) (rd 5) dIx) (aCons (rd 2) aNil)))) (gApp 4 (un (comp [7] (.nm 7) (itR1 (un (rd 3) dLen)) (asB (bin (bin (rd 6) (rd 7) dIx) (kc (.tuple [.int 0, .int 1])) dNe)) (mkTup (aCons (rd 7) (aCons (bin (rd 6) (rd 7) dIx) aNil)))) dTuple)))) (gRet (un (rd 4) dTuple))))))
noncomputable def m_put_together : List D → Res D := run 8 g_put_together

noncomputable def g_read : Gx :=
  (gSeq (gIf (notT (asB (un (rd 0) (dIsi "str")))) (gRaise ("NoText" : PySem.Str)) gSkip) (gSeq (gSet 1 (un (comp [2] (.nm 2) (itS (binS (rd 0) (kc (.str (" ; " : PySem.Str))) dSplit)) yes (un (comp [3] (.nm 3) (itS (binS (rd 2) (kc (.str (" " : PySem.Str))) dSplit)) yes (callD 1 m_pair_of (aCons (rd 3) aNil))) dTuple)) dTuple)) (gSeq (gIf (notT (asB (callD 1 m_is_walk (aCons (rd 1) aNil)))) (gRaise ("NoText" : PySem.Str)) gSkip) (gRet (rd 1)))))
noncomputable def m_read : List D → Res D := run 4 g_read

noncomputable def g_shown_pair : Gx :=
  (gSeq (gIf (asB (bin (bin (rd 1) (kc (.int 1)) dIx) (kc (.int 1)) dEq)) (gRet (bin (bin (un (bin (rd 1) (kc (.int 0)) dIx) dStr) (kc (.str (">" : PySem.Str))) dAdd) (un (rd 0) dStr) dAdd)) gSkip) (gRet (bin (bin (bin (bin (un (bin (rd 1) (kc (.int 0)) dIx) dStr) (kc (.str ("/" : PySem.Str))) dAdd) (un (bin (rd 1) (kc (.int 1)) dIx) dStr) dAdd) (kc (.str (">" : PySem.Str))) dAdd) (un (rd 0) dStr) dAdd)))
noncomputable def m_shown_pair : List D → Res D := run 2 g_shown_pair

noncomputable def g_shown : Gx :=
  (gSeq (gSet 1 (comp [2] (.nm 2) (itS (rd 0)) yes (binS (kc (.str (" " : PySem.Str))) (comp [3, 4] (.tp [3, 4]) (itS (rd 2)) yes (callD 2 m_shown_pair (aCons (rd 3) (aCons (rd 4) aNil)))) dJoin))) (gRet (binS (kc (.str (" ; " : PySem.Str))) (rd 1) dJoin)))
noncomputable def m_shown : List D → Res D := run 5 g_shown

noncomputable def g_values_by : Gx :=
  (gSeq (gSet 4 (comp [5, 6] (.tp [5, 6]) (itY (rd 1) (rd 2)) yes (bin (rd 5) (rd 6) dIx))) (gRet (callD 3 m_costs_by (aCons (callD 2 m_walk_by (aCons (rd 0) (aCons (rd 2) aNil))) (aCons (rd 4) (aCons (rd 3) aNil))))))
noncomputable def m_values_by : List D → Res D := run 7 g_values_by

noncomputable def g_waits : Gx :=
  (gSeq (gDrop (callD 2 m_need_rooms (aCons (rd 0) (aCons (rd 1) aNil)))) (gSeq (gSet 2 (callD 2 m_chances_of (aCons (rd 0) (aCons (rd 1) aNil)))) (gSeq (gSet 3 (comp [5] (.nm 5) (itR1 (un (rd 0) dLen)) (andT (asB (bin (bin (rd 2) (rd 5) dIx) (kc (.tuple [.int 1, .int 1])) dEq)) (asB (bin (rd 5) (rd 1) dNotIn))) (rd 5))) (gSeq (gSet 4 (callD 4 m_solved_for (aCons (rd 0) (aCons (rd 3) (aCons (comp [6] (.nm 6) (itS (rd 0)) yes (kc (.tuple [.int 0, .int 1]))) (aCons (kc (.tuple [.int 1, .int 1])) aNil)))))) (gSeq (gFor (.nm 5) (itR1 (un (rd 0) dLen)) (gIf (asB (bin (bin (rd 2) (rd 5) dIx) (kc (.tuple [.int 1, .int 1])) dNe)) (gPutL 4 (rd 5) (kc .none)) gSkip)) (gRet (rd 4)))))))
noncomputable def m_waits : List D → Res D := run 7 g_waits

noncomputable def g_where : Gx :=
  (gSeq (gSet 4 (callD 4 m_reckoned (aCons (rd 0) (aCons (rd 1) (aCons (rd 2) (aCons (rd 3) aNil)))))) (gSeq (gSet 5 (callD 1 m_summed (aCons (rd 4) aNil))) (gSeq (gIf (asB (bin (rd 5) (kc (.tuple [.int 0, .int 1])) dEq)) (gRet (kc .none)) gSkip) (gRet (comp [6] (.nm 6) (itS (rd 4)) yes (callD 2 m_over (aCons (rd 6) (aCons (rd 5) aNil))))))))
noncomputable def m_where : List D → Res D := run 7 g_where

end LW
end

section
set_option Elab.async false
set_option linter.all false
set_option maxRecDepth 100000
set_option maxHeartbeats 1000000
set_option autoImplicit false
/-! PF: fractions: what divisor, frac, plus .. are worth. -/
namespace LW
open PySem hiding run
open L2 hiding bin
open DL

/-! ### data -/
/-- a fraction as the program has it -/
def fr (q : Rat) : D := .tuple [.int q.num, .int q.den]
theorem fr_zero : fr 0 = .tuple [.int 0, .int 1] := rfl
theorem fr_one : fr 1 = .tuple [.int 1, .int 1] := rfl
theorem fr_int (i : Int) : fr (i : Rat) = .tuple [.int i, .int 1] := rfl
theorem shaped_int (i : Int) : SeqAt.shaped (.int i) = true := rfl
theorem shaped_bool (b : Bool) : SeqAt.shaped (.bool b) = true := rfl
theorem shaped_none : SeqAt.shaped .none = true := rfl
theorem shaped_fr (q : Rat) : SeqAt.shaped (fr q) = true := rfl
theorem eqv_fr (a b : Rat) : PyData.eqv (fr a) (fr b) = decide (a = b) := by
  have e : PyData.eqv (fr a) (fr b) = ((a.num == b.num) && (((a.den : Int) == (b.den : Int)) && true)) := rfl
  rw [e, Bool.and_true]
  by_cases h : a = b
  · subst h; simp
  · rw [decide_eq_false h]
    by_cases h1 : a.num = b.num
    · have h2 : ¬ a.den = b.den := fun z => h (Rat.ext h1 z)
      have h3 : ¬ (a.den : Int) = (b.den : Int) := by omega
      have h4 : ((a.den : Int) == (b.den : Int)) = false := by simpa using h3
      rw [h4, Bool.and_false]
    · simp [h1]
theorem fr_inj {a b : Rat} (h : fr a = fr b) : a = b := by
  have e := eqv_fr a b
  have e2 : PyData.eqv (fr a) (fr a) = decide (a = a) := eqv_fr a a
  rw [← h, e2] at e
  simpa using e.symm

/-! ### evaluation -/
theorem atI0 {α : Type} (a : α) (l : List α) : atI (a :: l) 0 = some a := by simp [atI, ixN]
theorem ixN1 (n : Nat) : ixN (n + 1 + 1) 1 = some 1 := by
  show (if (0 : Int) ≤ 1 then _ else _) = _
  rw [if_pos (by omega)]
  exact if_pos (by omega)
theorem atI1 {α : Type} (a b : α) (l : List α) : atI (a :: b :: l) 1 = some b := by
  unfold atI
  rw [List.length_cons, List.length_cons, ixN1]; rfl
theorem atIn {α : Type} {l : List α} {i : Nat} {a : α} (h : l[i]? = some a) : atI l (i : Int) = some a := atI_nat h
theorem ix_fr0 (q : Rat) : dIx (fr q) (.int 0) = some (.int q.num) := by show atI _ _ = _; exact atI0 _ _
theorem ix_fr1 (q : Rat) : dIx (fr q) (.int 1) = some (.int q.den) := by show atI _ _ = _; exact atI1 _ _ _
theorem mul_ok {i j : Int} (h : mulOk i j = true) : dMul (.int i) (.int j) = some (.int (i * j)) := by
  show (if mulOk i j = true then _ else _) = _
  rw [if_pos h]
theorem mulOk_log {i j : Int} (h : i.natAbs.log2 + j.natAbs.log2 < 1000000) : mulOk i j = true := mulOk_iff.mpr (CMulW.ok h)
theorem log2_lt {x : Nat} {n : Nat} (h : x < 2 ^ n) (h0 : 0 < n) : x.log2 < n := by
  by_cases e : x = 0
  · subst e; simpa using h0
  · exact (Nat.log2_lt e).mpr h
theorem mulOk_pow {i j : Int} {n m : Nat} (hi : i.natAbs < 2 ^ n) (hj : j.natAbs < 2 ^ m) (h : n + m ≤ 1000000) (hn : 0 < n := by omega) (hm : 0 < m := by omega) : mulOk i j = true := mulOk_log (by
  have := log2_lt hi hn
  have := log2_lt hj hm
  omega)
theorem div_ok {i j : Int} (h0 : j ≠ 0) (h : j.natAbs < 2 ^ 9000) : dDiv (.int i) (.int j) = some (.int (i.fdiv j)) := by
  show (if _ then _ else _) = _
  rw [if_pos ⟨h0, PyProof.noPylong_of_log2 (log2_lt h (by omega))⟩]

/-! ### divisor -/
abbrev cDiv : Tx := asB (bin (rd 1) (kc (.int 0)) dNe)
abbrev bDiv : Gx := gSeq (gSet 2 (bin (rd 0) (rd 1) dMod)) (gSeq (gSet 0 (rd 1)) (gSet 1 (rd 2)))
theorem ne_int (i j : Int) : dNe (.int i) (.int j) = some (.bool (!(i == j))) := rfl
theorem wh_gcd : ∀ (b a : Nat) (x : Option D), ∃ n y, whN cDiv bDiv n [some (.int a), some (.int b), x] = .nx [some (.int (Nat.gcd a b)), some (.int 0), y] := by
  intro b
  induction b using Nat.strongRecOn with
  | _ b ih =>
    intro a x
    by_cases h : b = 0
    · subst h
      refine ⟨1, x, ?_⟩
      rw [Nat.gcd_zero_right]
      rfl
    · have hb : 0 < b := Nat.pos_of_ne_zero h
      obtain ⟨n, y, hn⟩ := ih (a % b) (Nat.mod_lt a hb) b (some (.int ((a % b : Nat) : Int)))
      refine ⟨n + 1, y, ?_⟩
      have e1 : cDiv [some (.int a), some (.int b), x] = .ok true := by
        have : ((b : Int) == 0) = false := by simpa using h
        show (Res.ok (PyData.bool (!((b : Int) == 0)))).bind _ = _
        rw [this]
        rfl
      have e2 : bDiv [some (.int a), some (.int b), x] = .nx [some (.int b), some (.int ((a % b : Nat) : Int)), some (.int ((a % b : Nat) : Int))] := by
        have hm : dMod (.int a) (.int b) = some (.int ((a % b : Nat) : Int)) := by
          show (if (b : Int) ≠ 0 then _ else _) = _
          rw [if_pos (by omega), Int.fmod_eq_emod_of_nonneg _ (by omega)]
          rfl
        show gSeq (gSet 2 (bin (rd 0) (rd 1) dMod)) _ _ = _
        unfold gSeq gSet bin
        show (match ((ofO (dMod (.int a) (.int b))).out fun d => Out.nx ([some (.int a), some (.int b), x].set 2 (some d))) with | .nx ρ' => _ | o => o) = _
        rw [hm]
        rfl
      unfold whN
      rw [e1]
      show (match bDiv [some (.int a), some (.int b), x] with | .nx ρ' => whN cDiv bDiv n ρ' | o => o) = _
      rw [e2]
      show whN cDiv bDiv n _ = _
      rw [hn, Nat.gcd_comm a b, Nat.gcd_rec b a, Nat.gcd_comm b (a % b)]
theorem divisor_ok (a b : Int) : m_divisor [.int a, .int b] = .ok (.int (Int.gcd a b)) := by
  obtain ⟨n, y, hn⟩ := wh_gcd b.natAbs a.natAbs none
  have ha : (if a < 0 then -a else a) = (a.natAbs : Int) := by split <;> omega
  have hb : (if b < 0 then -b else b) = (b.natAbs : Int) := by split <;> omega
  have hw : gWh cDiv bDiv [some (.int a.natAbs), some (.int b.natAbs), none] = .nx [some (.int (Nat.gcd a.natAbs b.natAbs)), some (.int 0), y] := by
    rw [gWh_of (n := n) (by rw [hn]; intro z; cases z), hn]
  show run 3 g_divisor _ = _
  unfold run g_divisor
  show (match gSeq (gSet 0 (un (rd 0) dAbs)) (gSeq (gSet 1 (un (rd 1) dAbs)) (gSeq (gWh cDiv bDiv) (gRet (rd 0)))) [some (.int a), some (.int b), none] with | .nx _ => _ | .rt d => _ | .exc c => _ | .bad => _) = _
  have e : gSeq (gSet 0 (un (rd 0) dAbs)) (gSeq (gSet 1 (un (rd 1) dAbs)) (gSeq (gWh cDiv bDiv) (gRet (rd 0)))) [some (.int a), some (.int b), none]
      = gSeq (gWh cDiv bDiv) (gRet (rd 0)) [some (.int (if a < 0 then -a else a)), some (.int (if b < 0 then -b else b)), none] := rfl
  rw [e, ha, hb]
  unfold gSeq
  rw [hw]
  rfl
theorem call2 {f : List D → Res D} {fa fb : Ex} {ρ : Rho} {a b : D} (ha : fa ρ = .ok a) (hb : fb ρ = .ok b) : callD 2 f (aCons fa (aCons fb aNil)) ρ = f [a, b] := by
  unfold callD aCons aNil
  rw [ha, hb]
  rfl
theorem run_ret {N : Nat} {f : Ex} {ds : List D} : run N (gRet f) ds = f (ds.map some ++ List.replicate (N - ds.length) none) := by
  unfold run gRet
  cases f (ds.map some ++ List.replicate (N - ds.length) none) <;> rfl
theorem bin_ok {f g : Ex} {op : D → D → Option D} {ρ : Rho} {a b c : D} (ha : f ρ = .ok a) (hb : g ρ = .ok b) (h : op a b = some c) : bin f g op ρ = .ok c := by
  unfold bin
  rw [ha, hb]
  show ofO (op a b) = _
  rw [h]
  rfl
theorem un_ok {f : Ex} {op : D → Option D} {ρ : Rho} {a c : D} (ha : f ρ = .ok a) (h : op a = some c) : un f op ρ = .ok c := by
  unfold un
  rw [ha]
  show ofO (op a) = _
  rw [h]
  rfl
theorem call1 {f : List D → Res D} {fa : Ex} {ρ : Rho} {a : D} (ha : fa ρ = .ok a) : callD 1 f (aCons fa aNil) ρ = f [a] := by
  unfold callD aCons aNil
  rw [ha]
  rfl
theorem call3 {f : List D → Res D} {fa fb fc : Ex} {ρ : Rho} {a b c : D} (ha : fa ρ = .ok a) (hb : fb ρ = .ok b) (hc : fc ρ = .ok c) : callD 3 f (aCons fa (aCons fb (aCons fc aNil))) ρ = f [a, b, c] := by
  unfold callD aCons aNil
  rw [ha, hb, hc]
  rfl
theorem call4 {f : List D → Res D} {fa fb fc fd : Ex} {ρ : Rho} {a b c d : D} (ha : fa ρ = .ok a) (hb : fb ρ = .ok b) (hc : fc ρ = .ok c) (hd : fd ρ = .ok d) : callD 4 f (aCons fa (aCons fb (aCons fc (aCons fd aNil)))) ρ = f [a, b, c, d] := by
  unfold callD aCons aNil
  rw [ha, hb, hc, hd]
  rfl
theorem aCons_ok {f : Ex} {g : Ax} {ρ : Rho} {a : D} {l : List D} (ha : f ρ = .ok a) (hl : g ρ = .ok l) : aCons f g ρ = .ok (a :: l) := by
  unfold aCons
  rw [ha, hl]
  rfl
theorem mkTup_ok {g : Ax} {ρ : Rho} {l : List D} (hl : g ρ = .ok l) (h : decide (l.length ≤ sizeLine) = true) : mkTup g ρ = .ok (.tuple l) := by
  unfold mkTup
  rw [hl]
  exact if_pos (of_decide_eq_true h)
theorem mkLst_ok {g : Ax} {ρ : Rho} {l : List D} (hl : g ρ = .ok l) (h : decide (l.length ≤ sizeLine) = true) : mkLst g ρ = .ok (.list l) := by
  unfold mkLst
  rw [hl]
  exact if_pos (of_decide_eq_true h)
theorem asB_ok {f : Ex} {ρ : Rho} {b : Bool} (h : f ρ = .ok (.bool b)) : asB f ρ = .ok b := by
  unfold asB
  rw [h]
  rfl
theorem notT_ok {f : Tx} {ρ : Rho} {b : Bool} (h : f ρ = .ok b) : notT f ρ = .ok (!b) := by
  unfold notT
  rw [h]
  rfl
theorem orT_ok {f g : Tx} {ρ : Rho} {a b : Bool} (h : f ρ = .ok a) (k : a = false → g ρ = .ok b) (hb : a = true → b = true := by intro z; cases z) : orT f g ρ = .ok b := by
  unfold orT
  rw [h]
  cases a with
  | true => rw [hb rfl]; rfl
  | false => exact k rfl
theorem orT_f {f g : Tx} {ρ : Rho} {b : Bool} (h : f ρ = .ok false) (k : g ρ = .ok b) : orT f g ρ = .ok b := by
  unfold orT
  rw [h]
  exact k
theorem orT_t {f g : Tx} {ρ : Rho} (h : f ρ = .ok true) : orT f g ρ = .ok true := by
  unfold orT
  rw [h]
  rfl
theorem andT_t {f g : Tx} {ρ : Rho} {b : Bool} (h : f ρ = .ok true) (k : g ρ = .ok b) : andT f g ρ = .ok b := by
  unfold andT
  rw [h]
  exact k
theorem andT_f {f g : Tx} {ρ : Rho} (h : f ρ = .ok false) : andT f g ρ = .ok false := by
  unfold andT
  rw [h]
  rfl
theorem gSeq_nx {g h : Gx} {ρ ρ' : Rho} (e : g ρ = .nx ρ') : gSeq g h ρ = h ρ' := by
  unfold gSeq
  rw [e]
theorem gSeq_rt {g h : Gx} {ρ : Rho} {d : D} (e : g ρ = .rt d) : gSeq g h ρ = .rt d := by
  unfold gSeq
  rw [e]
theorem gSet_ok {i : Nat} {f : Ex} {ρ : Rho} {d : D} (h : f ρ = .ok d) : gSet i f ρ = .nx (ρ.set i (some d)) := by
  unfold gSet
  rw [h]
  rfl
theorem gDrop_ok {f : Ex} {ρ : Rho} {d : D} (h : f ρ = .ok d) : gDrop f ρ = .nx ρ := by
  unfold gDrop
  rw [h]
  rfl
theorem gRet_ok {f : Ex} {ρ : Rho} {d : D} (h : f ρ = .ok d) : gRet f ρ = .rt d := by
  unfold gRet
  rw [h]
  rfl
theorem gIf_t {c : Tx} {g h : Gx} {ρ : Rho} (e : c ρ = .ok true) : gIf c g h ρ = g ρ := by
  unfold gIf
  rw [e]
  rfl
theorem gIf_f {c : Tx} {g h : Gx} {ρ : Rho} (e : c ρ = .ok false) : gIf c g h ρ = h ρ := by
  unfold gIf
  rw [e]
  rfl
theorem gIf_s {c : Tx} {g : Gx} {ρ : Rho} (e : c ρ = .ok false) : gIf c g gSkip ρ = .nx ρ := gIf_f e
theorem gFor_ok {tg : Tgt} {fi : Ax} {g : Gx} {ρ : Rho} {l : List D} (h : fi ρ = .ok l) : gFor tg fi g ρ = forL tg g l ρ := by
  unfold gFor
  rw [h]
  rfl
theorem run_rt {N : Nat} {g : Gx} {ds : List D} {d : D} (h : g (ds.map some ++ List.replicate (N - ds.length) none) = .rt d) : run N g ds = .ok d := by
  unfold run
  rw [h]
theorem run_nx {N : Nat} {g : Gx} {ds : List D} {ρ : Rho} (h : g (ds.map some ++ List.replicate (N - ds.length) none) = .nx ρ) : run N g ds = .ok .none := by
  unfold run
  rw [h]
theorem gPutL_ok {i : Nat} {fk f : Ex} {ρ : Rho} {l l' : List D} {k : Int} {d : D} (hf : f ρ = .ok d) (hk : fk ρ = .ok (.int k)) (hi : ρ[i]? = some (some (.list l))) (h : lSet l k d = some l') : gPutL i fk f ρ = .nx (ρ.set i (some (.list l'))) := by
  unfold gPutL
  rw [hi]
  simp only [hf, hk, h, Res.out, Res.bind]
theorem gApp_ok {i : Nat} {f : Ex} {ρ : Rho} {l : List D} {d : D} (hf : f ρ = .ok d) (hi : ρ[i]? = some (some (.list l))) (hl : l.length < 1000000) : gApp i f ρ = .nx (ρ.set i (some (.list (l ++ [d])))) := by
  unfold gApp
  rw [hi]
  simp only [hf, Res.out]
  exact if_pos hl
theorem lSet_nat {l : List D} {k : Nat} {d : D} (h : k < l.length) : lSet l (k : Int) d = some (l.set k d) := by
  unfold lSet
  have e : ixN l.length (k : Int) = some k := by
    show (if (0 : Int) ≤ k then _ else _) = _
    rw [if_pos (by omega)]
    exact if_pos (by omega)
  rw [e]
  rfl
theorem forL_rel {α S : Type} {tg : Tgt} {g : Gx} (enc : α → D) (f : S → α → S) (I : S → Rho → Prop) : ∀ (l : List α),
    (∀ s x ρ, x ∈ l → I s ρ → ∃ ρ' ρ'', tg.put (enc x) ρ = some ρ' ∧ g ρ' = .nx ρ'' ∧ I (f s x) ρ'') →
    ∀ s ρ, I s ρ → ∃ ρ'', forL tg g (l.map enc) ρ = .nx ρ'' ∧ I (l.foldl f s) ρ''
  | [], _, s, ρ, hi => ⟨ρ, rfl, hi⟩
  | x :: r, h, s, ρ, hi => by
    obtain ⟨ρ', ρ1, e1, e2, i2⟩ := h s x ρ List.mem_cons_self hi
    obtain ⟨ρ2, e3, i3⟩ := forL_rel enc f I r (fun s x ρ m => h s x ρ (List.mem_cons_of_mem _ m)) (f s x) ρ1 i2
    refine ⟨ρ2, ?_, i3⟩
    show (match tg.put (enc x) ρ with | none => Out.bad | some ρ' => _) = _
    rw [e1]
    show (match g ρ' with | .nx ρ'' => forL tg g (r.map enc) ρ'' | o => o) = _
    rw [e2]
    exact e3
theorem compL_map {α : Type} {tg : Tgt} {ft : Tx} {fe : Ex} {ρ : Rho} (enc : α → D) (keep : α → Bool) (val : α → D) : ∀ (l : List α),
    (∀ x, x ∈ l → ∃ ρ', tg.put (enc x) ρ = some ρ' ∧ ft ρ' = .ok (keep x) ∧ (keep x = true → fe ρ' = .ok (val x))) →
    compL tg ft fe ρ (l.map enc) = .ok ((l.filter keep).map val)
  | [], _ => rfl
  | x :: r, h => by
    obtain ⟨ρ', e1, e2, e3⟩ := h x List.mem_cons_self
    have ih := compL_map enc keep val r fun x m => h x (List.mem_cons_of_mem _ m)
    show (match tg.put (enc x) ρ with | none => Res.bad | some ρ' => (ft ρ').calm.bind fun b => if b = true then (fe ρ').calm.bind fun x => (compL tg ft fe ρ (r.map enc)).bind fun xs => .ok (x :: xs) else compL tg ft fe ρ (r.map enc)) = _
    rw [e1]
    show (ft ρ').calm.bind _ = _
    rw [e2, ih]
    cases c : keep x with
    | false =>
      rw [List.filter_cons_of_neg (by rw [c]; decide)]
      rfl
    | true =>
      rw [List.filter_cons_of_pos c, List.map_cons]
      show (fe ρ').calm.bind _ = _
      rw [e3 c]
      rfl
theorem comp_ok {α : Type} {vs : List Nat} {tg : Tgt} {fi : Ax} {ft : Tx} {fe : Ex} {ρ : Rho} (enc : α → D) (keep : α → Bool) (val : α → D) (l : List α) (hl : l.length ≤ sizeLine) (hi : fi ρ = .ok (l.map enc))
    (h : ∀ x, x ∈ l → ∃ ρ', tg.put (enc x) (wipeR ρ vs) = some ρ' ∧ ft ρ' = .ok (keep x) ∧ (keep x = true → fe ρ' = .ok (val x))) :
    comp vs tg fi ft fe ρ = .ok (.list ((l.filter keep).map val)) := by
  unfold comp
  rw [hi]
  show (if (l.map enc).length ≤ sizeLine then _ else _) = _
  rw [List.length_map, if_pos hl, compL_map enc keep val l h]
  rfl
theorem itS_list {f : Ex} {ρ : Rho} {l : List D} (h : f ρ = .ok (.list l)) : itS f ρ = .ok l := by
  unfold itS
  rw [h]
  rfl
theorem itS_tuple {f : Ex} {ρ : Rho} {l : List D} (h : f ρ = .ok (.tuple l)) : itS f ρ = .ok l := by
  unfold itS
  rw [h]
  rfl
theorem itR1_nat {f : Ex} {ρ : Rho} {n : Nat} (h : f ρ = .ok (.int n)) (hn : n < 1000000) : itR1 f ρ = .ok ((List.range n).map fun i => .int (i : Nat)) := by
  simp only [itR1, h, Res.bind]
  rw [if_pos ⟨by omega, by omega⟩, Int.toNat_natCast]
  unfold rangeD
  simp only [Int.zero_add]
theorem fdiv_exact {a : Int} {g : Nat} (h : (g : Int) ∣ a) : a.fdiv g = a / g := Int.fdiv_eq_ediv_of_dvd h
theorem gcd_lt {a b : Int} {n : Nat} (h0 : b ≠ 0) (h : b.natAbs < n) : Int.gcd a b < n := Nat.lt_of_le_of_lt (Nat.le_of_dvd (by omega) (by have := Int.gcd_dvd_natAbs_right a b; exact this)) h
theorem gcd_ne {a b : Int} (h0 : b ≠ 0) : ((Int.gcd a b : Nat) : Int) ≠ 0 := by
  have := Int.gcd_pos_of_ne_zero_right a h0
  omega
theorem frac_pos (u l : Int) (h0 : 0 < l) (h : l.natAbs < 2 ^ 9000) : (fr (Rat.divInt u l)) = .tuple [.int (u.fdiv (Int.gcd u l)), .int (l.fdiv (Int.gcd u l))] := by
  have e1 : (Rat.divInt u l).num = u.fdiv (Int.gcd u l) := by
    rw [fdiv_exact (Int.gcd_dvd_left ..), Rat.num_divInt, Int.sign_eq_one_of_pos h0, Int.one_mul, Int.gcd_comm]
  have e2 : (((Rat.divInt u l).den : Nat) : Int) = l.fdiv (Int.gcd u l) := by
    rw [fdiv_exact (Int.gcd_dvd_right ..), Rat.den_divInt, if_neg (by omega), Int.gcd_comm, Int.natCast_ediv, Int.natAbs_of_nonneg (by omega)]
  unfold fr
  rw [e1, e2]
theorem neg_divInt' (u l : Int) : Rat.divInt (-u) (-l) = Rat.divInt u l := by
  rw [Rat.divInt_neg', Int.neg_neg]
theorem gl_ok (u l : Int) {g : Nat} (h0 : g ≠ 0) (h : g < 2 ^ 9000) : dDiv (.int u) (.int (g : Int)) = some (.int (u.fdiv g)) := div_ok (by omega) (by rw [Int.natAbs_natCast]; exact h)
theorem frac_ok (u l : Int) (h0 : l ≠ 0) (h : l.natAbs < 2 ^ 9000) : m_frac [.int u, .int l] = .ok (fr (Rat.divInt u l)) := by
  have key : ∀ u l : Int, 0 < l → l.natAbs < 2 ^ 9000 → gSeq (gSet 2 (callD 2 m_divisor (aCons (rd 0) (aCons (rd 1) aNil)))) (gRet (mkTup (aCons (bin (rd 0) (rd 2) dDiv) (aCons (bin (rd 1) (rd 2) dDiv) aNil)))) [some (.int u), some (.int l), none] = .rt (fr (Rat.divInt u l)) := fun u l p h => by
    rw [frac_pos u l p h]
    have e1 : m_divisor [.int u, .int l] = .ok (.int (Int.gcd u l)) := divisor_ok u l
    have g0 : Int.gcd u l ≠ 0 := fun z => gcd_ne (a := u) (b := l) (by omega) (by rw [z]; rfl)
    have gl : Int.gcd u l < 2 ^ 9000 := gcd_lt (by omega) h
    have e2 := gl_ok u l g0 gl
    have e3 := gl_ok l l g0 gl
    rw [gSeq_nx (gSet_ok (call2 rfl rfl |>.trans e1))]
    exact gRet_ok (mkTup_ok (aCons_ok (bin_ok rfl rfl e2) (aCons_ok (bin_ok rfl rfl e3) rfl)) rfl)
  show run 3 g_frac _ = _
  unfold g_frac
  by_cases c : l < 0
  · have k := key (-u) (-l) (by omega) (by omega)
    rw [neg_divInt'] at k
    have e : gIf (asB (bin (rd 1) (kc (.int 0)) dLt)) (gSeq (gSet 0 (un (rd 0) dNeg)) (gSet 1 (un (rd 1) dNeg))) gSkip [some (.int u), some (.int l), none] = .nx [some (.int (-u)), some (.int (-l)), none] := by
      show (if decide (l < 0) = true then _ else _) = _
      rw [if_pos (by simpa using c)]
      rfl
    exact run_rt ((gSeq_nx e).trans k)
  · have k := key u l (by omega) h
    have e : gIf (asB (bin (rd 1) (kc (.int 0)) dLt)) (gSeq (gSet 0 (un (rd 0) dNeg)) (gSet 1 (un (rd 1) dNeg))) gSkip [some (.int u), some (.int l), none] = .nx [some (.int u), some (.int l), none] := by
      show (if decide (l < 0) = true then _ else _) = _
      rw [if_neg (by simpa using c)]
      rfl
    exact run_rt ((gSeq_nx e).trans k)
/-- numbers that the sums and products below may have -/
def Sz (n : Nat) (q : Rat) : Prop := q.num.natAbs < 2 ^ n ∧ q.den < 2 ^ n
theorem mul_lt {a b n m : Nat} (ha : a < 2 ^ n) (hb : b < 2 ^ m) : a * b < 2 ^ (n + m) := by
  rw [Nat.pow_add]
  exact Nat.mul_lt_mul'' ha hb
theorem den_ne (q : Rat) : (q.den : Int) ≠ 0 := by
  have := q.den_nz
  omega
theorem r0 {q : Rat} {ρ : Rho} {i : Nat} (h : rd i ρ = .ok (fr q)) : bin (rd i) (kc (.int 0)) dIx ρ = .ok (.int q.num) := bin_ok h rfl (ix_fr0 q)
theorem r1 {q : Rat} {ρ : Rho} {i : Nat} (h : rd i ρ = .ok (fr q)) : bin (rd i) (kc (.int 1)) dIx ρ = .ok (.int q.den) := bin_ok h rfl (ix_fr1 q)
theorem rm {f g : Ex} {ρ : Rho} {i j : Int} {n m : Nat} (ha : f ρ = .ok (.int i)) (hb : g ρ = .ok (.int j)) (hi : i.natAbs < 2 ^ n) (hj : j.natAbs < 2 ^ m) (h : n + m ≤ 1000000 := by omega) (hn : 0 < n := by omega) (hm : 0 < m := by omega) : bin f g dMul ρ = .ok (.int (i * j)) := bin_ok ha hb (mul_ok (mulOk_pow hi hj h hn hm))
theorem dens {a b : Rat} (ha : Sz 4000 a) (hb : Sz 4000 b) : ((a.den : Int) * b.den).natAbs < 2 ^ 9000 := by
  rw [← Int.natCast_mul, Int.natAbs_natCast]
  exact Nat.lt_of_lt_of_le (mul_lt ha.2 hb.2) (Nat.pow_le_pow_right (by omega) (by omega))
theorem plus_ok {a b : Rat} (ha : Sz 4000 a) (hb : Sz 4000 b) : m_plus [fr a, fr b] = .ok (fr (a + b)) := by
  have q0 : rd 0 [some (fr a), some (fr b)] = .ok (fr a) := rfl
  have q1 : rd 1 [some (fr a), some (fr b)] = .ok (fr b) := rfl
  show run 2 g_plus _ = _
  unfold g_plus
  rw [run_ret]
  show callD 2 m_frac _ [some (fr a), some (fr b)] = _
  rw [call2 (bin_ok (rm (r0 q0) (r1 q1) ha.1 hb.2) (rm (r0 q1) (r1 q0) hb.1 ha.2) rfl) (rm (r1 q0) (r1 q1) ha.2 hb.2)]
  rw [frac_ok _ _ (by have := den_ne a; have := den_ne b; exact Int.mul_ne_zero ‹_› ‹_›) (dens ha hb), Rat.add_def', ← Rat.divInt_ofNat, Int.natCast_mul]
theorem times_ok {a b : Rat} (ha : Sz 4000 a) (hb : Sz 4000 b) : m_times [fr a, fr b] = .ok (fr (a * b)) := by
  have q0 : rd 0 [some (fr a), some (fr b)] = .ok (fr a) := rfl
  have q1 : rd 1 [some (fr a), some (fr b)] = .ok (fr b) := rfl
  show run 2 g_times _ = _
  unfold g_times
  rw [run_ret]
  show callD 2 m_frac _ [some (fr a), some (fr b)] = _
  rw [call2 (rm (r0 q0) (r0 q1) ha.1 hb.1) (rm (r1 q0) (r1 q1) ha.2 hb.2)]
  rw [frac_ok _ _ (by have := den_ne a; have := den_ne b; exact Int.mul_ne_zero ‹_› ‹_›) (dens ha hb), Rat.mul_def', ← Rat.divInt_ofNat, Int.natCast_mul]
theorem law_divisor_ok (a b : Int) : m_law_divisor [.int a, .int b] = .ok (.int (Int.gcd a b)) := divisor_ok a b
end LW
end

section
set_option Elab.async false
set_option linter.all false
set_option maxRecDepth 100000
set_option maxHeartbeats 1000000
set_option exponentiation.threshold 100000
set_option autoImplicit false
/-! PS: what the laws draw: numbers, spreads, walks. -/
namespace LW
open PySem hiding run
open L2 hiding bin
open DL

theorem rd_ok {i : Nat} {ρ : Rho} {d : D} (h : ρ[i]? = some (some d)) : rd i ρ = .ok d := by
  unfold rd
  rw [h]
theorem mulOk_r {i j : Int} (h : decide (Builtin.Int.intBits j > shortFactorBits) = false) : mulOk i j = true := by
  unfold mulOk
  rw [h, Bool.and_false, Bool.false_and]
  rfl
theorem mulOk_l {i j : Int} (h : decide (Builtin.Int.intBits i > shortFactorBits) = false) : mulOk i j = true := by
  unfold mulOk
  rw [h, Bool.false_and, Bool.false_and]
  rfl
theorem add_ii (i j : Int) : dAdd (.int i) (.int j) = some (.int (i + j)) := rfl
theorem sub_ii (i j : Int) : dSub (.int i) (.int j) = some (.int (i - j)) := rfl
theorem mod_ii {i j : Int} (h : j ≠ 0) : dMod (.int i) (.int j) = some (.int (i.fmod j)) := if_pos h
theorem lt_ii (i j : Int) : dLt (.int i) (.int j) = some (.bool (decide (i < j))) := rfl
theorem lt_t {i j : Int} (h : i < j) : dLt (.int i) (.int j) = some (.bool true) := by rw [lt_ii, decide_eq_true h]
theorem lt_f {i j : Int} (h : ¬ i < j) : dLt (.int i) (.int j) = some (.bool false) := by rw [lt_ii, decide_eq_false h]
theorem ge_ii (i j : Int) : dGe (.int i) (.int j) = some (.bool (decide (j ≤ i))) := rfl
theorem eq_ii (i j : Int) : dEq (.int i) (.int j) = some (.bool (i == j)) := rfl
theorem len_scr (ns : List Int) : dLen (scrD ns) = some (.int ns.length) := by
  show (allI (ns.map .int)).map _ = _
  rw [allI_map]
  rfl
theorem ix_scr (ns : List Int) (i : Int) : dIx (scrD ns) (.int i) = (atI ns i).map .int := by
  show (allI (ns.map .int)).bind _ = _
  rw [allI_map]
  rfl
/-- plain data, n deep at most -/
def Sh (n : Nat) (d : D) : Prop := PyData.canLay0 d = true ∧ PyData.depth d ≤ n
theorem Sh.mono {n m : Nat} {d : D} (h : Sh n d) (l : n ≤ m) : Sh m d := ⟨h.1, Nat.le_trans h.2 l⟩
theorem Sh.shaped {n : Nat} {d : D} (h : Sh n d) (l : n ≤ 64 := by decide) : SeqAt.shaped d = true := by
  show (PyData.canLay0 d && decide (PyData.depth d ≤ 64)) = true
  rw [h.1, decide_eq_true (Nat.le_trans h.2 l)]
  rfl
theorem sh_all {n : Nat} : ∀ {l : List D}, (∀ d, d ∈ l → Sh n d) → PyData.canLayAll0 l = true ∧ PyData.depthAll l ≤ n
  | [], _ => ⟨by simp [PyData.canLayAll0], by simp [PyData.depthAll]⟩
  | x :: r, h => by
    obtain ⟨a, b⟩ := sh_all (l := r) fun d m => h d (List.mem_cons_of_mem _ m)
    obtain ⟨c, d⟩ := h x List.mem_cons_self
    exact ⟨by simp [PyData.canLayAll0, a, c], by simp only [PyData.depthAll]; omega⟩
theorem sh_list {n : Nat} {l : List D} (h : ∀ d, d ∈ l → Sh n d) : Sh (n + 1) (.list l) := by
  obtain ⟨a, b⟩ := sh_all h
  exact ⟨by simp only [PyData.canLay0]; exact a, by simp only [PyData.depth]; omega⟩
theorem sh_tuple {n : Nat} {l : List D} (h : ∀ d, d ∈ l → Sh n d) : Sh (n + 1) (.tuple l) := by
  obtain ⟨a, b⟩ := sh_all h
  exact ⟨by simp only [PyData.canLay0]; exact a, by simp only [PyData.depth]; omega⟩
theorem sh_int (i : Int) : Sh 0 (.int i) := ⟨by simp only [PyData.canLay0], by simp only [PyData.depth]; omega⟩
theorem sh_bool (i : Bool) : Sh 0 (.bool i) := ⟨by simp only [PyData.canLay0], by simp only [PyData.depth]; omega⟩
theorem sh_none : Sh 0 .none := ⟨by simp only [PyData.canLay0], by simp only [PyData.depth]; omega⟩
theorem sh_fr (q : Rat) : Sh 1 (fr q) := sh_tuple fun d m => by
  rcases List.mem_cons.mp m with rfl | m
  · exact sh_int _
  · rcases List.mem_cons.mp m with rfl | m
    · exact sh_int _
    · cases m
theorem sh_map {α : Type} {n : Nat} {enc : α → D} (h : ∀ a, Sh n (enc a)) (l : List α) : Sh (n + 1) (.list (l.map enc)) := sh_list fun d m => by
  obtain ⟨a, _, rfl⟩ := List.mem_map.mp m
  exact h a
theorem sh_mapT {α : Type} {n : Nat} {enc : α → D} (h : ∀ a, Sh n (enc a)) (l : List α) : Sh (n + 1) (.tuple (l.map enc)) := sh_tuple fun d m => by
  obtain ⟨a, _, rfl⟩ := List.mem_map.mp m
  exact h a
theorem eqv_all {α : Type} [DecidableEq α] {enc : α → D} (h : ∀ a b, PyData.eqv (enc a) (enc b) = decide (a = b)) : ∀ xs ys : List α, PyData.eqvAll (xs.map enc) (ys.map enc) = decide (xs = ys)
  | [], [] => by simp [PyData.eqvAll]
  | [], y :: ys => by simp [PyData.eqvAll]
  | x :: xs, [] => by simp [PyData.eqvAll]
  | x :: xs, y :: ys => by
    simp only [List.map_cons, PyData.eqvAll]
    rw [h, eqv_all h xs ys]
    by_cases e : x = y <;> by_cases e' : xs = ys <;> simp [e, e']
theorem eqv_list {α : Type} [DecidableEq α] {enc : α → D} (h : ∀ a b, PyData.eqv (enc a) (enc b) = decide (a = b)) (xs ys : List α) : PyData.eqv (.list (xs.map enc)) (.list (ys.map enc)) = decide (xs = ys) := by
  simp only [PyData.eqv]
  exact eqv_all h xs ys
theorem eqv_tuple {α : Type} [DecidableEq α] {enc : α → D} (h : ∀ a b, PyData.eqv (enc a) (enc b) = decide (a = b)) (xs ys : List α) : PyData.eqv (.tuple (xs.map enc)) (.tuple (ys.map enc)) = decide (xs = ys) := by
  simp only [PyData.eqv]
  exact eqv_all h xs ys
theorem eqv_int (a b : Int) : PyData.eqv (.int a) (.int b) = decide (a = b) := by
  simp only [PyData.eqv]
  rfl
theorem dEq_list {a : List D} {b : D} (ha : SeqAt.shaped (.list a) = true) (hb : SeqAt.shaped b = true) : dEq (.list a) b = some (.bool (PyData.eqv (.list a) b)) := if_pos ⟨ha, hb⟩
theorem dEq_tuple {a : List D} {b : D} (ha : SeqAt.shaped (.tuple a) = true) (hb : SeqAt.shaped b = true) : dEq (.tuple a) b = some (.bool (PyData.eqv (.tuple a) b)) := if_pos ⟨ha, hb⟩
theorem dNe_ok {a b : D} (ha : SeqAt.shaped a = true) (hb : SeqAt.shaped b = true) : dNe a b = some (.bool (!PyData.eqv a b)) := if_pos ⟨ha, hb⟩
theorem scr_nil (ns : List Int) : dEq (scrD ns) (.list []) = some (.bool (decide (ns = []))) := by
  have h1 : SeqAt.shaped (deScr (scrD ns)) = true := (sh_map (enc := PyData.int) sh_int ns).shaped
  have h2 : SeqAt.shaped (.list []) = true := (sh_map (enc := PyData.int) sh_int []).shaped
  have h3 : PyData.eqv (deScr (scrD ns)) (.list []) = decide (ns = []) := eqv_list (enc := PyData.int) eqv_int ns []
  unfold dEq
  rw [if_pos ⟨h1, h2⟩, h3]
theorem cell_ok (ns : List Int) (k : Nat) : ∃ c : Int, m_law_cell_at [scrD ns, .int k] = .ok (.int c) := by
  have hl : un (rd 0) dLen [some (scrD ns), some (.int k)] = .ok (.int ns.length) := un_ok rfl (len_scr ns)
  by_cases h : k < ns.length
  · obtain ⟨c, hc⟩ : ∃ c, ns[k]? = some c := ⟨_, List.getElem?_eq_getElem h⟩
    refine ⟨c, run_rt ?_⟩
    show gSeq _ _ [some (scrD ns), some (.int k)] = _
    refine gSeq_rt ?_
    refine (gIf_t (asB_ok (bin_ok rfl hl (lt_t (by omega))))).trans ?_
    exact gRet_ok (bin_ok rfl rfl (by rw [ix_scr, atIn hc]; rfl))
  · by_cases h0 : ns = []
    · subst h0
      refine ⟨0, run_rt ?_⟩
      show gSeq _ _ [some (scrD []), some (.int k)] = _
      refine (gSeq_nx (gIf_s (asB_ok (bin_ok rfl hl (lt_f (by omega)))))).trans ?_
      refine gSeq_rt ?_
      refine (gIf_t (asB_ok (bin_ok rfl (mkLst_ok rfl rfl) (scr_nil [])))).trans ?_
      exact gRet_ok rfl
    · have hp : 0 < ns.length := List.length_pos_iff.mpr h0
      have hm : k % ns.length < ns.length := Nat.mod_lt _ hp
      obtain ⟨c, hc⟩ : ∃ c, ns[k % ns.length]? = some c := ⟨_, List.getElem?_eq_getElem hm⟩
      refine ⟨c * 31 + k, run_rt ?_⟩
      show gSeq _ _ [some (scrD ns), some (.int k)] = _
      refine (gSeq_nx (gIf_s (asB_ok (bin_ok rfl hl (lt_f (by omega)))))).trans ?_
      refine (gSeq_nx (gIf_s (asB_ok (bin_ok rfl (mkLst_ok rfl rfl) (by rw [scr_nil, decide_eq_false h0]))))).trans ?_
      have e : dMod (.int k) (.int ns.length) = some (.int ((k % ns.length : Nat) : Int)) := by
        rw [mod_ii (by omega), Int.fmod_eq_emod_of_nonneg _ (by omega)]; rfl
      exact gRet_ok (bin_ok (bin_ok (bin_ok rfl (bin_ok rfl hl e) (by rw [ix_scr, atIn hc]; rfl)) rfl (mul_ok (mulOk_r (by decide)))) rfl rfl)
theorem mixed_ok (ns : List Int) (k m : Nat) (hm : 0 < m) : ∃ r : Nat, r < m ∧ m_law_mixed [scrD ns, .int k, .int m] = .ok (.int r) := by
  obtain ⟨c, hc⟩ := cell_ok ns k
  generalize hx : ((c + 7919 * (k : Int) + 1) * 48271).fmod 2147483647 = x
  have x0 : 0 ≤ x := by rw [← hx]; exact Int.fmod_nonneg_of_pos _ (by omega)
  have x1 : x < 2147483647 := by rw [← hx]; exact Int.fmod_lt_of_pos _ (by omega)
  generalize hy : ((x * x + 7 * x + k).fmod 2147483629).fmod m = y
  have y0 : 0 ≤ y := by rw [← hy]; exact Int.fmod_nonneg_of_pos _ (by omega)
  have y1 : y < m := by rw [← hy]; exact Int.fmod_lt_of_pos _ (by omega)
  refine ⟨y.toNat, by omega, run_rt ?_⟩
  have xb : x.natAbs < 2 ^ 31 := by omega
  have e1 : gSet 3 (bin (bin (bin (bin (callD 2 m_law_cell_at (aCons (rd 0) (aCons (rd 1) aNil))) (bin (kc (.int 7919)) (rd 1) dMul) dAdd) (kc (.int 1)) dAdd) (kc (.int 48271)) dMul) (kc (.int 2147483647)) dMod) [some (scrD ns), some (.int k), some (.int m), none]
      = .nx [some (scrD ns), some (.int k), some (.int m), some (.int x)] := by
    rw [gSet_ok (bin_ok (bin_ok (bin_ok (bin_ok ((call2 rfl rfl).trans hc) (bin_ok rfl rfl (mul_ok (mulOk_l (by decide)))) (add_ii _ _)) rfl (add_ii _ _)) rfl (mul_ok (mulOk_r (by decide)))) rfl (mod_ii (by decide))), hx]
    rfl
  show gSeq _ _ [some (scrD ns), some (.int k), some (.int m), none] = _
  rw [gSeq_nx e1, gRet_ok (bin_ok (bin_ok (bin_ok (bin_ok (bin_ok rfl rfl (mul_ok (mulOk_pow xb xb (by omega)))) (bin_ok rfl rfl (mul_ok (mulOk_l (by decide)))) (add_ii _ _)) rfl (add_ii _ _)) rfl (mod_ii (by decide))) rfl (mod_ii (by omega))), hy]
  rw [Int.toNat_of_nonneg y0]

/-! ### the law's own fractions -/
theorem law_frac_ok (u l : Int) (h0 : 0 < l) (h : l.natAbs < 2 ^ 9000) : m_law_frac [.int u, .int l] = .ok (fr (Rat.divInt u l)) := by
  rw [frac_pos u l h0 h]
  have g0 : Int.gcd u l ≠ 0 := fun z => gcd_ne (a := u) (b := l) (by omega) (by rw [z]; rfl)
  have gl : Int.gcd u l < 2 ^ 9000 := gcd_lt (by omega) h
  have e2 := gl_ok u l g0 gl
  have e3 := gl_ok l l g0 gl
  refine run_rt ?_
  show gSeq _ _ [some (.int u), some (.int l), none] = _
  refine (gSeq_nx (gSet_ok ((call2 rfl rfl).trans (law_divisor_ok u l)))).trans ?_
  refine (gSeq_nx (gIf_s (asB_ok (bin_ok rfl rfl (lt_f (by omega)))))).trans ?_
  exact gRet_ok (mkTup_ok (aCons_ok (bin_ok rfl rfl e2) (aCons_ok (bin_ok rfl rfl e3) rfl)) rfl)
theorem add_mul_eq (a b c : Rat) : Rat.divInt (a.num * b.den * c.den + c.num * b.num * a.den) (a.den * b.den * c.den) = a + c * b := by
  have ha := den_ne a
  have hb := den_ne b
  have hc := den_ne c
  have e : a + c * b = Rat.divInt a.num a.den + Rat.divInt c.num c.den * Rat.divInt b.num b.den := by rw [Rat.num_divInt_den, Rat.num_divInt_den, Rat.num_divInt_den]
  rw [e, Rat.divInt_mul_divInt, Rat.divInt_add_divInt _ _ ha (Int.mul_ne_zero hc hb)]
  congr 1 <;> grind
theorem big_den {a b c : Rat} (ha : a.den < 2 ^ 2500) (hb : b.den < 2 ^ 2500) (hc : c.den < 2 ^ 2500) : ((a.den : Int) * b.den * c.den).natAbs < 2 ^ 9000 := by
  rw [← Int.natCast_mul, ← Int.natCast_mul, Int.natAbs_natCast]
  exact Nat.lt_of_lt_of_le (mul_lt (mul_lt ha hb) hc) (Nat.pow_le_pow_right (by omega) (by omega))
theorem mulN {i j : Int} {n m : Nat} (hi : i.natAbs < 2 ^ n) (hj : j.natAbs < 2 ^ m) : (i * j).natAbs < 2 ^ (n + m) := by
  rw [Int.natAbs_mul]
  exact mul_lt hi hj
theorem law_add_ok {a b c : Rat} (ha : Sz 2500 a) (hb : Sz 2500 b) (hc : Sz 2500 c) : m_law_add [fr a, fr b, fr c] = .ok (fr (a + c * b)) := by
  have q0 : rd 0 [some (fr a), some (fr b), some (fr c)] = .ok (fr a) := rfl
  have q1 : rd 1 [some (fr a), some (fr b), some (fr c)] = .ok (fr b) := rfl
  have q2 : rd 2 [some (fr a), some (fr b), some (fr c)] = .ok (fr c) := rfl
  refine run_rt (gRet_ok ?_)
  have pa := a.den_nz
  have pb := b.den_nz
  have pc := c.den_nz
  show callD 2 m_law_frac _ [some (fr a), some (fr b), some (fr c)] = _
  have da : ((a.den : Nat) : Int).natAbs < 2 ^ 2500 := by rw [Int.natAbs_natCast]; exact ha.2
  have db : ((b.den : Nat) : Int).natAbs < 2 ^ 2500 := by rw [Int.natAbs_natCast]; exact hb.2
  have dc : ((c.den : Nat) : Int).natAbs < 2 ^ 2500 := by rw [Int.natAbs_natCast]; exact hc.2
  rw [call2 (bin_ok (rm (rm (r0 q0) (r1 q1) ha.1 db) (r1 q2) (mulN ha.1 db) dc) (rm (rm (r0 q2) (r0 q1) hc.1 hb.1) (r1 q0) (mulN hc.1 hb.1) da) (add_ii _ _)) (rm (rm (r1 q0) (r1 q1) da db) (r1 q2) (mulN da db) dc)]
  rw [law_frac_ok _ _ (by
    have : 0 < a.den * b.den * c.den := Nat.mul_pos (Nat.mul_pos (by omega) (by omega)) (by omega)
    rw [← Int.natCast_mul, ← Int.natCast_mul]
    omega) (big_den ha.2 hb.2 hc.2), add_mul_eq]
end LW
end

section
set_option Elab.async false
set_option linter.all false
set_option maxRecDepth 100000
set_option maxHeartbeats 1000000
set_option exponentiation.threshold 100000
set_option autoImplicit false
/-! PW: walks, and a step of shares. -/
namespace LW
open PySem hiding run
open L2 hiding bin
open DL

theorem forL_pre {α : Type} {tg : Tgt} {g : Gx} (enc : α → D) (P : List α → Rho → Prop) (l : List α)
    (h : ∀ pre x post ρ, l = pre ++ x :: post → P pre ρ → ∃ ρ' ρ'', tg.put (enc x) ρ = some ρ' ∧ g ρ' = .nx ρ'' ∧ P (pre ++ [x]) ρ'') {ρ : Rho} (h0 : P [] ρ) : ∃ ρ'', forL tg g (l.map enc) ρ = .nx ρ'' ∧ P l ρ'' := by
  have key : ∀ (post pre : List α) (ρ : Rho), l = pre ++ post → P pre ρ → ∃ ρ'', forL tg g (post.map enc) ρ = .nx ρ'' ∧ P l ρ'' := by
    intro post
    induction post with
    | nil => intro pre ρ e p; rw [List.append_nil] at e; subst e; exact ⟨ρ, rfl, p⟩
    | cons x r ih =>
      intro pre ρ e p
      obtain ⟨ρ', ρ1, e1, e2, p1⟩ := h pre x r ρ e p
      obtain ⟨ρ2, e3, p2⟩ := ih (pre ++ [x]) ρ1 (by rw [e, List.append_assoc]; rfl) p1
      refine ⟨ρ2, ?_, p2⟩
      show (match tg.put (enc x) ρ with | none => Out.bad | some ρ' => _) = _
      rw [e1]
      show (match g ρ' with | .nx ρ'' => forL tg g (r.map enc) ρ'' | o => o) = _
      rw [e2]
      exact e3
  exact key l [] ρ rfl h0

/-! ### sums -/
theorem rsum_append : ∀ a b : List Rat, (a ++ b).sum = a.sum + b.sum
  | [], b => by simp only [List.nil_append, List.sum_nil]; grind
  | x :: a, b => by rw [List.cons_append, List.sum_cons, List.sum_cons, rsum_append a b]; grind
theorem rsum_nonneg : ∀ l : List Rat, (∀ x, x ∈ l → 0 ≤ x) → 0 ≤ l.sum
  | [], _ => by rw [List.sum_nil]; exact Rat.le_refl
  | x :: r, h => by
    rw [List.sum_cons]
    have h1 := h x List.mem_cons_self
    have h2 := rsum_nonneg r fun y m => h y (List.mem_cons_of_mem _ m)
    grind
theorem le_rsum : ∀ l : List Rat, (∀ x, x ∈ l → 0 ≤ x) → ∀ x, x ∈ l → x ≤ l.sum
  | [], _, _, m => by cases m
  | y :: r, h, x, m => by
    rw [List.sum_cons]
    have h1 := h y List.mem_cons_self
    have h2 := rsum_nonneg r fun y m => h y (List.mem_cons_of_mem _ m)
    rcases List.mem_cons.mp m with rfl | m
    · grind
    · have h3 := le_rsum r (fun y m => h y (List.mem_cons_of_mem _ m)) x m
      grind
theorem rsum_set : ∀ (l : List Rat) (i : Nat) (d : Rat), i < l.length → (l.set i (l.getD i 0 + d)).sum = l.sum + d
  | [], _, _, h => by cases h
  | x :: r, 0, d, _ => by
    rw [List.set_cons_zero, List.sum_cons, List.sum_cons, List.getD_cons_zero]
    grind
  | x :: r, i + 1, d, h => by
    rw [List.set_cons_succ, List.sum_cons, List.sum_cons, List.getD_cons_succ, rsum_set r i d (by rw [List.length_cons] at h; omega)]
    grind
theorem rsum_zero (n : Nat) : (List.replicate n (0 : Rat)).sum = 0 := by
  induction n with
  | zero => rfl
  | succ n ih => rw [List.replicate_succ, List.sum_cons, ih, Rat.add_zero]

/-! ### denominators -/
def Dn (N : Nat) (q : Rat) : Prop := ∃ k : Int, q * (N : Rat) = (k : Rat)
theorem Dn.zero (N : Nat) : Dn N 0 := ⟨0, by rw [Rat.zero_mul]; rfl⟩
theorem Dn.add {N : Nat} {a b : Rat} (ha : Dn N a) (hb : Dn N b) : Dn N (a + b) := by
  obtain ⟨i, e⟩ := ha
  obtain ⟨j, f⟩ := hb
  exact ⟨i + j, by rw [Rat.add_mul, e, f, Rat.intCast_add]⟩
theorem Dn.mul {N M : Nat} {a b : Rat} (ha : Dn N a) (hb : Dn M b) : Dn (N * M) (a * b) := by
  obtain ⟨i, e⟩ := ha
  obtain ⟨j, f⟩ := hb
  refine ⟨i * j, ?_⟩
  rw [Rat.intCast_mul, ← e, ← f, Rat.natCast_mul]
  grind
theorem Dn.den {N : Nat} {q : Rat} (h0 : N ≠ 0) (h : Dn N q) : q.den ∣ N := by
  obtain ⟨k, e⟩ := h
  have n0 : (N : Rat) ≠ 0 := fun z => h0 (by exact_mod_cast z)
  have : q = Rat.divInt k N := by
    rw [Rat.divInt_eq_div, ← e]
    rw [show ((N : Int) : Rat) = (N : Rat) from rfl, Rat.div_def, Rat.mul_assoc, Rat.mul_inv_cancel _ n0, Rat.mul_one]
  rw [this, Rat.den_divInt, if_neg (by omega)]
  rw [Int.natAbs_natCast]
  exact Nat.div_dvd_of_dvd (by have := Int.gcd_dvd_natAbs_left (N : Int) k; simpa using this)
theorem mul_den_num (q : Rat) : q * (q.den : Rat) = (q.num : Rat) := by
  have n0 : (q.den : Rat) ≠ 0 := fun z => q.den_nz (by exact_mod_cast z)
  have e : q = (q.num : Rat) / (q.den : Rat) := by
    have := Rat.num_divInt_den q
    rw [Rat.divInt_eq_div] at this
    exact this.symm
  have e2 : (q.num : Rat) / (q.den : Rat) * (q.den : Rat) = q.num := Rat.div_mul_cancel n0
  rw [← e] at e2
  exact e2
theorem Dn.of_den {N : Nat} {q : Rat} (h : q.den ∣ N) : Dn N q := by
  obtain ⟨k, e⟩ := h
  refine ⟨q.num * k, ?_⟩
  rw [e, Rat.natCast_mul, Rat.intCast_mul, ← Rat.mul_assoc]
  congr 1
  exact mul_den_num q
/-- between nought and one, over N -/
theorem sz_unit {N n : Nat} {q : Rat} (h0 : N ≠ 0) (hN : N < 2 ^ n) (h : Dn N q) (p0 : 0 ≤ q) (p1 : q ≤ 1) : Sz n q := by
  have hd : q.den ≤ N := Nat.le_of_dvd (by omega) (h.den h0)
  have h1 : q.num * 1 ≤ 1 * q.den := by have := (Rat.le_iff q 1).mp p1; simpa using this
  have h2 : 0 ≤ q.num := Rat.num_nonneg.mpr p0
  exact ⟨by omega, by omega⟩

/-! ### walks -/
abbrev Spread := List (Nat × Rat)
abbrev Walk := List Spread
def prD (p : Nat × Rat) : D := .tuple [.int p.1, fr p.2]
def spreadD (s : Spread) : D := .tuple (s.map prD)
def walkD (w : Walk) : D := .tuple (w.map spreadD)
def vecD (v : List Rat) : D := .list (v.map fr)
structure GoodSp (n : Nat) (s : Spread) : Prop where
  inc : (s.map (·.1)).Pairwise (· < ·)
  mem : ∀ p, p ∈ s → p.1 < n ∧ 0 < p.2 ∧ Dn 27720 p.2
  sum : (s.map (·.2)).sum = 1
  few : s.length ≤ 3
  com : ∃ d : Nat, 0 < d ∧ d ≤ 12 ∧ ∀ p, p ∈ s → Dn d p.2
structure GoodWk (w : Walk) : Prop where
  lo : 1 ≤ w.length
  hi : w.length ≤ 8
  sp : ∀ s, s ∈ w → GoodSp w.length s
def pour (x : Rat) (m : List Rat) (s : Spread) : List Rat := s.foldl (fun m p => m.set p.1 (m.getD p.1 0 + x * p.2)) m
theorem pour_snoc (x : Rat) (m : List Rat) (s : Spread) (p : Nat × Rat) : pour x m (s ++ [p]) = (pour x m s).set p.1 ((pour x m s).getD p.1 0 + x * p.2) := by
  unfold pour
  rw [List.foldl_append]
  rfl
/-- a step, of the first k rooms alone -/
def stepK (w : Walk) (v : List Rat) (rs : List Nat) : List Rat := rs.foldl (fun m r => pour (v.getD r 0) m (w.getD r [])) (List.replicate w.length 0)
def step (w : Walk) (v : List Rat) : List Rat := stepK w v (List.range w.length)
theorem stepK_snoc (w : Walk) (v : List Rat) (rs : List Nat) (r : Nat) : stepK w v (rs ++ [r]) = pour (v.getD r 0) (stepK w v rs) (w.getD r []) := by
  unfold stepK
  rw [List.foldl_append]
  rfl
/-- a list of shares over N: n of them, none below nought, s in all -/
structure Vec (n N : Nat) (s : Rat) (m : List Rat) : Prop where
  len : m.length = n
  pos : ∀ x, x ∈ m → 0 ≤ x
  dn : ∀ x, x ∈ m → Dn N x
  sum : m.sum = s
theorem Vec.le {n N : Nat} {s : Rat} {m : List Rat} (h : Vec n N s m) {x : Rat} (hx : x ∈ m) : x ≤ s := by
  rw [← h.sum]
  exact le_rsum m h.pos x hx
theorem Vec.sz {n N k : Nat} {s : Rat} {m : List Rat} (h : Vec n N s m) (h0 : N ≠ 0) (hk : N < 2 ^ k) (hs : s ≤ 1) {x : Rat} (hx : x ∈ m) : Sz k x :=
  sz_unit h0 hk (h.dn x hx) (h.pos x hx) (by have := h.le hx; grind)
theorem Vec.getD {n N : Nat} {s : Rat} {m : List Rat} (h : Vec n N s m) {i : Nat} (hi : i < n) : m.getD i 0 ∈ m ∧ m[i]? = some (m.getD i 0) := by
  have hl : i < m.length := by rw [h.len]; exact hi
  have e : m[i]? = some (m[i]'hl) := List.getElem?_eq_getElem hl
  have e2 : m.getD i 0 = m[i]'hl := by rw [List.getD_eq_getElem?_getD, e]; rfl
  rw [e2]
  exact ⟨List.getElem_mem _, e⟩
theorem Vec.set {n N : Nat} {s d : Rat} {m : List Rat} (h : Vec n N s m) {i : Nat} (hi : i < n) (hd : 0 ≤ d) (hn : Dn N d) : Vec n N (s + d) (m.set i (m.getD i 0 + d)) := by
  refine ⟨by rw [List.length_set]; exact h.len, fun x hx => ?_, fun x hx => ?_, by rw [rsum_set m i d (by rw [h.len]; exact hi), h.sum]⟩
  · rcases List.mem_or_eq_of_mem_set hx with hx | rfl
    · exact h.pos x hx
    · have := h.pos _ (h.getD hi).1
      grind
  · rcases List.mem_or_eq_of_mem_set hx with hx | rfl
    · exact h.dn x hx
    · exact (h.dn _ (h.getD hi).1).add hn
theorem Vec.zero (n N : Nat) : Vec n N 0 (List.replicate n 0) := ⟨List.length_replicate, fun x hx => by rw [List.eq_of_mem_replicate hx]; exact Rat.le_refl, fun x hx => by rw [List.eq_of_mem_replicate hx]; exact Dn.zero N, rsum_zero n⟩
theorem Vec.cast {n N : Nat} {s t : Rat} {m : List Rat} (h : Vec n N s m) (e : s = t) : Vec n N t m := e ▸ h
theorem pour_vec {n N : Nat} {x : Rat} (hx : 0 ≤ x) (hn : Dn N x) : ∀ (sp : Spread) (s : Rat) (m : List Rat), Vec n (N * 27720) s m → (∀ p, p ∈ sp → p.1 < n ∧ 0 < p.2 ∧ Dn 27720 p.2) → Vec n (N * 27720) (s + x * (sp.map (·.2)).sum) (pour x m sp)
  | [], s, m, h, _ => h.cast (by rw [List.map_nil, List.sum_nil, Rat.mul_zero, Rat.add_zero])
  | p :: r, s, m, h, hp => by
    obtain ⟨a, b, c⟩ := hp p List.mem_cons_self
    have h1 := h.set a (d := x * p.2) (Rat.mul_nonneg hx (by grind)) (hn.mul c)
    exact (pour_vec hx hn r _ _ h1 fun q m => hp q (List.mem_cons_of_mem _ m)).cast (by rw [List.map_cons, List.sum_cons]; grind)
theorem stepK_vec {n N : Nat} {w : Walk} {v : List Rat} (gw : GoodWk w) (hn : w.length = n) {t : Rat} (hv : Vec n N t v) : ∀ rs : List Nat, (∀ r, r ∈ rs → r < n) → Vec n (N * 27720) (rs.map fun r => v.getD r 0).sum (stepK w v rs) := by
  have key : ∀ (rs : List Nat) (s : Rat) (m : List Rat), Vec n (N * 27720) s m → (∀ r, r ∈ rs → r < n) → Vec n (N * 27720) (s + (rs.map fun r => v.getD r 0).sum) (rs.foldl (fun m r => pour (v.getD r 0) m (w.getD r [])) m) := by
    intro rs
    induction rs with
    | nil => intro s m h _; exact h.cast (by rw [List.map_nil, List.sum_nil, Rat.add_zero])
    | cons r rs ih =>
      intro s m h hr
      have hrn := hr r List.mem_cons_self
      have hm := (hv.getD hrn).1
      have gs : GoodSp n (w.getD r []) := by
        have hl : r < w.length := by omega
        have e : w.getD r [] = w[r]'hl := by rw [List.getD_eq_getElem?_getD, List.getElem?_eq_getElem hl]; rfl
        rw [e, ← hn]
        exact gw.sp _ (List.getElem_mem _)
      have h1 := pour_vec (hv.pos _ hm) (hv.dn _ hm) (w.getD r []) s m h gs.mem
      rw [gs.sum, Rat.mul_one] at h1
      exact (ih _ _ h1 fun q m => hr q (List.mem_cons_of_mem _ m)).cast (by rw [List.map_cons, List.sum_cons]; grind)
  intro rs hr
  have := key rs 0 _ (Vec.zero n (N * 27720)) hr
  unfold stepK
  rw [hn]
  exact this.cast (by rw [Rat.zero_add])
theorem range_getD (v : List Rat) : (List.range v.length).map (fun r => v.getD r 0) = v := by
  apply List.ext_getElem
  · rw [List.length_map, List.length_range]
  · intro i h1 h2
    rw [List.getElem_map, List.getElem_range, List.getD_eq_getElem?_getD, List.getElem?_eq_getElem h2]
    rfl
theorem step_vec {n N : Nat} {w : Walk} {v : List Rat} (gw : GoodWk w) (hn : w.length = n) {t : Rat} (hv : Vec n N t v) : Vec n (N * 27720) t (step w v) := by
  have h := stepK_vec gw hn hv (List.range w.length) fun r m => by rw [← hn]; exact List.mem_range.mp m
  refine h.cast ?_
  rw [hn, ← hv.len, range_getD, hv.sum]
theorem good_at {w : Walk} (gw : GoodWk w) {r : Nat} (h : r < w.length) : w[r]? = some (w.getD r []) ∧ GoodSp w.length (w.getD r []) := by
  have e : w.getD r [] = w[r]'h := by rw [List.getD_eq_getElem?_getD, List.getElem?_eq_getElem h]; rfl
  rw [e]
  exact ⟨List.getElem?_eq_getElem h, gw.sp _ (List.getElem_mem _)⟩
/-- what holds midway through a step -/
theorem midway {n N : Nat} {w : Walk} {v : List Rat} (gw : GoodWk w) (hn : w.length = n) (hv : Vec n N 1 v) {pre post : List Nat} {r : Nat} (e : List.range n = pre ++ r :: post) {p1 p2 : Spread} {q : Nat × Rat} (e2 : w.getD r [] = p1 ++ q :: p2) :
    r < n ∧ q.1 < n ∧ 0 < q.2 ∧ Dn 27720 q.2 ∧ ∃ s : Rat, s ≤ 1 ∧ Vec n (N * 27720) s (pour (v.getD r 0) (stepK w v pre) p1) := by
  have hr : ∀ x, x ∈ pre ++ r :: post → x < n := fun x m => by rw [← e] at m; exact List.mem_range.mp m
  have hrn : r < n := hr r (List.mem_append_right _ List.mem_cons_self)
  obtain ⟨_, gs⟩ := good_at gw (r := r) (by omega)
  rw [e2] at gs
  obtain ⟨q1, q2, q3⟩ := gs.mem q (List.mem_append_right _ List.mem_cons_self)
  have hm := (hv.getD hrn).1
  have x0 := hv.pos _ hm
  have h1 := stepK_vec gw hn hv pre fun x m => hr x (List.mem_append_left _ m)
  have h2 := pour_vec x0 (hv.dn _ hm) p1 _ _ h1 fun p m => (by rw [← hn]; exact gs.mem p (List.mem_append_left _ m))
  refine ⟨hrn, by rw [← hn]; exact q1, q2, q3, _, ?_, h2⟩
  have t1 : (p1.map (·.2)).sum ≤ 1 := by
    have := gs.sum
    rw [List.map_append, rsum_append] at this
    have t2 : 0 ≤ (((q :: p2).map (·.2)).sum : Rat) := rsum_nonneg _ fun x hx => by
      obtain ⟨p, hp, rfl⟩ := List.mem_map.mp hx
      have := (gs.mem p (List.mem_append_right _ hp)).2.1
      grind
    grind
  have t3 : (pre.map fun r => v.getD r 0).sum + v.getD r 0 ≤ 1 := by
    have h3 : ((List.range n).map fun r => v.getD r 0).sum = 1 := by rw [← hv.len, range_getD, hv.sum]
    rw [e, List.map_append, rsum_append, List.map_cons, List.sum_cons] at h3
    have t4 : 0 ≤ ((post.map fun r => v.getD r 0).sum : Rat) := rsum_nonneg _ fun x hx => by
      obtain ⟨p, hp, rfl⟩ := List.mem_map.mp hx
      exact hv.pos _ (hv.getD (hr p (List.mem_append_right _ (List.mem_cons_of_mem _ hp)))).1
    grind
  have t5 : v.getD r 0 * (p1.map (·.2)).sum ≤ v.getD r 0 * 1 := Rat.mul_le_mul_of_nonneg_left t1 x0
  grind
end LW
end

section
set_option Elab.async false
set_option linter.all false
set_option maxRecDepth 100000
set_option maxHeartbeats 1000000
set_option exponentiation.threshold 100000
set_option autoImplicit false
/-! PT: the step of the program and the step of the law. -/
namespace LW
open PySem hiding run
open L2 hiding bin
open DL

theorem filter_yes {α : Type} (l : List α) : l.filter (fun _ => true) = l := List.filter_eq_self.mpr fun _ _ => rfl
theorem gFor_nx {tg : Tgt} {fi : Ax} {g : Gx} {ρ : Rho} {l : List D} {o : Out} (h : fi ρ = .ok l) (e : forL tg g l ρ = o) : gFor tg fi g ρ = o := (gFor_ok h).trans e
theorem map_const {α β : Type} (l : List α) (b : β) : l.map (fun _ => b) = List.replicate l.length b := by
  induction l with
  | nil => rfl
  | cons x r ih => rw [List.map_cons, ih]; rfl
/-- a list of one thing, as long as another -/
theorem comp_const {α : Type} {enc : α → D} {l : List α} {i : Nat} {vs : List Nat} {f : Ex} {fe : Ex} {d : D} {ρ : Rho} (hf : f ρ = .ok (.tuple (l.map enc)) ∨ f ρ = .ok (.list (l.map enc))) (hl : l.length ≤ sizeLine) (he : ∀ ρ, fe ρ = .ok d) :
    comp vs (.nm i) (itS f) yes fe ρ = .ok (.list (List.replicate l.length d)) := by
  have hi : itS f ρ = .ok (l.map enc) := by exact hf.elim itS_tuple itS_list
  rw [comp_ok enc (fun _ => true) (fun _ => d) l hl hi fun x _ => ⟨_, rfl, rfl, fun _ => he _⟩]
  rw [filter_yes, map_const]
theorem line_small {n : Nat} (h : n ≤ 1000) : n ≤ sizeLine := Nat.le_trans h (by decide)
theorem len_tuple (l : List D) : dLen (.tuple l) = some (.int l.length) := rfl
theorem len_list (l : List D) : dLen (.list l) = some (.int l.length) := rfl
theorem ix_tuple {l : List D} {i : Nat} {d : D} (h : l[i]? = some d) : dIx (.tuple l) (.int i) = some d := atIn h
theorem ix_list {l : List D} {i : Nat} {d : D} (h : l[i]? = some d) : dIx (.list l) (.int i) = some d := atIn h
theorem ix_vec {v : List Rat} {i : Nat} {q : Rat} (h : v[i]? = some q) : dIx (vecD v) (.int i) = some (fr q) := ix_list (by rw [List.getElem?_map, h]; rfl)
theorem ix_walk {w : Walk} {i : Nat} {q : Spread} (h : w[i]? = some q) : dIx (walkD w) (.int i) = some (spreadD q) := ix_tuple (by rw [List.getElem?_map, h]; rfl)
theorem len_walk (w : Walk) : dLen (walkD w) = some (.int w.length) := by
  show some (PyData.int _) = _
  rw [List.length_map]
theorem set_vec (m : List Rat) (i : Nat) (q : Rat) : (m.map fr).set i (fr q) = (m.set i q).map fr := by rw [List.map_set]

theorem Sz.mono {n m : Nat} {q : Rat} (h : Sz n q) (l : n ≤ m) : Sz m q := ⟨Nat.lt_of_lt_of_le h.1 (Nat.pow_le_pow_right (by decide) l), Nat.lt_of_lt_of_le h.2 (Nat.pow_le_pow_right (by decide) l)⟩
theorem GoodSp.le1 {n : Nat} {s : Spread} (g : GoodSp n s) {p : Nat × Rat} (h : p ∈ s) : p.2 ≤ 1 := by
  rw [← g.sum]
  exact le_rsum _ (fun x hx => by
    obtain ⟨p, hp, rfl⟩ := List.mem_map.mp hx
    have := (g.mem p hp).2.1
    grind) _ (List.mem_map.mpr ⟨p, h, rfl⟩)
theorem GoodSp.sz {n : Nat} {s : Spread} (g : GoodSp n s) {p : Nat × Rat} (h : p ∈ s) : Sz 15 p.2 := sz_unit (by decide) (by decide) (g.mem p h).2.2 (by have := (g.mem p h).2.1; grind) (g.le1 h)
/-- the numbers of one turn of a step -/
theorem turn_sz {n N : Nat} {w : Walk} {v : List Rat} (gw : GoodWk w) (hn : w.length = n) (hv : Vec n N 1 v) (hN0 : N ≠ 0) (hN : N < 2 ^ 2000) {pre post : List Nat} {r : Nat} (e : List.range n = pre ++ r :: post) {p1 p2 : Spread} {q : Nat × Rat} (e2 : w.getD r [] = p1 ++ q :: p2) :
    r < n ∧ q.1 < n ∧ v[r]? = some (v.getD r 0) ∧ (pour (v.getD r 0) (stepK w v pre) p1)[q.1]? = some ((pour (v.getD r 0) (stepK w v pre) p1).getD q.1 0) ∧ (pour (v.getD r 0) (stepK w v pre) p1).length = n ∧
    Sz 2500 (v.getD r 0) ∧ Sz 2500 q.2 ∧ Sz 2500 (v.getD r 0 * q.2) ∧ Sz 2500 ((pour (v.getD r 0) (stepK w v pre) p1).getD q.1 0) := by
  obtain ⟨hr, hq, q2, q3, s, hs, hm⟩ := midway gw hn hv e e2
  have hN' : N * 27720 < 2 ^ 2015 := by
    have := mul_lt (m := 15) hN (show 27720 < 2 ^ 15 by decide)
    exact this
  have hv1 := hv.getD hr
  have hm1 := hm.getD hq
  have gs := (good_at gw (r := r) (by omega)).2
  have hmem : q ∈ w.getD r [] := by rw [e2]; exact List.mem_append_right _ List.mem_cons_self
  have q1 := gs.le1 hmem
  have x0 := hv.pos _ hv1.1
  have x1 := hv.le hv1.1
  have hp : v.getD r 0 * q.2 ≤ 1 * 1 := Rat.le_trans (Rat.mul_le_mul_of_nonneg_left q1 x0) (by rw [Rat.mul_one, Rat.mul_one]; exact x1)
  refine ⟨hr, hq, hv1.2, hm1.2, hm.len, (hv.sz hN0 hN Rat.le_refl hv1.1).mono (by decide), (gs.sz hmem).mono (by decide), ?_, (hm.sz (Nat.mul_ne_zero hN0 (by decide)) hN' hs hm1.1).mono (by decide)⟩
  exact (sz_unit (Nat.mul_ne_zero hN0 (by decide)) hN' ((hv.dn _ hv1.1).mul q3) (Rat.mul_nonneg x0 (by grind)) (by rw [Rat.mul_one] at hp; exact hp)).mono (by decide)
theorem vec_zero (n : Nat) : vecD (List.replicate n 0) = .list (List.replicate n (.tuple [.int 0, .int 1])) := by
  unfold vecD
  rw [List.map_replicate]
  rfl
theorem put_vec {m : List Rat} {i : Nat} {q : Rat} (h : i < m.length) : lSet (m.map fr) (i : Int) (fr q) = some ((m.set i q).map fr) := by
  rw [lSet_nat (by rw [List.length_map]; exact h), set_vec]
theorem stepped_ok {n N : Nat} {w : Walk} {v : List Rat} (gw : GoodWk w) (hn : w.length = n) (hv : Vec n N 1 v) (hN0 : N ≠ 0) (hN : N < 2 ^ 2000) : m_stepped [walkD w, vecD v] = .ok (vecD (step w v)) := by
  have hn8 : n ≤ 8 := by rw [← hn]; exact gw.hi
  have hN' : N * 27720 < 2 ^ 2500 := Nat.lt_of_lt_of_le (mul_lt (m := 15) hN (by decide)) (Nat.pow_le_pow_right (by omega) (by omega))
  refine run_rt ?_
  show gSeq _ _ [some (walkD w), some (vecD v), none, none, none, none, none] = _
  refine (gSeq_nx (gSet_ok (comp_const (enc := spreadD) (l := w) (.inl rfl) (line_small (by have := gw.hi; omega)) (fun _ => rfl)))).trans ?_
  obtain ⟨ρ1, e1, c, d, e, x, h1⟩ := forL_pre (tg := .nm 3) (g := gFor (.tp [4, 5]) (itS (bin (rd 0) (rd 3) dIx)) (gPutL 2 (rd 4) (callD 2 m_plus (aCons (bin (rd 2) (rd 4) dIx) (aCons (callD 2 m_times (aCons (bin (rd 1) (rd 3) dIx) (aCons (rd 5) aNil))) aNil)))))
    (fun i : Nat => .int i) (fun pre ρ => ∃ c d e x, ρ = [some (walkD w), some (vecD v), some (vecD (stepK w v pre)), c, d, e, x]) (List.range n) (fun pre r post ρ e hp => by
      obtain ⟨c, d, e', x, rfl⟩ := hp
      have hr : r < n := by have : r ∈ List.range n := (by rw [e]; exact List.mem_append_right _ List.mem_cons_self); exact List.mem_range.mp this
      obtain ⟨hw, gs⟩ := good_at gw (r := r) (by omega)
      obtain ⟨ρ2, e2, d2, e3, x2, h2⟩ := forL_pre (tg := .tp [4, 5]) (g := gPutL 2 (rd 4) (callD 2 m_plus (aCons (bin (rd 2) (rd 4) dIx) (aCons (callD 2 m_times (aCons (bin (rd 1) (rd 3) dIx) (aCons (rd 5) aNil))) aNil))))
        prD (fun p1 ρ => ∃ d e x, ρ = [some (walkD w), some (vecD v), some (vecD (pour (v.getD r 0) (stepK w v pre) p1)), some (.int r), d, e, x]) (w.getD r []) (fun p1 q p2 ρ e5 hp => by
          obtain ⟨d, e', x, rfl⟩ := hp
          obtain ⟨_, hq, k1, k2, k3, s1, s2, s3, s4⟩ := turn_sz gw hn hv hN0 hN e e5
          refine ⟨[some (walkD w), some (vecD v), some (vecD (pour (v.getD r 0) (stepK w v pre) p1)), some (.int r), some (.int q.1), some (fr q.2), x], _, rfl,
            gPutL_ok ((call2 (bin_ok rfl rfl (ix_vec k2)) ((call2 (bin_ok rfl rfl (ix_vec k1)) rfl).trans (times_ok (s1.mono (by decide)) (s2.mono (by decide))))).trans (plus_ok (s4.mono (by decide)) (s3.mono (by decide)))) rfl rfl (put_vec (by rw [k3]; exact hq)), some (.int q.1), some (fr q.2), x, ?_⟩
          rw [pour_snoc]
          rfl)
        (ρ := [some (walkD w), some (vecD v), some (vecD (stepK w v pre)), some (.int r), d, e', x]) ⟨d, e', x, rfl⟩
      refine ⟨_, ρ2, rfl, gFor_nx (itS_tuple (bin_ok rfl rfl (ix_walk hw))) e2, ?_⟩
      subst h2
      exact ⟨_, _, _, _, by rw [stepK_snoc]⟩)
    (ρ := [some (walkD w), some (vecD v), some (vecD (List.replicate n 0)), none, none, none, none]) ⟨_, _, _, _, by unfold stepK; rw [hn]; rfl⟩
  refine (gSeq_nx (gFor_nx (itR1_nat (n := n) (un_ok rfl (by rw [len_walk, hn])) (by omega)) (by rw [vec_zero] at e1; rw [hn]; exact e1))).trans ?_
  subst h1
  have hs : step w v = stepK w v (List.range n) := by unfold step; rw [hn]
  rw [hs]
  exact gRet_ok rfl

theorem law_step_ok {n N : Nat} {w : Walk} {v : List Rat} (gw : GoodWk w) (hn : w.length = n) (hv : Vec n N 1 v) (hN0 : N ≠ 0) (hN : N < 2 ^ 2000) : m_law_step [walkD w, vecD v] = .ok (vecD (step w v)) := by
  have hn8 : n ≤ 8 := by rw [← hn]; exact gw.hi
  refine run_rt ?_
  show gSeq _ _ [some (walkD w), some (vecD v), none, none, none, none] = _
  refine (gSeq_nx (gSet_ok (comp_const (enc := spreadD) (l := w) (.inl rfl) (line_small (by have := gw.hi; omega)) (fun _ => rfl)))).trans ?_
  obtain ⟨ρ1, e1, c, d, e, h1⟩ := forL_pre (tg := .nm 3) (g := gFor (.nm 4) (itS (bin (rd 0) (rd 3) dIx)) (gPutL 2 (bin (rd 4) (kc (.int 0)) dIx) (callD 3 m_law_add (aCons (bin (rd 2) (bin (rd 4) (kc (.int 0)) dIx) dIx) (aCons (bin (rd 1) (rd 3) dIx) (aCons (bin (rd 4) (kc (.int 1)) dIx) aNil))))))
    (fun i : Nat => .int i) (fun pre ρ => ∃ c d e, ρ = [some (walkD w), some (vecD v), some (vecD (stepK w v pre)), c, d, e]) (List.range n) (fun pre r post ρ e hp => by
      obtain ⟨c, d, e', rfl⟩ := hp
      have hr : r < n := by have : r ∈ List.range n := (by rw [e]; exact List.mem_append_right _ List.mem_cons_self); exact List.mem_range.mp this
      obtain ⟨hw, gs⟩ := good_at gw (r := r) (by omega)
      obtain ⟨ρ2, e2, d2, e3, h2⟩ := forL_pre (tg := .nm 4) (g := gPutL 2 (bin (rd 4) (kc (.int 0)) dIx) (callD 3 m_law_add (aCons (bin (rd 2) (bin (rd 4) (kc (.int 0)) dIx) dIx) (aCons (bin (rd 1) (rd 3) dIx) (aCons (bin (rd 4) (kc (.int 1)) dIx) aNil)))))
        prD (fun p1 ρ => ∃ d e, ρ = [some (walkD w), some (vecD v), some (vecD (pour (v.getD r 0) (stepK w v pre) p1)), some (.int r), d, e]) (w.getD r []) (fun p1 q p2 ρ e5 hp => by
          obtain ⟨d, e', rfl⟩ := hp
          obtain ⟨_, hq, k1, k2, k3, s1, s2, s3, s4⟩ := turn_sz gw hn hv hN0 hN e e5
          refine ⟨[some (walkD w), some (vecD v), some (vecD (pour (v.getD r 0) (stepK w v pre) p1)), some (.int r), some (prD q), e'], _, rfl,
            gPutL_ok ((call3 (bin_ok rfl (bin_ok rfl rfl (atI0 _ _)) (ix_vec k2)) (bin_ok rfl rfl (ix_vec k1)) (bin_ok rfl rfl (atI1 _ _ _))).trans (law_add_ok s4 s1 s2)) (bin_ok rfl rfl (atI0 _ _)) rfl (put_vec (by rw [k3]; exact hq)), some (prD q), e', ?_⟩
          rw [pour_snoc, Rat.mul_comm q.2]
          rfl)
        (ρ := [some (walkD w), some (vecD v), some (vecD (stepK w v pre)), some (.int r), d, e']) ⟨d, e', rfl⟩
      refine ⟨_, ρ2, rfl, gFor_nx (itS_tuple (bin_ok rfl rfl (ix_walk hw))) e2, ?_⟩
      subst h2
      exact ⟨_, _, _, by rw [stepK_snoc]⟩)
    (ρ := [some (walkD w), some (vecD v), some (vecD (List.replicate n 0)), none, none, none]) ⟨_, _, _, by unfold stepK; rw [hn]; rfl⟩
  refine (gSeq_nx (gFor_nx (itR1_nat (n := n) (un_ok rfl (by rw [len_walk, hn])) (by omega)) (by rw [vec_zero] at e1; rw [hn]; exact e1))).trans ?_
  subst h1
  have hs : step w v = stepK w v (List.range n) := by unfold step; rw [hn]
  rw [hs]
  exact gRet_ok rfl
end LW
end

section
set_option Elab.async false
set_option linter.all false
set_option maxRecDepth 100000
set_option maxHeartbeats 1000000
set_option exponentiation.threshold 100000
set_option autoImplicit false
/-! PV: the spreads and walks that a law draws. -/
namespace LW
open PySem hiding run
open L2 hiding bin
open DL

/-- weights, room by room -/
abbrev Wts := List (Nat × Nat)
def wtD (l : Wts) : List (D × D) := l.map fun p => (.int p.1, .int p.2)
def putW : Wts → Nat → Nat → Wts
  | [], k, x => [(k, x)]
  | (a, b) :: r, k, x => if a = k then (a, b + x) :: r else (a, b) :: putW r k x
theorem keyOf_int (i : Int) : keyOf (.int i) = some (.inl i) := rfl
theorem look_wt (l : Wts) (k : Nat) : lookD (wtD l) (.inl (k : Int)) = ((l.find? fun p => p.1 == k).map fun p => PyData.int p.2) := by
  unfold lookD wtD
  induction l with
  | nil => rfl
  | cons p r ih =>
    rw [List.map_cons, List.find?_cons, List.find?_cons]
    have e : decide (keyOf (PyData.int (p.1 : Int)) = some (Sum.inl (k : Int))) = (p.1 == k) := by
      rw [keyOf_int]
      by_cases h : p.1 = k
      · subst h; simp
      · have : ¬ (p.1 : Int) = k := by omega
        simp [h, this]
    show (match decide (keyOf (PyData.int (p.1 : Int)) = some (Sum.inl (k : Int))) with | true => _ | false => _ : Option (D × D)).map _ = _
    rw [e]
    cases h : (p.1 == k) with
    | true => rfl
    | false => exact ih
def getW (l : Wts) (k : Nat) : Nat := match l.find? fun p => p.1 == k with
  | some p => p.2
  | none => 0
theorem getW_cons (p : Nat × Nat) (r : Wts) (k : Nat) : getW (p :: r) k = if p.1 = k then p.2 else getW r k := by
  unfold getW
  rw [List.find?_cons]
  by_cases h : p.1 = k
  · have : (p.1 == k) = true := by simpa using h
    rw [this, if_pos h]
  · have : (p.1 == k) = false := by simpa using h
    rw [this, if_neg h]
theorem putW_new : ∀ (l : Wts) (k x : Nat), k ∉ l.map (·.1) → putW l k x = l ++ [(k, x)] ∧ getW l k = 0
  | [], k, x, _ => ⟨rfl, rfl⟩
  | p :: r, k, x, h => by
    rw [List.map_cons, List.mem_cons] at h
    have h1 : ¬ p.1 = k := fun z => h (.inl z.symm)
    obtain ⟨e1, e2⟩ := putW_new r k x fun z => h (.inr z)
    refine ⟨?_, by rw [getW_cons, if_neg h1, e2]⟩
    show (if p.1 = k then _ else _) = _
    rw [if_neg h1, e1]
    rfl
theorem putW_old : ∀ (l : Wts) (k x : Nat), (l.map (·.1)).Nodup → k ∈ l.map (·.1) → putW l k x = l.map fun p => if p.1 = k then (p.1, getW l k + x) else p
  | [], _, _, _, h => by cases h
  | p :: r, k, x, hn, h => by
    rw [List.map_cons, List.nodup_cons] at hn
    rw [List.map_cons, List.mem_cons] at h
    rw [getW_cons]
    by_cases c : p.1 = k
    · show (if p.1 = k then (p.1, p.2 + x) :: r else _) = _
      rw [if_pos c, if_pos c, List.map_cons, if_pos c]
      congr 1
      have : ∀ q, q ∈ r → (if q.1 = k then (q.1, p.2 + x) else q) = q := fun q hq => if_neg fun z => hn.1 (by rw [c, ← z]; exact List.mem_map.mpr ⟨q, hq, rfl⟩)
      rw [List.map_congr_left this, List.map_id']
    · show (if p.1 = k then _ else (p.1, p.2) :: putW r k x) = _
      rw [if_neg c, if_neg c, List.map_cons, if_neg c, putW_old r k x hn.2 (h.resolve_left fun z => c z.symm)]
theorem any_wt (l : Wts) (k : Nat) : (wtD l).any (fun p => decide (keyOf p.1 = some (Sum.inl (k : Int)))) = decide (k ∈ l.map (·.1)) := by
  unfold wtD
  rw [List.any_map]
  rw [Bool.eq_iff_iff, List.any_eq_true, decide_eq_true_iff, List.mem_map]
  constructor
  · rintro ⟨p, hp, e⟩
    refine ⟨p, hp, ?_⟩
    have : (Sum.inl (p.1 : Int) : Int ⊕ Str) = Sum.inl (k : Int) := by simpa [keyOf_int] using e
    have := Sum.inl.inj this
    omega
  · rintro ⟨p, hp, rfl⟩
    exact ⟨p, hp, by simp [keyOf_int]⟩
theorem put_wt (l : Wts) (hn : (l.map (·.1)).Nodup) (k x : Nat) : putD (wtD l) (.inl (k : Int)) (.int ((getW l k + x : Nat) : Int)) = wtD (putW l k x) := by
  unfold putD
  rw [any_wt]
  by_cases h : k ∈ l.map (·.1)
  · rw [if_pos (by simpa using h), putW_old l k x hn h]
    unfold wtD
    rw [List.map_map, List.map_map]
    apply List.map_congr_left
    intro p _
    show (if keyOf (PyData.int (p.1 : Int)) = some (Sum.inl (k : Int)) then _ else _) = _
    by_cases c : p.1 = k
    · subst c
      rw [if_pos (keyOf_int _)]
      show _ = (PyData.int ((if p.1 = p.1 then (p.1, getW l p.1 + x) else p).1 : Nat), _)
      simp
    · rw [if_neg (by
        rw [keyOf_int]
        intro z
        have := Sum.inl.inj (Option.some.inj z)
        omega)]
      simp [c]
  · obtain ⟨e1, e2⟩ := putW_new l k x h
    rw [if_neg (by simpa using h), e1, e2, Nat.zero_add]
    unfold wtD
    rw [List.map_append]
    rfl
structure WtOk (n t : Nat) (l : Wts) : Prop where
  nd : (l.map (·.1)).Nodup
  mem : ∀ p, p ∈ l → p.1 < n ∧ 0 < p.2
  sum : (l.map (·.2)).sum ≤ 4 * t
  len : l.length ≤ t
theorem putW_sum : ∀ (l : Wts) (k x : Nat), ((putW l k x).map (·.2)).sum = (l.map (·.2)).sum + x
  | [], k, x => by simp [putW]
  | p :: r, k, x => by
    show ((if p.1 = k then (p.1, p.2 + x) :: r else (p.1, p.2) :: putW r k x).map (·.2)).sum = _
    split
    · simp only [List.map_cons, List.sum_cons]; omega
    · simp only [List.map_cons, List.sum_cons, putW_sum r k x]; omega
theorem putW_keys (l : Wts) (k x : Nat) (hn : (l.map (·.1)).Nodup) : ((putW l k x).map (·.1)) = if k ∈ l.map (·.1) then l.map (·.1) else l.map (·.1) ++ [k] := by
  split
  · rename_i h
    rw [putW_old l k x hn h, List.map_map]
    apply List.map_congr_left
    intro p _
    show (if p.1 = k then (p.1, getW l k + x) else p).1 = p.1
    split <;> rfl
  · rename_i h
    rw [(putW_new l k x h).1, List.map_append]
    rfl
theorem putW_mem : ∀ (l : Wts) (k x : Nat) (p : Nat × Nat), p ∈ putW l k x → p ∈ l ∨ p.1 = k ∧ x ≤ p.2
  | [], k, x, p, h => .inr (by rcases List.mem_cons.mp h with rfl | h; exact ⟨rfl, Nat.le_refl _⟩; cases h)
  | q :: r, k, x, p, h => by
    have h : p ∈ (if q.1 = k then (q.1, q.2 + x) :: r else (q.1, q.2) :: putW r k x) := h
    split at h
    · rename_i c
      rcases List.mem_cons.mp h with rfl | h
      · exact .inr ⟨c, Nat.le_add_left _ _⟩
      · exact .inl (List.mem_cons_of_mem _ h)
    · rcases List.mem_cons.mp h with rfl | h
      · exact .inl List.mem_cons_self
      · rcases putW_mem r k x p h with h | h
        · exact .inl (List.mem_cons_of_mem _ h)
        · exact .inr h
theorem putW_len : ∀ (l : Wts) (k x : Nat), (putW l k x).length ≤ l.length + 1
  | [], _, _ => Nat.le_refl _
  | p :: r, k, x => by
    show (if p.1 = k then (p.1, p.2 + x) :: r else (p.1, p.2) :: putW r k x).length ≤ _
    have := putW_len r k x
    split <;> simp only [List.length_cons] <;> omega
theorem putW_ok {n t : Nat} {l : Wts} {k x : Nat} (h : WtOk n t l) (hk : k < n) (hx : 0 < x) (hx4 : x ≤ 4) : WtOk n (t + 1) (putW l k x) := by
  refine ⟨?_, fun p hp => ?_, by rw [putW_sum]; have := h.sum; omega, by have := putW_len l k x; have := h.len; omega⟩
  · rw [putW_keys l k x h.nd]
    split
    · exact h.nd
    · rename_i c
      rw [List.nodup_append]
      exact ⟨h.nd, by simp, fun a ha b hb => by
        rcases List.mem_cons.mp hb with rfl | hb
        · intro z; subst z; exact c ha
        · cases hb⟩
  · rcases putW_mem l k x p hp with h1 | ⟨h1, h2⟩
    · exact h.mem p h1
    · exact ⟨by omega, by omega⟩
theorem putW_ne (l : Wts) (k x : Nat) : putW l k x ≠ [] := by
  cases l with
  | nil => intro z; cases z
  | cons p r =>
    show (if p.1 = k then (p.1, p.2 + x) :: r else (p.1, p.2) :: putW r k x) ≠ []
    split <;> intro z <;> cases z

theorem isDic_wt (l : Wts) : isDic (wtD l) = true := by cases l <;> rfl
theorem getV_wt {i j : Nat} {ρ : Rho} {l : Wts} {k : Nat} (hi : rd i ρ = .ok (.dict (wtD l))) (hj : rd j ρ = .ok (.int k)) : getV (rd i) (rd j) (kc (.int 0)) ρ = .ok (.int (getW l k)) := by
  unfold getV
  rw [hi]
  show (if isDic (wtD l) = true then ((rd j ρ).bind _) else _) = _
  rw [if_pos (isDic_wt l), hj]
  show ofO (some ((lookD (wtD l) (.inl (k : Int))).getD (.int 0))) = _
  rw [look_wt]
  unfold getW
  cases l.find? fun p => p.1 == k <;> rfl
theorem gPutD_ok {i : Nat} {fk f : Ex} {ρ : Rho} {l : List (D × D)} {k d : D} {j : Key} (hf : f ρ = .ok d) (hk : fk ρ = .ok k) (hj : keyOf k = some j) (hi : ρ[i]? = some (some (.dict l))) (hl : l.length < 1000000) : gPutD i fk f ρ = .nx (ρ.set i (some (.dict (putD l j d)))) := by
  unfold gPutD
  rw [hi]
  simp only [hf, hk, hj, Res.out]
  exact if_pos hl
theorem wt_len {n t : Nat} {l : Wts} (h : WtOk n t l) : l.length ≤ 4 * t := by
  have : ∀ l : Wts, (∀ p, p ∈ l → 0 < p.2) → l.length ≤ (l.map (·.2)).sum := by
    intro l
    induction l with
    | nil => intro _; exact Nat.le_refl _
    | cons p r ih =>
      intro hp
      have h1 := ih fun q m => hp q (List.mem_cons_of_mem _ m)
      have h2 := hp p List.mem_cons_self
      rw [List.length_cons, List.map_cons, List.sum_cons]
      omega
  exact Nat.le_trans (this l fun p m => (h.mem p m).2) h.sum
/-- the rooms, rising -/
def roomsW (l : Wts) : List Nat := (l.map (·.1)).mergeSort fun a b => decide (a ≤ b)
theorem rooms_perm (l : Wts) : (roomsW l).Perm (l.map (·.1)) := List.mergeSort_perm _ _
theorem rooms_le (l : Wts) : (roomsW l).Pairwise (· ≤ ·) := by
  have h := List.pairwise_mergeSort (le := fun a b : Nat => decide (a ≤ b)) (by intro a b c h1 h2; simp at *; omega) (by intro a b; simp; omega) (l.map (·.1))
  exact h.imp fun h => by simpa using h
theorem rooms_lt {l : Wts} (h : (l.map (·.1)).Nodup) : (roomsW l).Pairwise (· < ·) := by
  have h1 := (rooms_perm l).nodup_iff.mpr h
  exact (rooms_le l).imp₂ (fun a b h2 h3 => by omega) h1
theorem sort_rooms (l : Wts) : sortI (l.map fun p => (p.1 : Int)) = (roomsW l).map fun k : Nat => (k : Int) := by
  symm
  apply sortI_eq
  · have := (rooms_perm l).map (fun k : Nat => (k : Int))
    rw [List.map_map] at this
    exact this
  · rw [List.pairwise_map]
    exact (rooms_le l).imp fun h => by omega
theorem getW_mem {l : Wts} {k : Nat} (h : k ∈ l.map (·.1)) : (k, getW l k) ∈ l := by
  obtain ⟨p, hp, rfl⟩ := List.mem_map.mp h
  unfold getW
  cases e : l.find? fun q => q.1 == p.1 with
  | none =>
    have := List.find?_eq_none.mp e p hp
    simp at this
  | some q =>
    have h1 := List.find?_some e
    have h2 := List.mem_of_find?_eq_some e
    have : q.1 = p.1 := by simpa using h1
    rw [← this]
    exact h2
theorem sum_getW : ∀ (l : Wts), (l.map (·.1)).Nodup → ((l.map (·.1)).map (getW l)).sum = (l.map (·.2)).sum
  | [], _ => rfl
  | p :: r, h => by
    rw [List.map_cons, List.nodup_cons] at h
    have e : (r.map (·.1)).map (getW (p :: r)) = (r.map (·.1)).map (getW r) := by
      apply List.map_congr_left
      intro k hk
      rw [getW_cons, if_neg]
      intro z
      exact h.1 (by rw [z]; exact hk)
    rw [List.map_cons, List.map_cons, List.sum_cons, e, sum_getW r h.2, getW_cons, if_pos rfl, List.map_cons, List.sum_cons]
def spreadW (l : Wts) : Spread := (roomsW l).map fun k => (k, Rat.divInt (getW l k) ((l.map (·.2)).sum : Nat))
theorem dn_small {g m : Nat} (h0 : 0 < m) (h : m ≤ 12) : Dn 27720 (Rat.divInt g m) := by
  have hd : m ∣ 27720 := by
    have : m = 1 ∨ m = 2 ∨ m = 3 ∨ m = 4 ∨ m = 5 ∨ m = 6 ∨ m = 7 ∨ m = 8 ∨ m = 9 ∨ m = 10 ∨ m = 11 ∨ m = 12 := by omega
    rcases this with rfl | rfl | rfl | rfl | rfl | rfl | rfl | rfl | rfl | rfl | rfl | rfl <;> decide
  refine Dn.of_den (Nat.dvd_trans ?_ hd)
  rw [Rat.den_divInt, if_neg (by omega), Int.natAbs_natCast]
  exact Nat.div_dvd_of_dvd (by have := Int.gcd_dvd_natAbs_left (m : Int) (g : Int); simpa using this)
theorem sum_div (m : Nat) (h : 0 < m) : ∀ l : List Nat, (l.map fun g => Rat.divInt (g : Nat) m).sum = Rat.divInt (l.sum : Nat) m
  | [] => by rw [List.map_nil, List.sum_nil, List.sum_nil]; simp
  | a :: r => by
    rw [List.map_cons, List.sum_cons, List.sum_cons, sum_div m h r]
    have m0 : (m : Rat) ≠ 0 := fun z => by have : m = 0 := by exact_mod_cast z
                                           omega
    rw [Rat.divInt_eq_div, Rat.divInt_eq_div, Rat.divInt_eq_div, Int.natCast_add, Rat.intCast_add]
    grind
theorem spreadW_good {n t : Nat} {l : Wts} (h : WtOk n t l) (ht : t ≤ 3) (hne : l ≠ []) : GoodSp n (spreadW l) ∧ 0 < (l.map (·.2)).sum ∧ (l.map (·.2)).sum ≤ 12 := by
  have s1 : (l.map (·.2)).sum ≤ 12 := by have := h.sum; omega
  have s0 : 0 < (l.map (·.2)).sum := by
    cases l with
    | nil => exact absurd rfl hne
    | cons p r =>
      have := (h.mem p List.mem_cons_self).2
      rw [List.map_cons, List.sum_cons]
      omega
  have hlen : (spreadW l).length ≤ 3 := by
    unfold spreadW
    rw [List.length_map, (rooms_perm l).length_eq, List.length_map]
    have := h.len
    omega
  refine ⟨⟨?_, fun p hp => ?_, ?_, hlen, (l.map (·.2)).sum, s0, s1, fun p hp => ?_⟩, s0, s1⟩
  · have e : (spreadW l).map (·.1) = roomsW l := by
      unfold spreadW
      rw [List.map_map]
      exact List.map_id' _
    rw [e]
    exact rooms_lt h.nd
  · obtain ⟨k, hk, rfl⟩ := List.mem_map.mp hp
    have hm := getW_mem ((rooms_perm l).mem_iff.mp hk)
    obtain ⟨a, b⟩ := h.mem _ hm
    refine ⟨a, ?_, dn_small s0 s1⟩
    show 0 < Rat.divInt (getW l k) ((l.map (·.2)).sum : Nat)
    have b : 0 < getW l k := b
    rw [Rat.divInt_eq_div, Rat.div_def]
    exact Rat.mul_pos (Rat.intCast_pos.mpr (by omega)) (Rat.inv_pos.mpr (Rat.intCast_pos.mpr (by omega)))
  · have e : (spreadW l).map (·.2) = ((roomsW l).map (getW l)).map fun g => Rat.divInt (g : Nat) ((l.map (·.2)).sum : Nat) := by
      unfold spreadW
      rw [List.map_map, List.map_map]
      rfl
    rw [e, sum_div _ s0, ((rooms_perm l).map (getW l)).sum_nat, sum_getW l h.nd]
    exact Rat.divInt_self' (by omega)
  · obtain ⟨k, hk, rfl⟩ := List.mem_map.mp hp
    have m0 : (((l.map (·.2)).sum : Nat) : Rat) ≠ 0 := fun z => by
      have : (l.map (·.2)).sum = 0 := by exact_mod_cast z
      omega
    refine ⟨(getW l k : Nat), ?_⟩
    show Rat.divInt (getW l k) ((l.map (·.2)).sum : Nat) * (((l.map (·.2)).sum : Nat) : Rat) = _
    rw [Rat.divInt_eq_div]
    exact Rat.div_mul_cancel m0

theorem spread_ok (ns : List Int) (at_ many : Nat) (hm : 0 < many) : ∃ s, GoodSp many s ∧ m_law_spread [scrD ns, .int at_, .int many] = .ok (spreadD s) := by
  obtain ⟨r, hr, er⟩ := mixed_ok ns at_ 3 (by decide)
  obtain ⟨ρ1, e1, l, c, d, ok, ne, h1⟩ := forL_pre (tg := .nm 4) (g := gSeq (gSet 5 (callD 3 m_law_mixed (aCons (rd 0) (aCons (bin (bin (rd 1) (kc (.int 1)) dAdd) (bin (kc (.int 2)) (rd 4) dMul) dAdd) (aCons (rd 2) aNil))))) (gPutD 3 (rd 5) (bin (bin (getV (rd 3) (rd 5) (kc (.int 0))) (kc (.int 1)) dAdd) (callD 3 m_law_mixed (aCons (rd 0) (aCons (bin (bin (rd 1) (kc (.int 2)) dAdd) (bin (kc (.int 2)) (rd 4) dMul) dAdd) (aCons (kc (.int 4)) aNil)))) dAdd)))
    (fun i : Nat => PyData.int i) (fun pre ρ => ∃ l c d, WtOk many pre.length l ∧ (pre ≠ [] → l ≠ []) ∧ ρ = [some (scrD ns), some (.int at_), some (.int many), some (.dict (wtD l)), c, d, none]) (List.range (1 + r)) (fun pre k post ρ e hp => by
      obtain ⟨l, c, d, ok, _, rfl⟩ := hp
      obtain ⟨room, hroom, e2⟩ := mixed_ok ns (at_ + 1 + 2 * k) many hm
      obtain ⟨x, hx, e3⟩ := mixed_ok ns (at_ + 2 + 2 * k) 4 (by decide)
      have hpre : pre.length ≤ 3 := by
        have := congrArg List.length e
        rw [List.length_range, List.length_append] at this
        omega
      have hl := wt_len ok
      refine ⟨[some (scrD ns), some (.int at_), some (.int many), some (.dict (wtD l)), some (.int k), d, none], [some (scrD ns), some (.int at_), some (.int many), some (.dict (wtD (putW l room (1 + x)))), some (.int k), some (.int room), none], rfl, ?_, putW l room (1 + x), _, _, ?_, fun _ => putW_ne _ _ _, rfl⟩
      · refine (gSeq_nx (gSet_ok ((call3 rfl (bin_ok (bin_ok rfl rfl rfl) (bin_ok rfl rfl (mul_ok (mulOk_l (by decide)))) rfl) rfl).trans e2))).trans ?_
        refine (gPutD_ok (l := wtD l) (d := .int ((getW l room + (1 + x) : Nat) : Int)) (bin_ok (bin_ok (getV_wt (k := room) rfl rfl) rfl rfl) ((call3 rfl (bin_ok (bin_ok rfl rfl rfl) (bin_ok rfl rfl (mul_ok (mulOk_l (by decide)))) rfl) rfl).trans e3) ?_) rfl rfl rfl (by unfold wtD; rw [List.length_map]; omega)).trans ?_
        · show some (PyData.int ((getW l room : Int) + 1 + x)) = _
          congr 2
          omega
        · rw [put_wt l ok.nd]
          rfl
      · rw [List.length_append]
        exact putW_ok ok hroom (by omega) (by omega))
    (ρ := [some (scrD ns), some (.int at_), some (.int many), some (.dict []), none, none, none]) ⟨[], none, none, ⟨List.nodup_nil, (fun p h => by cases h), by simp, Nat.le_refl _⟩, fun z => absurd rfl z, rfl⟩
  have ne1 : l ≠ [] := ne (by
    intro z
    have := congrArg List.length z
    rw [List.length_range] at this
    simp at this)
  rw [List.length_range] at ok
  obtain ⟨good, s0, s1⟩ := spreadW_good ok (by omega) ne1
  refine ⟨spreadW l, good, run_rt ?_⟩
  show gSeq _ _ [some (scrD ns), some (.int at_), some (.int many), none, none, none, none] = _
  refine (gSeq_nx (gSet_ok rfl)).trans ?_
  have e0 : itR1 (bin (kc (.int 1)) (callD 3 m_law_mixed (aCons (rd 0) (aCons (rd 1) (aCons (kc (.int 3)) aNil)))) dAdd) [some (scrD ns), some (.int at_), some (.int many), some (.dict []), none, none, none] = .ok ((List.range (1 + r)).map fun i : Nat => PyData.int i) :=
    itR1_nat (n := 1 + r) (bin_ok rfl ((call3 rfl rfl rfl).trans er) rfl) (by omega)
  refine (gSeq_nx (gFor_nx e0 e1)).trans ?_
  subst h1
  have e2 : dSumV (.dict (wtD l)) = some (.int ((l.map (·.2)).sum : Nat)) := by
    show (if isDic (wtD l) = true then _ else _) = _
    rw [if_pos (isDic_wt l)]
    have : (wtD l).map (·.2) = (l.map fun p => (p.2 : Int)).map PyData.int := by
      unfold wtD
      rw [List.map_map, List.map_map]
      rfl
    rw [this, allI_map]
    have e3 : ∀ l : Wts, (l.map fun p => (p.2 : Int)).sum = ((l.map (·.2)).sum : Nat) := by
      intro l
      induction l with
      | nil => rfl
      | cons p r ih => rw [List.map_cons, List.map_cons, List.sum_cons, List.sum_cons, ih, Int.natCast_add]
    show some (PyData.int _) = _
    rw [e3]
  refine (gSeq_nx (gSet_ok (un_ok rfl e2))).trans ?_
  have e4 : dList (.dict (wtD l)) = some (.list ((l.map fun p => (p.1 : Int)).map PyData.int)) := by
    show (if isDic (wtD l) = true then _ else _) = _
    rw [if_pos (isDic_wt l)]
    unfold wtD
    rw [List.map_map, List.map_map]
    rfl
  have e5 : dSorted (.list ((l.map fun p => (p.1 : Int)).map PyData.int)) = some (.list ((roomsW l).map fun k : Nat => PyData.int k)) := by
    show (allI _).map _ = _
    rw [allI_map]
    show some (PyData.list ((sortI _).map _)) = _
    rw [sort_rooms, List.map_map]
    rfl
  have hlen : (roomsW l).length ≤ sizeLine := by
    rw [(rooms_perm l).length_eq, List.length_map]
    exact line_small (by have := wt_len ok; omega)
  refine gRet_ok (un_ok (comp_ok (fun k : Nat => PyData.int k) (fun _ => true) (fun k => prD (k, Rat.divInt (getW l k) ((l.map (·.2)).sum : Nat))) (roomsW l) hlen (itS_list (un_ok (un_ok rfl e4) e5)) fun k hk => ⟨[some (scrD ns), some (.int at_), some (.int many), some (.dict (wtD l)), c, some (.int k), some (.int ((l.map (·.2)).sum : Nat))], rfl, rfl, fun _ => ?_⟩) ?_)
  · have hm := getW_mem ((rooms_perm l).mem_iff.mp hk)
    have e6 : dDix (.dict (wtD l)) (.int k) = some (.int (getW l k)) := by
      show (if isDic (wtD l) = true then (some (Sum.inl (k : Int))).bind (lookD (wtD l)) else _) = _
      rw [if_pos (isDic_wt l)]
      show lookD (wtD l) (.inl (k : Int)) = _
      rw [look_wt]
      unfold getW
      cases e : l.find? fun p => p.1 == k with
      | none =>
        have := List.find?_eq_none.mp e _ hm
        simp at this
      | some q => rfl
    exact mkTup_ok (aCons_ok rfl (aCons_ok ((call2 (bin_ok rfl rfl e6) rfl).trans (law_frac_ok _ _ (by omega) (by
      rw [Int.natAbs_natCast]
      exact Nat.lt_of_le_of_lt s1 (Nat.lt_of_lt_of_le (show 12 < 2 ^ 4 by decide) (Nat.pow_le_pow_right (by decide) (by decide)))))) rfl)) rfl
  · rw [filter_yes]
    show some (PyData.tuple _) = some (spreadD _)
    unfold spreadD spreadW
    rw [List.map_map]
    rfl
theorem walk_ok (ns : List Int) (at_ : Nat) : ∃ w, GoodWk w ∧ m_law_walk [scrD ns, .int at_] = .ok (walkD w) := by
  obtain ⟨r, hr, er⟩ := mixed_ok ns at_ 5 (by decide)
  obtain ⟨r2, hr2, er2⟩ := mixed_ok ns (at_ + 1) 6 (by decide)
  have key : ∀ many : Nat, 0 < many → many ≤ 8 → ∃ w, GoodWk w ∧ ∃ c, gRet (un (comp [3] (.nm 3) (itR1 (rd 2)) yes (callD 3 m_law_spread (aCons (rd 0) (aCons (bin (bin (rd 1) (kc (.int 2)) dAdd) (bin (kc (.int 7)) (rd 3) dMul) dAdd) (aCons (rd 2) aNil))))) dTuple) [some (scrD ns), some (.int at_), some (.int many), none] = .rt c ∧ c = walkD w := by
    intro many h0 h8
    have hs := fun k : Nat => spread_ok ns (at_ + 2 + 7 * k) many h0
    refine ⟨(List.range many).map fun k => (hs k).choose, ⟨by rw [List.length_map, List.length_range]; exact h0, by rw [List.length_map, List.length_range]; exact h8, fun s m => ?_⟩, _, gRet_ok (un_ok (comp_ok (fun k : Nat => PyData.int k) (fun _ => true) (fun k => spreadD (hs k).choose) (List.range many) (by rw [List.length_range]; exact line_small (by omega)) (itR1_nat rfl (by omega)) fun k hk => ⟨[some (scrD ns), some (.int at_), some (.int many), some (.int k)], rfl, rfl, fun _ => ?_⟩) rfl), ?_⟩
    · obtain ⟨k, _, rfl⟩ := List.mem_map.mp m
      rw [List.length_map, List.length_range]
      exact (hs k).choose_spec.1
    · exact (call3 rfl (bin_ok (bin_ok rfl rfl rfl) (bin_ok rfl rfl (mul_ok (mulOk_l (by decide)))) rfl) rfl).trans (hs k).choose_spec.2
    · rw [filter_yes]
      unfold walkD
      rw [List.map_map]
      rfl
  have e2 : bin (callD 3 m_law_mixed (aCons (rd 0) (aCons (bin (rd 1) (kc (.int 1)) dAdd) (aCons (kc (.int 6)) aNil)))) (kc (.int 5)) dEq [some (scrD ns), some (.int at_), some (.int ((1 + r : Nat) : Int)), none] = .ok (.bool ((r2 : Int) == 5)) := bin_ok ((call3 rfl (bin_ok rfl rfl rfl) rfl).trans er2) rfl rfl
  have e1 : gSet 2 (bin (kc (.int 1)) (callD 3 m_law_mixed (aCons (rd 0) (aCons (rd 1) (aCons (kc (.int 5)) aNil)))) dAdd) [some (scrD ns), some (.int at_), none, none] = .nx [some (scrD ns), some (.int at_), some (.int ((1 + r : Nat) : Int)), none] := gSet_ok (bin_ok rfl ((call3 rfl rfl rfl).trans er) rfl)
  by_cases h : r2 = 5
  · obtain ⟨w, gw, c, e, rfl⟩ := key 8 (by decide) (by decide)
    refine ⟨w, gw, run_rt ?_⟩
    show gSeq _ _ [some (scrD ns), some (.int at_), none, none] = _
    refine (gSeq_nx e1).trans ((gSeq_nx ((gIf_t (asB_ok (e2.trans (by rw [h]; rfl)))).trans (gSet_ok rfl))).trans e)
  · obtain ⟨w, gw, c, e, rfl⟩ := key (1 + r) (by omega) (by omega)
    refine ⟨w, gw, run_rt ?_⟩
    show gSeq _ _ [some (scrD ns), some (.int at_), none, none] = _
    have hb : ((r2 : Int) == 5) = false := by
      rw [beq_eq_false_iff_ne]
      omega
    refine (gSeq_nx e1).trans ((gSeq_nx (gIf_s (asB_ok (e2.trans (by rw [hb]))))).trans e)
end LW
end

section
set_option Elab.async false
set_option linter.all false
set_option maxRecDepth 100000
set_option maxHeartbeats 1000000
set_option exponentiation.threshold 100000
set_option autoImplicit false
/-! PN: after, need_room, is_fraction. -/
namespace LW
open PySem hiding run
open L2 hiding bin
open DL

theorem kit_int_int : kitB "int" "int" = some true := by decide +kernel
theorem kit_int_bool : kitB "int" "bool" = some false := by decide +kernel
theorem kit_list : kitB "list" "list" = some true := by decide +kernel
theorem kit_tuple : kitB "tuple" "tuple" = some true := by decide +kernel
theorem isi_int (i : Int) : dIsi "int" (.int i) = some (.bool true) := by
  show (kitB "int" "int").map _ = _
  rw [kit_int_int]; rfl
theorem isi_bool (i : Int) : dIsi "bool" (.int i) = some (.bool false) := by
  show (kitB "int" "bool").map _ = _
  rw [kit_int_bool]; rfl
theorem isi_list (l : List D) : dIsi "list" (.list l) = some (.bool true) := by
  show (kitB "list" "list").map _ = _
  rw [kit_list]; rfl
theorem isi_tuple (l : List D) : dIsi "tuple" (.tuple l) = some (.bool true) := by
  show (kitB "tuple" "tuple").map _ = _
  rw [kit_tuple]; rfl
theorem andV_t {fa fb : Ex} {ρ : Rho} {d : D} (h : fa ρ = .ok (.bool true)) (k : fb ρ = .ok d) : andV fa fb ρ = .ok d := by
  unfold andV
  rw [h]
  exact k
theorem notV_ok {fa : Ex} {ρ : Rho} {b : Bool} (h : fa ρ = .ok (.bool b)) : notV fa ρ = .ok (.bool (!b)) := by
  unfold notV
  rw [h]
  rfl
theorem is_whole_ok (i : Int) : m_is_whole [.int i] = .ok (.bool true) := run_rt (gRet_ok (andV_t (un_ok rfl (isi_int i)) (notV_ok (un_ok rfl (isi_bool i)))))
theorem law_whole_ok (i : Int) : m_law_whole [.int i] = .ok (.bool true) := run_rt (gRet_ok (andV_t (un_ok rfl (isi_int i)) (notV_ok (un_ok rfl (isi_bool i)))))
theorem need_room_ok {w : Walk} {r : Nat} (h : r < w.length) : m_need_room [walkD w, .int r] = .ok .none := by
  refine run_nx (ρ := [some (walkD w), some (.int r)]) ?_
  show gIf _ _ gSkip [some (walkD w), some (.int r)] = _
  exact gIf_s (orT_f (notT_ok (b := true) (asB_ok ((call1 rfl).trans (is_whole_ok r)))) (orT_f (asB_ok (bin_ok rfl rfl (lt_f (by omega)))) (asB_ok (bin_ok rfl (un_ok rfl (len_walk w)) (by rw [ge_ii, decide_eq_false (by omega)])))))
def stepN (w : Walk) (v : List Rat) : Nat → List Rat
  | 0 => v
  | k + 1 => step w (stepN w v k)
def unit (n s : Nat) : List Rat := (List.range n).map fun k => if k = s then 1 else 0
theorem unit_eq {n s : Nat} (h : s < n) : (List.replicate n (0 : Rat)).set s ((List.replicate n (0 : Rat)).getD s 0 + 1) = unit n s := by
  apply List.ext_getElem
  · unfold unit; simp
  · intro i h1 h2
    unfold unit at *
    rw [List.getElem_map, List.getElem_range, List.getElem_set]
    by_cases c : s = i
    · subst c
      rw [if_pos rfl, if_pos rfl]
      simp at h2
      rw [List.getD_eq_getElem?_getD, List.getElem?_replicate, if_pos h]
      exact Rat.zero_add 1
    · rw [if_neg c, if_neg fun z => c z.symm, List.getElem_replicate]
theorem unit_vec {n s : Nat} (h : s < n) : Vec n 1 1 (unit n s) := by
  rw [← unit_eq h]
  have := (Vec.zero n 1).set (i := s) (d := 1) h (by decide) ⟨1, Rat.one_mul _⟩
  rw [Rat.zero_add] at this
  exact this
theorem stepN_vec {n : Nat} {w : Walk} {v : List Rat} (gw : GoodWk w) (hn : w.length = n) {t : Rat} (hv : Vec n 1 t v) : ∀ k, Vec n (27720 ^ k) t (stepN w v k)
  | 0 => hv
  | k + 1 => by
    have := step_vec gw hn (stepN_vec gw hn hv k)
    rw [← Nat.pow_succ] at this
    exact this
theorem pow_small {k : Nat} (h : k ≤ 100) : 27720 ^ k < 2 ^ 2000 :=
  Nat.lt_of_le_of_lt (Nat.pow_le_pow_left (show 27720 ≤ 2 ^ 15 by decide) k) (by rw [← Nat.pow_mul]; exact Nat.pow_lt_pow_right (by decide) (by omega))
theorem after_ok {n : Nat} {w : Walk} (gw : GoodWk w) (hn : w.length = n) {s : Nat} (h : s < n) {k : Nat} (hk : k ≤ 100) : m_after [walkD w, .int s, .int k] = .ok (vecD (stepN w (unit n s) k)) := by
  have hv := unit_vec h
  have hn8 : n ≤ 8 := by rw [← hn]; exact gw.hi
  refine run_rt ?_
  show gSeq _ _ [some (walkD w), some (.int s), some (.int k), none, none, none] = _
  refine (gSeq_nx (gDrop_ok ((call2 rfl rfl).trans (need_room_ok (by omega))))).trans ?_
  refine (gSeq_nx (gSet_ok (comp_const (enc := spreadD) (l := w) (.inl rfl) (line_small (by have := gw.hi; omega)) (fun _ => rfl)))).trans ?_
  have e1 : gPutL 3 (rd 1) (kc (.tuple [.int 1, .int 1])) [some (walkD w), some (.int s), some (.int k), some (.list (List.replicate w.length (.tuple [.int 0, .int 1]))), none, none] = .nx [some (walkD w), some (.int s), some (.int k), some (vecD (unit n s)), none, none] := by
    refine (gPutL_ok rfl rfl rfl (lSet_nat (by rw [List.length_replicate]; omega))).trans ?_
    have e2 : (List.replicate w.length (PyData.tuple [.int 0, .int 1])).set s (.tuple [.int 1, .int 1]) = (unit n s).map fr := by
      rw [← unit_eq h, ← set_vec, List.map_replicate, hn]
      congr 1
      rw [List.getD_eq_getElem?_getD, List.getElem?_replicate, if_pos h]
      have z : ((some (0 : Rat)).getD 0 + 1 : Rat) = 1 := Rat.zero_add 1
      rw [z]
      rfl
    rw [e2]
    rfl
  refine (gSeq_nx e1).trans ?_
  obtain ⟨ρ1, e2, c, h1⟩ := forL_pre (tg := .nm 4) (g := gSet 3 (callD 2 m_stepped (aCons (rd 0) (aCons (rd 3) aNil)))) (fun i : Nat => PyData.int i) (fun pre ρ => ∃ c, ρ = [some (walkD w), some (.int s), some (.int k), some (vecD (stepN w (unit n s) pre.length)), c, none]) (List.range k) (fun pre r post ρ e hp => by
      obtain ⟨c, rfl⟩ := hp
      have hpre : pre.length ≤ 100 := by
        have := congrArg List.length e
        rw [List.length_range, List.length_append] at this
        omega
      refine ⟨_, _, rfl, gSet_ok ((call2 rfl rfl).trans (stepped_ok gw hn (stepN_vec gw hn hv pre.length) (Nat.ne_of_gt (Nat.pow_pos (by decide))) (pow_small hpre))), some (.int r), ?_⟩
      rw [List.length_append]
      rfl) (ρ := [some (walkD w), some (.int s), some (.int k), some (vecD (unit n s)), none, none]) ⟨none, rfl⟩
  refine (gSeq_nx (gFor_nx (itR1_nat (n := k) rfl (by omega)) e2)).trans ?_
  subst h1
  rw [List.length_range]
  exact gRet_ok rfl
theorem law_is_fraction_ok (q : Rat) : m_law_is_fraction [fr q] = .ok (.bool true) := by
  refine run_rt ?_
  show gSeq _ _ [some (fr q)] = _
  have q0 : rd 0 [some (fr q)] = .ok (fr q) := rfl
  refine (gSeq_nx (gIf_s (orT_f (notT_ok (b := true) (asB_ok (un_ok rfl (isi_tuple _)))) (asB_ok (bin_ok (un_ok rfl (len_tuple _)) rfl rfl))))).trans ?_
  have hd := q.den_nz
  refine (gSeq_nx (gIf_s (orT_f (notT_ok (b := true) (asB_ok ((call1 (r0 q0)).trans (law_whole_ok _)))) (orT_f (notT_ok (b := true) (asB_ok ((call1 (r1 q0)).trans (law_whole_ok _)))) (asB_ok (bin_ok (r1 q0) rfl (lt_f (by omega)))))))).trans ?_
  have hg : Int.gcd q.num q.den = 1 := by
    have := q.reduced
    unfold Nat.Coprime at this
    show Nat.gcd q.num.natAbs ((q.den : Int).natAbs) = 1
    rw [Int.natAbs_natCast]
    exact this
  refine gRet_ok (bin_ok ((call2 (r0 q0) (r1 q0)).trans (law_divisor_ok _ _)) rfl ?_)
  rw [hg]
  rfl
theorem vec_eqv (v u : List Rat) : PyData.eqv (vecD v) (vecD u) = decide (v = u) := eqv_list eqv_fr v u
theorem vec_shaped (v : List Rat) : SeqAt.shaped (vecD v) = true := (sh_map sh_fr v).shaped
theorem ne_vec (v u : List Rat) : dNe (vecD v) (vecD u) = some (.bool (!decide (v = u))) := by rw [dNe_ok (vec_shaped v) (vec_shaped u), vec_eqv]
theorem eq_vec (v u : List Rat) : dEq (vecD v) (vecD u) = some (.bool (decide (v = u))) := by
  have e : dEq (vecD v) (vecD u) = some (.bool (PyData.eqv (vecD v) (vecD u))) := dEq_list (vec_shaped v) (vec_shaped u)
  rw [e, vec_eqv]
end LW
end

section
set_option Elab.async false
set_option linter.all false
set_option maxRecDepth 100000
set_option maxHeartbeats 1000000
set_option autoImplicit false
/-! PX: the solver, in plain numbers. -/
namespace LW

/-! ### sums over a range -/
def S : Nat → (Nat → Rat) → Rat
  | 0, _ => 0
  | n + 1, f => S n f + f n
theorem S_congr {n : Nat} {f g : Nat → Rat} (h : ∀ j, j < n → f j = g j) : S n f = S n g := by
  induction n with
  | zero => rfl
  | succ n ih =>
    show S n f + f n = S n g + g n
    rw [ih fun j l => h j (Nat.lt_succ_of_lt l), h n (Nat.lt_succ_self n)]
theorem S_zero {n : Nat} {f : Nat → Rat} (h : ∀ j, j < n → f j = 0) : S n f = 0 := by
  induction n with
  | zero => rfl
  | succ n ih =>
    show S n f + f n = 0
    rw [ih fun j l => h j (Nat.lt_succ_of_lt l), h n (Nat.lt_succ_self n), Rat.add_zero]
theorem S_add (n : Nat) (f g : Nat → Rat) : S n (fun j => f j + g j) = S n f + S n g := by
  induction n with
  | zero => exact (Rat.add_zero 0).symm
  | succ n ih =>
    show S n (fun j => f j + g j) + (f n + g n) = (S n f + f n) + (S n g + g n)
    rw [ih]; grind
theorem S_mul (n : Nat) (k : Rat) (f : Nat → Rat) : S n (fun j => k * f j) = k * S n f := by
  induction n with
  | zero => exact (Rat.mul_zero k).symm
  | succ n ih =>
    show S n (fun j => k * f j) + k * f n = k * (S n f + f n)
    rw [ih]; grind
theorem S_one {n i : Nat} {f : Nat → Rat} (hi : i < n) (h : ∀ j, j < n → j ≠ i → f j = 0) : S n f = f i := by
  induction n with
  | zero => cases hi
  | succ n ih =>
    show S n f + f n = f i
    by_cases c : i = n
    · subst c
      rw [S_zero fun j l => h j (Nat.lt_succ_of_lt l) (by omega), Rat.zero_add]
    · rw [ih (by omega) (fun j l => h j (Nat.lt_succ_of_lt l)), h n (Nat.lt_succ_self n) (fun z => c z.symm), Rat.add_zero]
theorem S_two {n i k : Nat} {f : Nat → Rat} (hi : i < n) (hk : k < n) (hne : i ≠ k) (h : ∀ j, j < n → j ≠ i → j ≠ k → f j = 0) : S n f = f i + f k := by
  have e : S n f = S n (fun j => (if j = i then f i else 0) + (if j = k then f k else 0)) := S_congr fun j l => by
    by_cases a : j = i
    · subst a; rw [if_pos rfl, if_neg hne, Rat.add_zero]
    · by_cases b : j = k
      · subst b; rw [if_neg a, if_pos rfl, Rat.zero_add]
      · rw [if_neg a, if_neg b, h j l a b, Rat.add_zero]
  rw [e, S_add, S_one (i := i) hi (fun j _ a => if_neg a), S_one (i := k) hk (fun j _ a => if_neg a), if_pos rfl, if_pos rfl]

/-! ### easing -/
abbrev Mat := Nat → Nat → Rat
/-- the row that comes to stand at i -/
def src (p r i : Nat) : Nat := if p < i ∧ i ≤ r then i - 1 else i
def easeF (c : Mat) (p r : Nat) : Mat := fun i j => if i = p then c r j / c r p else c (src p r i) j - c (src p r i) p * (c r j / c r p)
def Null (n : Nat) (c : Mat) (X : Nat → Rat) : Prop := ∀ i, i < n → S (n + 1) (fun j => c i j * X j) = 0
theorem ease_dot_p (n : Nat) (c : Mat) {p r : Nat} (X : Nat → Rat) (h : c r p ≠ 0) : S (n + 1) (fun j => easeF c p r p j * X j) = (c r p)⁻¹ * S (n + 1) (fun j => c r j * X j) := by
  rw [← S_mul]
  apply S_congr
  intro j _
  unfold easeF
  rw [if_pos rfl]
  grind
theorem ease_dot (n : Nat) (c : Mat) {p r i : Nat} (X : Nat → Rat) (hi : i ≠ p) (h : c r p ≠ 0) :
    S (n + 1) (fun j => easeF c p r i j * X j) = S (n + 1) (fun j => c (src p r i) j * X j) + (-(c (src p r i) p * (c r p)⁻¹)) * S (n + 1) (fun j => c r j * X j) := by
  rw [← S_mul, ← S_add]
  apply S_congr
  intro j _
  unfold easeF
  rw [if_neg hi]
  grind
theorem ease_null {n : Nat} {c : Mat} {p r : Nat} (hp : p < n) (hr : r < n) (hpr : p ≤ r) (h : c r p ≠ 0) (X : Nat → Rat) : Null n (easeF c p r) X ↔ Null n c X := by
  constructor
  · intro k
    have h0 : S (n + 1) (fun j => c r j * X j) = 0 := by
      have := k p hp
      rw [ease_dot_p n c X h] at this
      have hi : (c r p)⁻¹ ≠ 0 := by grind
      grind
    have key : ∀ i, i < n → i ≠ p → S (n + 1) (fun j => c (src p r i) j * X j) = 0 := by
      intro i hi hne
      have := k i hi
      rw [ease_dot n c X hne h, h0, Rat.mul_zero, Rat.add_zero] at this
      exact this
    intro i hi
    by_cases c1 : i = r
    · subst c1; exact h0
    · by_cases c2 : i < p
      · have := key i hi (by omega)
        have e : src p r i = i := if_neg (by omega)
        rwa [e] at this
      · by_cases c3 : i < r
        · have := key (i + 1) (by omega) (by omega)
          have e : src p r (i + 1) = i := by unfold src; rw [if_pos ⟨by omega, by omega⟩]; omega
          rwa [e] at this
        · have := key i hi (by omega)
          have e : src p r i = i := if_neg (by omega)
          rwa [e] at this
  · intro k i hi
    by_cases c1 : i = p
    · subst c1
      rw [ease_dot_p n c X h, k r hr, Rat.mul_zero]
    · have hs : src p r i < n := by unfold src; split <;> omega
      rw [ease_dot n c X c1 h, k _ hs, k r hr, Rat.mul_zero, Rat.add_zero]
/-- the first p columns are those of the unit -/
def UnitTo (n p : Nat) (c : Mat) : Prop := ∀ i j, i < n → j < p → c i j = if i = j then 1 else 0
theorem ease_unit {n : Nat} {c : Mat} {p r : Nat} (hp : p < n) (hr : r < n) (hpr : p ≤ r) (h : c r p ≠ 0) (u : UnitTo n p c) : UnitTo n (p + 1) (easeF c p r) := by
  intro i j hi hj
  unfold easeF
  by_cases c1 : i = p
  · rw [if_pos c1]
    by_cases c2 : j = p
    · rw [if_pos (by omega), c2]
      grind
    · rw [if_neg (by omega), u r j hr (by omega), if_neg (by omega)]
      grind
  · rw [if_neg c1]
    have hs : src p r i < n := by unfold src; split <;> omega
    by_cases c2 : j = p
    · rw [c2, if_neg (by omega)]
      grind
    · rw [u r j hr (by omega), if_neg (by omega), u _ j hs (by omega)]
      have e : (src p r i = j) ↔ (i = j) := by unfold src; split <;> omega
      by_cases c3 : i = j
      · rw [if_pos (e.mpr c3), if_pos c3]; grind
      · rw [if_neg fun z => c3 (e.mp z), if_neg c3]; grind
/-- only nought is told nought -/
def Firm (n : Nat) (c : Mat) : Prop := ∀ X : Nat → Rat, X n = 0 → Null n c X → ∀ i, i < n → X i = 0
theorem pivot_is {n p : Nat} {c : Mat} (hp : p < n) (u : UnitTo n p c) (f : Firm n c) : ∃ r, p ≤ r ∧ r < n ∧ c r p ≠ 0 := by
  apply Classical.byContradiction
  intro no
  have no : ∀ r, p ≤ r → r < n → c r p = 0 := fun r a b => Classical.byContradiction fun z => no ⟨r, a, b, z⟩
  have h := f (fun j => if j < p then -(c j p) else if j = p then 1 else 0) (by show (if n < p then _ else if n = p then _ else _) = _; rw [if_neg (by omega), if_neg (by omega)]) (fun i hi => by
    by_cases c1 : i < p
    · rw [S_two (i := i) (k := p) (by omega) (by omega) (by omega) (fun j hj a b => by
        by_cases c2 : j < p
        · rw [u i j hi c2, if_neg (by omega), Rat.zero_mul]
        · simp only [if_neg c2, if_neg b, Rat.mul_zero])]
      simp only [if_pos c1, if_neg (Nat.lt_irrefl p), if_true]
      rw [u i i hi c1, if_pos rfl]
      grind
    · rw [S_one (i := p) (by omega) (fun j hj b => by
        by_cases c2 : j < p
        · rw [u i j hi c2, if_neg (by omega), Rat.zero_mul]
        · simp only [if_neg c2, if_neg b, Rat.mul_zero])]
      rw [no i (by omega) hi, Rat.zero_mul]) p hp
  simp only [if_neg (Nat.lt_irrefl p), if_pos rfl] at h
  exact absurd h (by decide)
theorem firm_of {n : Nat} {c c' : Mat} (h : ∀ X, Null n c' X ↔ Null n c X) (f : Firm n c) : Firm n c' := fun X x0 k => f X x0 ((h X).mp k)
/-- what the last column tells, once all columns are those of the unit -/
theorem unit_sol {n : Nat} {c : Mat} (u : UnitTo n n c) : Null n c (fun j => if j < n then c j n else -1) := by
  intro i hi
  rw [S_two (i := i) (k := n) (by omega) (by omega) (by omega) (fun j hj a b => by rw [u i j hi (by omega), if_neg (by omega), Rat.zero_mul])]
  simp only [if_pos hi, if_neg (Nat.lt_irrefl n)]
  rw [u i i hi hi, if_pos rfl]
  grind
theorem null_eqs {n : Nat} {c : Mat} {x : Nat → Rat} (h : Null n c (fun j => if j < n then x j else -1)) : ∀ i, i < n → S n (fun j => c i j * x j) = c i n := by
  intro i hi
  have := h i hi
  have e : S (n + 1) (fun j => c i j * (if j < n then x j else -1)) = S n (fun j => c i j * (if j < n then x j else -1)) + c i n * (if n < n then x n else -1) := rfl
  rw [e, if_neg (Nat.lt_irrefl n), S_congr (g := fun j => c i j * x j) (fun j l => by rw [if_pos l])] at this
  grind
end LW
end

section
set_option Elab.async false
set_option linter.all false
set_option maxRecDepth 100000
set_option maxHeartbeats 1000000
set_option exponentiation.threshold 100000
set_option autoImplicit false
/-! PY: fractions of any size, and the solver's steps. -/
namespace LW
open PySem hiding run
open L2 hiding bin
open DL

/-! ### the four -/
theorem natAbs_den (q : Rat) {n : Nat} (h : q.den < 2 ^ n) : ((q.den : Nat) : Int).natAbs < 2 ^ n := by rw [Int.natAbs_natCast]; exact h
theorem dd {a b : Rat} (h : a.den * b.den < 2 ^ 9000) : ((a.den : Int) * b.den).natAbs < 2 ^ 9000 := by
  rw [← Int.natCast_mul, Int.natAbs_natCast]
  exact h
theorem dd0 (a b : Rat) : (a.den : Int) * b.den ≠ 0 := Int.mul_ne_zero (den_ne a) (den_ne b)
section
variable {a b : Rat} {n m : Nat}
theorem plusG (ha : Sz n a) (hb : Sz m b) (hd : a.den * b.den < 2 ^ 9000) (h : n + m ≤ 900000 := by omega) (hn : 0 < n := by omega) (hm : 0 < m := by omega) : m_plus [fr a, fr b] = .ok (fr (a + b)) := by
  have q0 : rd 0 [some (fr a), some (fr b)] = .ok (fr a) := rfl
  have q1 : rd 1 [some (fr a), some (fr b)] = .ok (fr b) := rfl
  refine run_rt (gRet_ok ?_)
  show callD 2 m_frac _ [some (fr a), some (fr b)] = _
  rw [call2 (bin_ok (rm (r0 q0) (r1 q1) ha.1 (natAbs_den b hb.2)) (rm (r0 q1) (r1 q0) hb.1 (natAbs_den a ha.2)) (add_ii _ _)) (rm (r1 q0) (r1 q1) (natAbs_den a ha.2) (natAbs_den b hb.2))]
  rw [frac_ok _ _ (dd0 a b) (dd hd), Rat.add_def', ← Rat.divInt_ofNat, Int.natCast_mul]
theorem lessG (ha : Sz n a) (hb : Sz m b) (hd : a.den * b.den < 2 ^ 9000) (h : n + m ≤ 900000 := by omega) (hn : 0 < n := by omega) (hm : 0 < m := by omega) : m_less [fr a, fr b] = .ok (fr (a - b)) := by
  have q0 : rd 0 [some (fr a), some (fr b)] = .ok (fr a) := rfl
  have q1 : rd 1 [some (fr a), some (fr b)] = .ok (fr b) := rfl
  refine run_rt (gRet_ok ?_)
  show callD 2 m_frac _ [some (fr a), some (fr b)] = _
  rw [call2 (bin_ok (rm (r0 q0) (r1 q1) ha.1 (natAbs_den b hb.2)) (rm (r0 q1) (r1 q0) hb.1 (natAbs_den a ha.2)) (sub_ii _ _)) (rm (r1 q0) (r1 q1) (natAbs_den a ha.2) (natAbs_den b hb.2))]
  rw [frac_ok _ _ (dd0 a b) (dd hd), Rat.sub_def', ← Rat.divInt_ofNat, Int.natCast_mul]
theorem timesG (ha : Sz n a) (hb : Sz m b) (hd : a.den * b.den < 2 ^ 9000) (h : n + m ≤ 900000 := by omega) (hn : 0 < n := by omega) (hm : 0 < m := by omega) : m_times [fr a, fr b] = .ok (fr (a * b)) := by
  have q0 : rd 0 [some (fr a), some (fr b)] = .ok (fr a) := rfl
  have q1 : rd 1 [some (fr a), some (fr b)] = .ok (fr b) := rfl
  refine run_rt (gRet_ok ?_)
  show callD 2 m_frac _ [some (fr a), some (fr b)] = _
  rw [call2 (rm (r0 q0) (r0 q1) ha.1 hb.1) (rm (r1 q0) (r1 q1) (natAbs_den a ha.2) (natAbs_den b hb.2))]
  rw [frac_ok _ _ (dd0 a b) (dd hd), Rat.mul_def', ← Rat.divInt_ofNat, Int.natCast_mul]
theorem overG (ha : Sz n a) (hb : Sz m b) (h0 : b ≠ 0) (hd : n + m ≤ 9000) (hn : 0 < n := by omega) (hm : 0 < m := by omega) : m_over [fr a, fr b] = .ok (fr (a / b)) := by
  have q0 : rd 0 [some (fr a), some (fr b)] = .ok (fr a) := rfl
  have q1 : rd 1 [some (fr a), some (fr b)] = .ok (fr b) := rfl
  have hb0 : b.num ≠ 0 := fun z => h0 (Rat.num_eq_zero.mp z)
  refine run_rt (gRet_ok ?_)
  show callD 2 m_frac _ [some (fr a), some (fr b)] = _
  rw [call2 (rm (r0 q0) (r1 q1) ha.1 (natAbs_den b hb.2)) (rm (r1 q0) (r0 q1) (natAbs_den a ha.2) hb.1)]
  rw [frac_ok _ _ (Int.mul_ne_zero (den_ne a) hb0) (Nat.lt_of_lt_of_le (mulN (natAbs_den a ha.2) hb.1) (Nat.pow_le_pow_right (by decide) hd))]
  have e : a / b = Rat.divInt a.num a.den * Rat.divInt b.den b.num := by
    rw [Rat.num_divInt_den, Rat.div_def, ← Rat.inv_divInt, Rat.num_divInt_den]
  rw [e, Rat.divInt_mul_divInt]
end
theorem eqv0 (q : Rat) : dNe (fr q) (.tuple [.int 0, .int 1]) = some (.bool (!decide (q = 0))) := by
  have e : dNe (fr q) (fr 0) = some (.bool (!PyData.eqv (fr q) (fr 0))) := dNe_ok (sh_fr q).shaped (sh_fr 0).shaped
  rw [eqv_fr] at e
  exact e
theorem itR2_nat {f g : Ex} {ρ : Rho} {p n : Nat} (hf : f ρ = .ok (.int p)) (hg : g ρ = .ok (.int n)) (hp : p < 1000000) (hn : n < 1000000) : itR2 f g ρ = .ok ((List.range (n - p)).map fun i : Nat => PyData.int ((p + i : Nat) : Int)) := by
  simp only [itR2, hf, hg, Res.bind]
  rw [if_pos ⟨by omega, by omega, by omega, by omega⟩]
  have e : ((n : Int) - p).toNat = n - p := by omega
  rw [e]
  rfl
theorem itZ_list {f g : Ex} {ρ : Rho} {xs ys : List D} (hf : f ρ = .ok (.list xs)) (hg : g ρ = .ok (.list ys)) : itY f g ρ = .ok (zipD xs ys) := by
  unfold itY
  rw [hf]
  show (g ρ).bind _ = _
  rw [hg]
  rfl
theorem zip_fr (xs ys : List Rat) : zipD (xs.map fr) (ys.map fr) = (List.zip xs ys).map fun p => PyData.tuple [fr p.1, fr p.2] := by
  unfold zipD
  rw [List.zipWith_map, List.zip_eq_zipWith, List.map_zipWith]

/-! ### rows of numbers with one number below -/
def RowB (b : Nat) (row : List Rat) : Prop := ∃ d : Nat, 0 < d ∧ d < 2 ^ b ∧ ∀ v, v ∈ row → ∃ k : Int, v * (d : Rat) = (k : Rat) ∧ k.natAbs < 2 ^ b
theorem num_of {v : Rat} {d : Nat} {k : Int} (h : v * (d : Rat) = (k : Rat)) (d0 : 0 < d) : v.den ≤ d ∧ v.num.natAbs ≤ k.natAbs := by
  obtain ⟨e, he⟩ := Dn.den (by omega) ⟨k, h⟩
  have e0 : 0 < e := by
    rcases Nat.eq_zero_or_pos e with z | z
    · subst z; omega
    · exact z
  have h2 : (k : Rat) = ((v.num * e : Int) : Rat) := by
    rw [← h, he, Rat.natCast_mul, ← Rat.mul_assoc, mul_den_num, Rat.intCast_mul]
    rfl
  have h3 : k = v.num * e := Rat.intCast_inj.mp h2
  refine ⟨Nat.le_of_dvd d0 ⟨e, he⟩, ?_⟩
  rw [h3, Int.natAbs_mul, Int.natAbs_natCast]
  exact Nat.le_mul_of_pos_right _ e0
theorem RowB.sz {b : Nat} {row : List Rat} (h : RowB b row) {v : Rat} (m : v ∈ row) : Sz b v := by
  obtain ⟨d, d0, d1, hk⟩ := h
  obtain ⟨k, e, l⟩ := hk v m
  obtain ⟨a, c⟩ := num_of e d0
  exact ⟨by omega, by omega⟩
theorem RowB.mono {b c : Nat} {row : List Rat} (h : RowB b row) (l : b ≤ c) : RowB c row := by
  obtain ⟨d, d0, d1, hk⟩ := h
  have := Nat.pow_le_pow_right (show 0 < 2 by decide) l
  exact ⟨d, d0, by omega, fun v m => by
    obtain ⟨k, e, f⟩ := hk v m
    exact ⟨k, e, by omega⟩⟩
/-- a row over one of its own numbers -/
theorem RowB.over {b : Nat} {row : List Rat} (h : RowB b row) {q : Rat} (m : q ∈ row) (q0 : q ≠ 0) : RowB b (row.map (· / q)) := by
  obtain ⟨d, d0, d1, hk⟩ := h
  obtain ⟨kq, eq, lq⟩ := hk q m
  have d0' : (d : Rat) ≠ 0 := fun z => by have : d = 0 := by exact_mod_cast z
                                          omega
  have kq0 : kq ≠ 0 := fun z => by
    rw [z] at eq
    have : q = 0 := by
      have e2 : ((0 : Int) : Rat) = 0 := rfl
      rw [e2] at eq
      grind
    exact q0 this
  refine ⟨kq.natAbs, by omega, lq, fun v hv => ?_⟩
  obtain ⟨w, hw, rfl⟩ := List.mem_map.mp hv
  obtain ⟨k, e, l⟩ := hk w hw
  have key : w / q * (kq : Rat) = (k : Rat) := by
    rw [← eq, ← e]
    grind
  by_cases s : 0 ≤ kq
  · refine ⟨k, ?_, l⟩
    have : ((kq.natAbs : Nat) : Rat) = (kq : Rat) := by
      rw [← Rat.intCast_natCast, Int.natAbs_of_nonneg s]
    rw [this]
    exact key
  · refine ⟨-k, ?_, by omega⟩
    have : ((kq.natAbs : Nat) : Rat) = (-kq : Rat) := by
      rw [← Rat.intCast_natCast, Int.ofNat_natAbs_of_nonpos (by omega), Rat.intCast_neg]
    rw [this, Rat.intCast_neg, ← key]
    grind
/-- a row less a part of another -/
theorem RowB.upd {b : Nat} {row lead : List Rat} (h : RowB b row) (hl : RowB b lead) {q : Rat} (m : q ∈ row) : RowB (2 * b + 1) ((List.zip row lead).map fun p => p.1 - q * p.2) := by
  obtain ⟨d, d0, d1, hk⟩ := h
  obtain ⟨e, e0, e1, hj⟩ := hl
  obtain ⟨kq, eq, lq⟩ := hk q m
  have hb : 2 ^ (2 * b + 1) = 2 * (2 ^ b * 2 ^ b) := by rw [Nat.pow_succ, Nat.two_mul, Nat.pow_add]; omega
  refine ⟨d * e, Nat.mul_pos d0 e0, ?_, fun v hv => ?_⟩
  · have := Nat.mul_lt_mul'' d1 e1
    omega
  · obtain ⟨p, hp, rfl⟩ := List.mem_map.mp hv
    obtain ⟨k, ek, lk⟩ := hk p.1 (List.of_mem_zip hp).1
    obtain ⟨j, ej, lj⟩ := hj p.2 (List.of_mem_zip hp).2
    refine ⟨k * e - kq * j, ?_, ?_⟩
    · rw [Rat.intCast_sub, Rat.intCast_mul, Rat.intCast_mul, ← ek, ← ej, ← eq, Rat.natCast_mul, Rat.intCast_natCast]
      grind
    · have a1 : (k * e).natAbs < 2 ^ b * 2 ^ b := by rw [Int.natAbs_mul, Int.natAbs_natCast]; exact Nat.mul_lt_mul'' lk e1
      have a2 : (kq * j).natAbs < 2 ^ b * 2 ^ b := by rw [Int.natAbs_mul]; exact Nat.mul_lt_mul'' lq lj
      omega
end LW
end

section
set_option Elab.async false
set_option linter.all false
set_option maxRecDepth 100000
set_option maxHeartbeats 1000000
set_option exponentiation.threshold 100000
set_option autoImplicit false
/-! PZ: eased and solved. -/
namespace LW
open PySem hiding run
open L2 hiding bin
open DL

abbrev Rows := List (List Rat)
def matD (rows : Rows) : D := .list (rows.map vecD)
def cell (rows : Rows) : Mat := fun i j => (rows.getD i []).getD j 0
structure Shape (n b : Nat) (rows : Rows) : Prop where
  len : rows.length = n
  row : ∀ r, r ∈ rows → r.length = n + 1
  sz : ∀ r, r ∈ rows → RowB b r
theorem Shape.get {n b : Nat} {rows : Rows} (h : Shape n b rows) {i : Nat} (hi : i < n) : rows[i]? = some (rows.getD i []) ∧ rows.getD i [] ∈ rows := by
  have hl : i < rows.length := by rw [h.len]; exact hi
  have e : rows.getD i [] = rows[i]'hl := by rw [List.getD_eq_getElem?_getD, List.getElem?_eq_getElem hl]; rfl
  rw [e]
  exact ⟨List.getElem?_eq_getElem hl, List.getElem_mem _⟩
theorem getD_ok {l : List Rat} {j : Nat} (h : j < l.length) : l[j]? = some (l.getD j 0) ∧ l.getD j 0 ∈ l := by
  have e : l.getD j 0 = l[j]'h := by rw [List.getD_eq_getElem?_getD, List.getElem?_eq_getElem h]; rfl
  rw [e]
  exact ⟨List.getElem?_eq_getElem h, List.getElem_mem _⟩
theorem Shape.cell {n b : Nat} {rows : Rows} (h : Shape n b rows) {i j : Nat} (hi : i < n) (hj : j < n + 1) : (rows.getD i [])[j]? = some (cell rows i j) ∧ cell rows i j ∈ rows.getD i [] :=
  getD_ok (by rw [h.row _ (h.get hi).2]; exact hj)
def updR (row lead : List Rat) (q : Rat) : List Rat := (List.zip row lead).map fun p => p.1 - q * p.2
theorem updR_len {row lead : List Rat} {q : Rat} (h : row.length = lead.length) : (updR row lead q).length = row.length := by
  unfold updR
  rw [List.length_map, List.length_zip, ← h]
  exact Nat.min_self _
theorem updR_get {row lead : List Rat} {q : Rat} {j : Nat} (h : j < row.length) (h2 : j < lead.length) : (updR row lead q).getD j 0 = row.getD j 0 - q * lead.getD j 0 := by
  unfold updR
  have e : (List.zip row lead)[j]? = some (row.getD j 0, lead.getD j 0) := List.getElem?_zip_eq_some.mpr ⟨(getD_ok h).1, (getD_ok h2).1⟩
  rw [List.getD_eq_getElem?_getD, List.getElem?_map, e]
  rfl
/-- the numbers but one -/
theorem range_but {n r : Nat} (h : r < n) : (List.range n).filter (fun i => decide (i ≠ r)) = List.range r ++ (List.range (n - r - 1)).map (· + (r + 1)) := by
  induction n with
  | zero => cases h
  | succ n ih =>
    rw [List.range_succ, List.filter_append]
    by_cases c : r = n
    · subst c
      have e1 : (List.range r).filter (fun i => decide (i ≠ r)) = List.range r := List.filter_eq_self.mpr fun a m => by
        have := List.mem_range.mp m
        exact decide_eq_true (by omega)
      have e2 : [r].filter (fun i => decide (i ≠ r)) = [] := by simp
      have e3 : r + 1 - r - 1 = 0 := by omega
      rw [e1, e2, e3]
      rfl
    · rw [ih (by omega)]
      have e2 : [n].filter (fun i => decide (i ≠ r)) = [n] := by simp; omega
      have e3 : n + 1 - r - 1 = (n - r - 1) + 1 := by omega
      have e4 : n - r - 1 + (r + 1) = n := by omega
      rw [e2, e3, List.range_succ, List.map_append, List.append_assoc, List.map_cons, List.map_nil, e4]
theorem but_get {n r i : Nat} (h : r < n) (hi : i < n - 1) : ((List.range n).filter (fun i => decide (i ≠ r)))[i]? = some (if i < r then i else i + 1) := by
  rw [range_but h]
  by_cases c : i < r
  · rw [if_pos c, List.getElem?_append_left (by rw [List.length_range]; exact c), List.getElem?_range c]
  · rw [if_neg c, List.getElem?_append_right (by rw [List.length_range]; omega), List.length_range, List.getElem?_map, List.getElem?_range (by omega)]
    show some (i - r + (r + 1)) = _
    congr 1
    omega
theorem but_len {n r : Nat} (h : r < n) : ((List.range n).filter (fun i => decide (i ≠ r))).length = n - 1 := by
  rw [range_but h, List.length_append, List.length_map, List.length_range, List.length_range]
  omega
def leadOf (rows : Rows) (p r : Nat) : List Rat := (rows.getD r []).map (· / cell rows r p)
def restOf (rows : Rows) (p r : Nat) (is : List Nat) : Rows := is.map fun i => updR (rows.getD i []) (leadOf rows p r) (cell rows i p)
def easeR (rows : Rows) (p r : Nat) : Rows :=
  ((restOf rows p r ((List.range rows.length).filter fun i => decide (i ≠ r))).take p ++ [leadOf rows p r]) ++ (restOf rows p r ((List.range rows.length).filter fun i => decide (i ≠ r))).drop p
section
variable {n b : Nat} {rows : Rows} {p r : Nat}
theorem ease_get (h : Shape n b rows) (hp : p < n) (hr : r < n) (hpr : p ≤ r) {i : Nat} (hi : i < n) :
    (easeR rows p r)[i]? = some (if i = p then leadOf rows p r else updR (rows.getD (src p r i) []) (leadOf rows p r) (cell rows (src p r i) p)) := by
  unfold easeR
  rw [h.len]
  have hlen : (restOf rows p r ((List.range n).filter fun i => decide (i ≠ r))).length = n - 1 := by
    unfold restOf
    rw [List.length_map, but_len hr]
  have htake : ((restOf rows p r ((List.range n).filter fun i => decide (i ≠ r))).take p).length = p := by
    rw [List.length_take, hlen]
    omega
  have hget : ∀ k, k < n - 1 → (restOf rows p r ((List.range n).filter fun i => decide (i ≠ r)))[k]? = some (updR (rows.getD (if k < r then k else k + 1) []) (leadOf rows p r) (cell rows (if k < r then k else k + 1) p)) := by
    intro k hk
    unfold restOf
    rw [List.getElem?_map, but_get hr hk]
    rfl
  by_cases c1 : i < p
  · rw [List.getElem?_append_left (by rw [List.length_append, htake, List.length_singleton]; omega), List.getElem?_append_left (by rw [htake]; exact c1), List.getElem?_take_of_lt c1, hget i (by omega)]
    have e : src p r i = i := if_neg (by omega)
    have e1 : (if i < r then i else i + 1) = i := if_pos (by omega)
    have e2 : ¬ i = p := by omega
    rw [e, e1, if_neg e2]
  · by_cases c2 : i = p
    · subst c2
      rw [if_pos rfl, List.getElem?_append_left (by rw [List.length_append, htake, List.length_singleton]; omega), List.getElem?_append_right (by rw [htake]; exact Nat.le_refl _), htake, Nat.sub_self]
      rfl
    · rw [if_neg c2, List.getElem?_append_right (by rw [List.length_append, htake, List.length_singleton]; omega), List.length_append, htake, List.length_singleton, List.getElem?_drop]
      have e0 : p + (i - (p + 1)) = i - 1 := by omega
      rw [e0, hget (i - 1) (by omega)]
      have e : (if i - 1 < r then i - 1 else i - 1 + 1) = src p r i := by
        unfold src
        split <;> split <;> omega
      rw [e]
theorem ease_len (h : Shape n b rows) (hp : p < n) (hr : r < n) : (easeR rows p r).length = n := by
  unfold easeR restOf
  rw [h.len, List.length_append, List.length_append, List.length_take, List.length_drop, List.length_map, but_len hr, List.length_singleton]
  omega
theorem lead_len (h : Shape n b rows) (hr : r < n) : (leadOf rows p r).length = n + 1 := by
  unfold leadOf
  rw [List.length_map, h.row _ (h.get hr).2]
theorem lead_sz (h : Shape n b rows) (hp : p < n) (hr : r < n) (h0 : cell rows r p ≠ 0) : RowB b (leadOf rows p r) := (h.sz _ (h.get hr).2).over (h.cell hr (by omega)).2 h0
theorem ease_cell (h : Shape n b rows) (hp : p < n) (hr : r < n) (hpr : p ≤ r) {i j : Nat} (hi : i < n) (hj : j < n + 1) : cell (easeR rows p r) i j = easeF (cell rows) p r i j := by
  have hlead : (leadOf rows p r).getD j 0 = cell rows r j / cell rows r p := by
    unfold leadOf
    rw [List.getD_eq_getElem?_getD, List.getElem?_map, (h.cell hr hj).1]
    rfl
  have e9 : (easeR rows p r).getD i [] = if i = p then leadOf rows p r else updR (rows.getD (src p r i) []) (leadOf rows p r) (cell rows (src p r i) p) := by
    rw [List.getD_eq_getElem?_getD, ease_get h hp hr hpr hi]
    rfl
  show ((easeR rows p r).getD i []).getD j 0 = _
  rw [e9]
  unfold easeF
  by_cases c : i = p
  · rw [if_pos c, if_pos c]
    exact hlead
  · rw [if_neg c, if_neg c]
    have hs : src p r i < n := by unfold src; split <;> omega
    show (updR _ _ _).getD j 0 = _
    rw [updR_get (by rw [h.row _ (h.get hs).2]; exact hj) (by rw [lead_len h hr]; exact hj), hlead]
    rfl
theorem ease_shape (h : Shape n b rows) (hp : p < n) (hr : r < n) (hpr : p ≤ r) (h0 : cell rows r p ≠ 0) : Shape n (2 * b + 1) (easeR rows p r) := by
  have key : ∀ row, row ∈ easeR rows p r → row.length = n + 1 ∧ RowB (2 * b + 1) row := by
    intro row m
    obtain ⟨i, hi, e⟩ := List.mem_iff_getElem.mp m
    have hi' : i < n := by rw [ease_len h hp hr] at hi; exact hi
    have e2 := ease_get h hp hr hpr hi'
    rw [List.getElem?_eq_getElem hi, e] at e2
    have e3 := Option.some.inj e2
    by_cases c : i = p
    · rw [if_pos c] at e3
      rw [e3]
      exact ⟨lead_len h hr, (lead_sz h hp hr h0).mono (by omega)⟩
    · rw [if_neg c] at e3
      have hs : src p r i < n := by unfold src; split <;> omega
      have hm := (h.get hs).2
      rw [e3]
      exact ⟨by rw [updR_len (by rw [h.row _ hm, lead_len h hr]), h.row _ hm], (h.sz _ hm).upd (lead_sz h hp hr h0) (h.cell hs (by omega)).2⟩
  exact ⟨ease_len h hp hr, fun row m => (key row m).1, fun row m => (key row m).2⟩
end

/-! ### the program's eased -/
theorem ix_mat {n b : Nat} {rows : Rows} (h : Shape n b rows) {i : Nat} (hi : i < n) : dIx (matD rows) (.int i) = some (vecD (rows.getD i [])) := ix_list (by rw [List.getElem?_map, (h.get hi).1]; rfl)
theorem len_mat (rows : Rows) : dLen (matD rows) = some (.int rows.length) := by
  show some (PyData.int _) = _
  rw [List.length_map]
theorem ix_cell {n b : Nat} {rows : Rows} (h : Shape n b rows) {i j : Nat} (hi : i < n) (hj : j < n + 1) : dIx (vecD (rows.getD i [])) (.int j) = some (fr (cell rows i j)) := ix_vec (h.cell hi hj).1
theorem cut_take (l : List D) (p : Nat) : dSl (.list l) none (some (p : Int)) = some (.list (l.take p)) := by
  show some (PyData.list (cutD l none (some (p : Int)))) = _
  unfold cutD
  rw [HT.sIx_none, HT.sIx_nat, List.drop_zero, Nat.sub_zero]
  by_cases c : p ≤ l.length
  · rw [Nat.min_eq_left c]
  · rw [Nat.min_eq_right (by omega), List.take_of_length_le (Nat.le_refl _), List.take_of_length_le (by omega)]
theorem cut_drop (l : List D) (p : Nat) : dSl (.list l) (some (p : Int)) none = some (.list (l.drop p)) := by
  show some (PyData.list (cutD l (some (p : Int)) none)) = _
  unfold cutD
  rw [HT.sIx_none, HT.sIx_nat]
  by_cases c : p ≤ l.length
  · rw [Nat.min_eq_left c, List.take_of_length_le (by rw [List.length_drop]; exact Nat.le_refl _)]
  · rw [Nat.min_eq_right (by omega), List.drop_of_length_le (Nat.le_refl _), List.drop_of_length_le (by omega), List.take_nil]
theorem slc_ok {f : Ex} {pl ph : Px} {ρ : Rho} {d e : D} {lo hi : Option Int} (hf : f ρ = .ok d) (hl : pl ρ = .ok lo) (hh : ph ρ = .ok hi) (h : dSl d lo hi = some e) : slc f pl ph ρ = .ok e := by
  unfold slc
  rw [hf]
  show (pl ρ).bind _ = _
  rw [hl]
  show (ph ρ).bind _ = _
  rw [hh]
  show ofO (dSl d lo hi) = _
  rw [h]
  rfl
theorem pIs_ok {f : Ex} {ρ : Rho} {i : Int} (h : f ρ = .ok (.int i)) : pIs f ρ = .ok (some i) := by
  unfold pIs
  rw [h]
  rfl
theorem add_ll {xs ys : List D} (h : xs.length + ys.length ≤ 1000) : dAdd (.list xs) (.list ys) = some (.list (xs ++ ys)) := if_pos (line_small h)
theorem ints_shaped {α : Type} (enc : α → Nat) (l : List α) : SeqAt.shaped (.list (l.map fun i => PyData.int (enc i : Nat))) = true := (sh_map (n := 0) (fun i => sh_int (enc i : Nat)) l).shaped
theorem ints_nil {α : Type} (enc : α → Nat) (l : List α) : dEq (.list (l.map fun i => PyData.int (enc i : Nat))) (.list []) = some (.bool l.isEmpty) := by
  have h2 : SeqAt.shaped (.list []) = true := ints_shaped enc []
  rw [dEq_list (ints_shaped enc l) h2]
  cases l <;> simp [PyData.eqv, PyData.eqvAll]
theorem lessG' {a b : Rat} {n m k : Nat} (ha : Sz n a) (hb : Sz m b) (hk : b.den < 2 ^ k) (h9 : n + k ≤ 9000) (h : n + m ≤ 900000 := by omega) (hn : 0 < n := by omega) (hm : 0 < m := by omega) : m_less [fr a, fr b] = .ok (fr (a - b)) :=
  lessG ha hb (Nat.lt_of_lt_of_le (mul_lt ha.2 hk) (Nat.pow_le_pow_right (by decide) h9)) h hn hm
theorem mul_le (a b : Rat) : (a * b).den ≤ a.den * b.den ∧ (a * b).num.natAbs ≤ a.num.natAbs * b.num.natAbs := by
  have e : (a * b) * ((a.den * b.den : Nat) : Rat) = ((a.num * b.num : Int) : Rat) := by
    rw [Rat.natCast_mul, Rat.intCast_mul, ← mul_den_num a, ← mul_den_num b]
    grind
  have := num_of e (Nat.mul_pos (Nat.pos_of_ne_zero a.den_nz) (Nat.pos_of_ne_zero b.den_nz))
  rwa [Int.natAbs_mul] at this
theorem Sz.mul {a b : Rat} {n m : Nat} (ha : Sz n a) (hb : Sz m b) : Sz (n + m) (a * b) :=
  ⟨Nat.lt_of_le_of_lt (mul_le a b).2 (mul_lt ha.1 hb.1), Nat.lt_of_le_of_lt (mul_le a b).1 (mul_lt ha.2 hb.2)⟩
theorem eased_ok {n b : Nat} {rows : Rows} {p : Nat} (h : Shape n b rows) (hb : 0 < b) (hb2 : 3 * b ≤ 9000) (hn : n ≤ 100) (hp : p < n) (hpiv : ∃ r, p ≤ r ∧ r < n ∧ cell rows r p ≠ 0) :
    ∃ r, p ≤ r ∧ r < n ∧ cell rows r p ≠ 0 ∧ m_eased [matD rows, .int p] = .ok (matD (easeR rows p r)) := by
  let keep : Nat → Bool := fun i => !decide (cell rows (p + i) p = 0)
  cases hf : (List.range (n - p)).filter keep with
  | nil =>
    obtain ⟨r, a1, a2, a3⟩ := hpiv
    have : r - p ∈ (List.range (n - p)).filter keep := List.mem_filter.mpr ⟨List.mem_range.mpr (by omega), by
      show (!decide (cell rows (p + (r - p)) p = 0)) = true
      rw [Nat.add_sub_cancel' a1, decide_eq_false a3]
      rfl⟩
    rw [hf] at this
    cases this
  | cons k ks =>
    have hk : k ∈ (List.range (n - p)).filter keep := by rw [hf]; exact List.mem_cons_self
    obtain ⟨hk1, hk2⟩ := List.mem_filter.mp hk
    have hkn : p + k < n := by have := List.mem_range.mp hk1; omega
    have hk0 : cell rows (p + k) p ≠ 0 := fun z => by
      have : (!decide (cell rows (p + k) p = 0)) = true := hk2
      rw [decide_eq_true z] at this
      cases this
    refine ⟨p + k, by omega, hkn, hk0, run_rt ?_⟩
    show gSeq _ _ [some (matD rows), some (.int p), none, none, none, none, none, none, none] = _
    have e1 := comp_ok (vs := [5]) (tg := .nm 5) (fi := itR2 (rd 1) (un (rd 0) dLen)) (ft := asB (bin (bin (bin (rd 0) (rd 5) dIx) (rd 1) dIx) (kc (.tuple [.int 0, .int 1])) dNe)) (fe := rd 5) (ρ := [some (matD rows), some (.int p), none, none, none, none, none, none, none])
      (fun i : Nat => PyData.int ((p + i : Nat) : Int)) keep (fun i : Nat => PyData.int ((p + i : Nat) : Int)) (List.range (n - p)) (by rw [List.length_range]; exact line_small (by omega)) (itR2_nat (n := n) rfl (un_ok rfl (by rw [len_mat, h.len])) (by omega) (by omega)) (fun i hi => by
        have hin : p + i < n := by have := List.mem_range.mp hi; omega
        exact ⟨[some (matD rows), some (.int p), none, none, none, some (.int ((p + i : Nat) : Int)), none, none, none], rfl, asB_ok (bin_ok (bin_ok (bin_ok rfl rfl (ix_mat h hin)) rfl (ix_cell h hin (by omega))) rfl (eqv0 _)), fun _ => rfl⟩)
    rw [hf] at e1
    refine (gSeq_nx (gSet_ok e1)).trans ?_
    refine (gSeq_nx (gIf_s (asB_ok (bin_ok rfl (mkLst_ok rfl rfl) (ints_nil (fun i => p + i) (k :: ks)))))).trans ?_
    -- the row that leads
    generalize hq : ((k :: ks).map fun i : Nat => PyData.int ((p + i : Nat) : Int)) = sm
    have hs0 : dIx (.list sm) (.int 0) = some (.int ((p + k : Nat) : Int)) := by rw [← hq]; exact atI0 _ _
    have hrow := h.row _ (h.get hkn).2
    have e2 := comp_ok (vs := [7]) (tg := .nm 7) (fi := itS (bin (rd 0) (bin (rd 2) (kc (.int 0)) dIx) dIx)) (ft := yes) (fe := callD 2 m_over (aCons (rd 7) (aCons (bin (bin (rd 0) (bin (rd 2) (kc (.int 0)) dIx) dIx) (rd 1) dIx) aNil))) (ρ := [some (matD rows), some (.int p), some (.list sm), none, none, none, none, none, none])
      fr (fun _ => true) (fun v => fr (v / cell rows (p + k) p)) (rows.getD (p + k) []) (line_small (by omega)) (itS_list (bin_ok rfl (bin_ok rfl rfl hs0) (ix_mat h hkn))) (fun v hv =>
        ⟨[some (matD rows), some (.int p), some (.list sm), none, none, none, none, some (fr v), none], rfl, rfl, fun _ => (call2 rfl (bin_ok (bin_ok rfl (bin_ok rfl rfl hs0) (ix_mat h hkn)) rfl (ix_cell h hkn (by omega)))).trans (overG ((h.sz _ (h.get hkn).2).sz hv) ((h.sz _ (h.get hkn).2).sz (h.cell hkn (by omega)).2) hk0 (by omega))⟩)
    rw [filter_yes] at e2
    have e3 : (PyData.list ((rows.getD (p + k) []).map fun v => fr (v / cell rows (p + k) p))) = vecD (leadOf rows p (p + k)) := by
      unfold vecD leadOf
      rw [List.map_map]
      rfl
    rw [e3] at e2
    refine (gSeq_nx (gSet_ok e2)).trans ?_
    refine (gSeq_nx (gSet_ok (mkLst_ok rfl rfl))).trans ?_
    have hl := lead_len (p := p) h hkn
    have hlz := lead_sz h hp hkn hk0
    obtain ⟨ρ1, e4, c5, c6, h1⟩ := forL_pre (tg := .nm 5) (g := gIf (asB (bin (rd 5) (bin (rd 2) (kc (.int 0)) dIx) dNe)) (gSeq (gSet 6 (bin (bin (rd 0) (rd 5) dIx) (rd 1) dIx)) (gApp 4 (comp [7, 8] (.tp [7, 8]) (itY (bin (rd 0) (rd 5) dIx) (rd 3)) yes (callD 2 m_less (aCons (rd 7) (aCons (callD 2 m_times (aCons (rd 6) (aCons (rd 8) aNil))) aNil)))))) gSkip)
      (fun i : Nat => PyData.int i) (fun pre ρ => ∃ c5 c6, ρ = [some (matD rows), some (.int p), some (.list sm), some (vecD (leadOf rows p (p + k))), some (matD (restOf rows p (p + k) (pre.filter fun i => decide (i ≠ p + k)))), c5, c6, none, none]) (List.range n) (fun pre i post ρ e hp2 => by
        obtain ⟨c5, c6, rfl⟩ := hp2
        have hi : i < n := by have : i ∈ List.range n := (by rw [e]; exact List.mem_append_right _ List.mem_cons_self); exact List.mem_range.mp this
        have hpre : pre.length < n := by
          have := congrArg List.length e
          rw [List.length_range, List.length_append, List.length_cons] at this
          omega
        refine ⟨[some (matD rows), some (.int p), some (.list sm), some (vecD (leadOf rows p (p + k))), some (matD (restOf rows p (p + k) (pre.filter fun i => decide (i ≠ p + k)))), some (.int i), c6, none, none], ?_⟩
        by_cases c : i = p + k
        · refine ⟨[some (matD rows), some (.int p), some (.list sm), some (vecD (leadOf rows p (p + k))), some (matD (restOf rows p (p + k) (pre.filter fun i => decide (i ≠ p + k)))), some (.int i), c6, none, none], rfl, gIf_s (asB_ok (bin_ok rfl (bin_ok rfl rfl hs0) ?_)), some (.int i), c6, ?_⟩
          · rw [ne_int, c]
            simp
          · rw [List.filter_append, List.filter_cons_of_neg (by simp [c]), List.filter_nil, List.append_nil]
        · refine ⟨[some (matD rows), some (.int p), some (.list sm), some (vecD (leadOf rows p (p + k))), some (matD (restOf rows p (p + k) ((pre ++ [i]).filter fun i => decide (i ≠ p + k)))), some (.int i), some (fr (cell rows i p)), none, none], rfl, (gIf_t (asB_ok (bin_ok rfl (bin_ok rfl rfl hs0) ?_))).trans ?_, some (.int i), some (fr (cell rows i p)), rfl⟩
          · rw [ne_int]
            have : ((i : Int) == ((p + k : Nat) : Int)) = false := by
              rw [beq_eq_false_iff_ne]
              omega
            rw [this]
            rfl
          · refine (gSeq_nx (gSet_ok (bin_ok (bin_ok rfl rfl (ix_mat h hi)) rfl (ix_cell h hi (by omega))))).trans ?_
            have hz := h.sz _ (h.get hi).2
            have hq2 := hz.sz (h.cell hi (j := p) (by omega)).2
            have e5 := comp_ok (vs := [7, 8]) (tg := .tp [7, 8]) (fi := itY (bin (rd 0) (rd 5) dIx) (rd 3)) (ft := yes) (fe := callD 2 m_less (aCons (rd 7) (aCons (callD 2 m_times (aCons (rd 6) (aCons (rd 8) aNil))) aNil)))
              (ρ := [some (matD rows), some (.int p), some (.list sm), some (vecD (leadOf rows p (p + k))), some (matD (restOf rows p (p + k) (pre.filter fun i => decide (i ≠ p + k)))), some (.int i), some (fr (cell rows i p)), none, none])
              (fun q : Rat × Rat => PyData.tuple [fr q.1, fr q.2]) (fun _ => true) (fun q => fr (q.1 - cell rows i p * q.2)) (List.zip (rows.getD i []) (leadOf rows p (p + k))) (by rw [List.length_zip, h.row _ (h.get hi).2, hl, Nat.min_self]; exact line_small (by omega))
              ((itZ_list (xs := (rows.getD i []).map fr) (ys := (leadOf rows p (p + k)).map fr) (bin_ok rfl rfl (ix_mat h hi)) rfl).trans (by rw [zip_fr])) (fun q hq3 => by
                have m1 := (List.of_mem_zip hq3).1
                have m2 := (List.of_mem_zip hq3).2
                have hd : (cell rows i p * q.2).den < 2 ^ (b + b) := (Sz.mul hq2 (hlz.sz m2)).2
                exact ⟨[some (matD rows), some (.int p), some (.list sm), some (vecD (leadOf rows p (p + k))), some (matD (restOf rows p (p + k) (pre.filter fun i => decide (i ≠ p + k)))), some (.int i), some (fr (cell rows i p)), some (fr q.1), some (fr q.2)], rfl, rfl, fun _ => (call2 rfl ((call2 rfl rfl).trans (timesG hq2 (hlz.sz m2) (Nat.lt_of_lt_of_le (mul_lt hq2.2 (hlz.sz m2).2) (Nat.pow_le_pow_right (by decide) (by omega))))))|>.trans (lessG' (hz.sz m1) (Sz.mul hq2 (hlz.sz m2)) hd (by omega))⟩)
            rw [filter_yes] at e5
            have e6 : (PyData.list ((List.zip (rows.getD i []) (leadOf rows p (p + k))).map fun q => fr (q.1 - cell rows i p * q.2))) = vecD (updR (rows.getD i []) (leadOf rows p (p + k)) (cell rows i p)) := by
              unfold vecD updR
              rw [List.map_map]
              rfl
            rw [e6] at e5
            refine (gApp_ok e5 rfl ?_).trans ?_
            · unfold restOf
              rw [List.length_map, List.length_map]
              have := List.length_filter_le (fun i => decide (i ≠ p + k)) pre
              omega
            · rw [List.filter_append, List.filter_cons_of_pos (by simp [c]), List.filter_nil]
              unfold restOf
              rw [List.map_append]
              unfold matD
              rw [List.map_append]
              rfl)
      (ρ := [some (matD rows), some (.int p), some (.list sm), some (vecD (leadOf rows p (p + k))), some (.list []), none, none, none, none]) ⟨none, none, rfl⟩
    refine (gSeq_nx (gFor_nx (itR1_nat (n := n) (un_ok rfl (by rw [len_mat, h.len])) (by omega)) e4)).trans ?_
    subst h1
    have hlen : (restOf rows p (p + k) ((List.range n).filter fun i => decide (i ≠ p + k))).length = n - 1 := by
      unfold restOf
      rw [List.length_map, but_len hkn]
    have e7 : matD (easeR rows p (p + k)) = .list (((restOf rows p (p + k) ((List.range n).filter fun i => decide (i ≠ p + k))).map vecD).take p ++ [vecD (leadOf rows p (p + k))] ++ ((restOf rows p (p + k) ((List.range n).filter fun i => decide (i ≠ p + k))).map vecD).drop p) := by
      unfold matD easeR
      rw [h.len, List.map_append, List.map_append, List.map_take, List.map_drop]
      rfl
    rw [e7]
    refine gRet_ok (bin_ok (bin_ok (slc_ok rfl rfl (pIs_ok rfl) (cut_take _ _)) (mkLst_ok (aCons_ok rfl rfl) rfl) (add_ll ?_)) (slc_ok rfl (pIs_ok rfl) rfl (cut_drop _ _)) (add_ll ?_))
    · rw [List.length_take, List.length_map, hlen, List.length_singleton]
      omega
    · rw [List.length_append, List.length_take, List.length_drop, List.length_map, hlen, List.length_singleton]
      omega
end LW
end

section
set_option Elab.async false
set_option linter.all false
set_option maxRecDepth 100000
set_option maxHeartbeats 1000000
set_option exponentiation.threshold 100000
set_option autoImplicit false
/-! PQ: solved. -/
namespace LW
open PySem hiding run
open L2 hiding bin
open DL

def bb (b : Nat) : Nat → Nat
  | 0 => b
  | k + 1 => 2 * bb b k + 1
theorem bb_pos {b : Nat} (h : 0 < b) : ∀ k, 0 < bb b k
  | 0 => h
  | k + 1 => Nat.succ_pos _
theorem bb_mono (b : Nat) : ∀ {k m : Nat}, k ≤ m → bb b k ≤ bb b m := by
  intro k m h
  induction h with
  | refl => exact Nat.le_refl _
  | step _ ih => exact Nat.le_trans ih (by show _ ≤ 2 * _ + 1; omega)
theorem null_congr {n : Nat} {c d : Mat} (h : ∀ i j, i < n → j < n + 1 → c i j = d i j) (X : Nat → Rat) : Null n c X ↔ Null n d X := by
  constructor
  · intro k i hi
    rw [← k i hi]
    exact S_congr fun j hj => by rw [h i j hi hj]
  · intro k i hi
    rw [← k i hi]
    exact S_congr fun j hj => by rw [h i j hi hj]
theorem ix_last {l : List D} {d : D} (h : l[l.length - 1]? = some d) (h0 : 0 < l.length) : dIx (.list l) (.int (-1)) = some d := by
  show atI l (-1) = some d
  unfold atI
  have e : ixN l.length (-1) = some (l.length - 1) := by
    show (if (0 : Int) ≤ -1 then _ else _) = _
    rw [if_neg (by omega)]
    show (if _ then _ else _) = _
    rw [if_pos (by omega)]
    congr 1
    omega
  rw [e]
  exact h
theorem solved_ok {n b : Nat} {rows : Rows} (h : Shape n b rows) (hb : 0 < b) (hb2 : 3 * bb b (n - 1) ≤ 9000) (hn : n ≤ 100) (f : Firm n (cell rows)) :
    ∃ x : List Rat, x.length = n ∧ m_solved [matD rows] = .ok (vecD x) ∧ (∀ i, i < n → S n (fun j => cell rows i j * x.getD j 0) = cell rows i n) ∧ ∀ q, q ∈ x → Sz (bb b n) q := by
  obtain ⟨ρ1, e1, rows', c, h1, sh, uu, nu⟩ := forL_pre (tg := .nm 2) (g := gSet 1 (callD 2 m_eased (aCons (rd 1) (aCons (rd 2) aNil)))) (fun i : Nat => PyData.int i)
    (fun pre ρ => ∃ rows' c, ρ = [some (matD rows), some (matD rows'), c, none] ∧ Shape n (bb b pre.length) rows' ∧ UnitTo n pre.length (cell rows') ∧ ∀ X, Null n (cell rows') X ↔ Null n (cell rows) X) (List.range n) (fun pre p post ρ e hp => by
      obtain ⟨rows', c, rfl, sh, uu, nu⟩ := hp
      have hpl : pre.length = p ∧ p < n := by
        have e2 : (List.range n)[pre.length]? = some p := by rw [e, List.getElem?_append_right (Nat.le_refl _), Nat.sub_self]; rfl
        have hl := congrArg List.length e
        rw [List.length_range, List.length_append, List.length_cons] at hl
        rw [List.getElem?_range (by omega)] at e2
        have := Option.some.inj e2
        omega
      obtain ⟨hpl, hpn⟩ := hpl
      rw [hpl] at sh uu
      have hmono := bb_mono b (show p ≤ n - 1 by omega)
      obtain ⟨r, r1, r2, r3, er⟩ := eased_ok sh (bb_pos hb p) (by omega) hn hpn (pivot_is hpn uu (firm_of nu f))
      have hc := fun i j (hi : i < n) (hj : j < n + 1) => ease_cell sh hpn r2 r1 hi hj
      refine ⟨_, _, rfl, gSet_ok ((call2 rfl rfl).trans er), easeR rows' p r, some (.int p), rfl, ?_, ?_, fun X => ?_⟩
      · rw [List.length_append, hpl]
        exact ease_shape sh hpn r2 r1 r3
      · rw [List.length_append, hpl]
        intro i j hi hj
        have hj : j < p + 1 := hj
        rw [hc i j hi (by omega)]
        exact ease_unit hpn r2 r1 r3 uu i j hi hj
      · exact (null_congr hc X).trans ((ease_null hpn r2 r1 r3 X).trans (nu X)))
    (ρ := [some (matD rows), some (matD rows), none, none]) ⟨rows, none, rfl, h, fun i j _ hj => absurd hj (Nat.not_lt_zero _), fun X => Iff.rfl⟩
  rw [List.length_range] at sh uu
  refine ⟨rows'.map fun row => row.getD n 0, by rw [List.length_map]; exact sh.len, run_rt ?_, fun i hi => ?_, fun q hq => ?_⟩
  · show gSeq _ _ [some (matD rows), none, none, none] = _
    refine (gSeq_nx (gSet_ok rfl)).trans ?_
    refine (gSeq_nx (gFor_nx (itR1_nat (n := n) (un_ok rfl (by rw [len_mat, h.len])) (by omega)) e1)).trans ?_
    subst h1
    have e2 := comp_ok (vs := [3]) (tg := .nm 3) (fi := itS (rd 1)) (ft := yes) (fe := bin (rd 3) (un (kc (.int 1)) dNeg) dIx) (ρ := [some (matD rows), some (matD rows'), c, none]) vecD (fun _ => true) (fun row => fr (row.getD n 0)) rows' (by rw [sh.len]; exact line_small (by omega)) (itS_list rfl) (fun row hrow => ⟨[some (matD rows), some (matD rows'), c, some (vecD row)], rfl, rfl, fun _ => bin_ok rfl rfl (by
      have hl := sh.row row hrow
      refine ix_last (l := row.map fr) ?_ (by rw [List.length_map]; omega)
      rw [List.length_map, hl, Nat.add_sub_cancel, List.getElem?_map, (getD_ok (by omega)).1]
      rfl)⟩)
    rw [filter_yes] at e2
    rw [gRet_ok e2]
    unfold vecD
    rw [List.map_map]
    rfl
  · have hx : ∀ j, j < n → (rows'.map fun row => row.getD n 0).getD j 0 = cell rows' j n := by
      intro j hj
      rw [List.getD_eq_getElem?_getD, List.getElem?_map, (sh.get hj).1]
      rfl
    have hnull := (nu _).mp (unit_sol uu)
    have := null_eqs hnull i hi
    rw [← this]
    exact S_congr fun j hj => by rw [hx j hj]
  · obtain ⟨row, hrow, rfl⟩ := List.mem_map.mp hq
    exact (sh.sz row hrow).sz (getD_ok (by rw [sh.row row hrow]; omega)).2
end LW
end

section
set_option Elab.async false
set_option linter.all false
set_option maxRecDepth 100000
set_option maxHeartbeats 1000000
set_option exponentiation.threshold 100000
set_option autoImplicit false
/-! PC: which rooms can be come to: can_come, and the law's ahead. -/
namespace LW
open PySem hiding run
open L2 hiding bin
open DL

/-- a while by a number that falls -/
theorem gWh_fall {T : Type} {c : Tx} {g : Gx} (I : T → Rho → Prop) (μ : T → Nat) (Post : Rho → Prop)
    (h : ∀ s ρ, I s ρ → (c ρ = .ok false ∧ Post ρ) ∨ (c ρ = .ok true ∧ ∃ s' ρ', g ρ = .nx ρ' ∧ I s' ρ' ∧ μ s' < μ s)) : ∀ s ρ, I s ρ → ∃ ρ', gWh c g ρ = .nx ρ' ∧ Post ρ' := by
  have key : ∀ (m : Nat) s ρ, μ s ≤ m → I s ρ → ∃ n ρ', whN c g n ρ = .nx ρ' ∧ Post ρ' := by
    intro m
    induction m with
    | zero =>
      intro s ρ hm hi
      rcases h s ρ hi with ⟨e, p⟩ | ⟨e, s', ρ', _, _, lt⟩
      · refine ⟨1, ρ, ?_, p⟩
        unfold whN
        rw [e]
        rfl
      · omega
    | succ m ih =>
      intro s ρ hm hi
      rcases h s ρ hi with ⟨e, p⟩ | ⟨e, s', ρ', eg, i', lt⟩
      · refine ⟨1, ρ, ?_, p⟩
        unfold whN
        rw [e]
        rfl
      · obtain ⟨n, ρ2, e2, p2⟩ := ih s' ρ' (by omega) i'
        refine ⟨n + 1, ρ2, ?_, p2⟩
        unfold whN
        rw [e]
        show (match g ρ with | .nx ρ' => whN c g n ρ' | o => o) = _
        rw [eg]
        exact e2
  intro s ρ hi
  obtain ⟨n, ρ', e, p⟩ := key (μ s) s ρ (Nat.le_refl _) hi
  exact ⟨ρ', by rw [gWh_of (n := n) (by rw [e]; intro z; cases z), e], p⟩
def intsD (l : List Nat) : D := .list (l.map fun k => PyData.int (k : Nat))
def fdL (l : List Nat) : List (D × D) := l.map fun k => (PyData.int (k : Nat), PyData.bool true)
theorem isDic_fd (l : List Nat) : isDic (fdL l) = true := by cases l <;> rfl
theorem key_eq (a k : Nat) : decide (keyOf (PyData.int (a : Int)) = some (Sum.inl (k : Int))) = decide (a = k) := by
  rw [keyOf_int]
  by_cases h : a = k
  · subst h; simp
  · have : ¬ (a : Int) = k := by omega
    simp [h, this]
theorem fd_has (l : List Nat) (k : Nat) : dHas (.int k) (.dict (fdL l)) = some (decide (k ∈ l)) := by
  show (if isDic (fdL l) = true then some (lookD (fdL l) (.inl (k : Int))).isSome else none) = _
  rw [if_pos (isDic_fd l)]
  congr 1
  unfold lookD fdL
  rw [Option.isSome_map]
  induction l with
  | nil => rfl
  | cons a r ih =>
    rw [List.map_cons, List.find?_cons]
    show (match decide (keyOf (PyData.int (a : Int)) = some (Sum.inl (k : Int))) with | true => _ | false => _ : Option (D × D)).isSome = _
    rw [key_eq]
    by_cases h : a = k
    · subst h; simp
    · rw [decide_eq_false h]
      show Option.isSome _ = _
      rw [ih]
      have : ¬ k = a := fun z => h z.symm
      simp [this]
theorem in_fd (l : List Nat) (k : Nat) : dIn (.int k) (.dict (fdL l)) = some (.bool (decide (k ∈ l))) := by
  unfold dIn
  rw [fd_has]
  rfl
theorem notIn_fd (l : List Nat) (k : Nat) : dNotIn (.int k) (.dict (fdL l)) = some (.bool (!decide (k ∈ l))) := by
  unfold dNotIn
  rw [fd_has]
  rfl
theorem put_fd (l : List Nat) (k : Nat) (h : k ∉ l) : putD (fdL l) (.inl (k : Int)) (.bool true) = fdL (l ++ [k]) := by
  unfold putD
  have e : ((fdL l).any fun p => decide (keyOf p.1 = some (Sum.inl (k : Int)))) = false := by
    unfold fdL
    rw [List.any_map, Bool.eq_false_iff]
    intro z
    obtain ⟨a, ha, e⟩ := List.any_eq_true.mp z
    have e : decide (keyOf (PyData.int (a : Int)) = some (Sum.inl (k : Int))) = true := e
    rw [key_eq] at e
    exact h (of_decide_eq_true e ▸ ha)
  rw [e]
  unfold fdL
  rw [List.map_append]
  rfl
theorem ints_has (l : List Nat) (k : Nat) : dHas (.int k) (intsD l) = some (decide (k ∈ l)) := by
  have h1 : SeqAt.shaped (.int (k : Int)) = true := (sh_int k).shaped
  have h2 : SeqAt.shaped (intsD l) = true := (sh_map (n := 0) (fun i : Nat => sh_int (i : Nat)) l).shaped
  show (if SeqAt.shaped (.int (k : Int)) = true ∧ SeqAt.shaped (intsD l) = true then some ((l.map fun i => PyData.int (i : Nat)).any fun z => PyData.eqv z (.int k)) else none) = _
  rw [if_pos ⟨h1, h2⟩, List.any_map]
  congr 1
  rw [Bool.eq_iff_iff, List.any_eq_true, decide_eq_true_iff]
  constructor
  · rintro ⟨a, ha, e⟩
    have e : PyData.eqv (.int (a : Int)) (.int k) = true := e
    rw [eqv_int] at e
    have := of_decide_eq_true e
    have : a = k := by omega
    exact this ▸ ha
  · intro h
    refine ⟨k, h, ?_⟩
    show PyData.eqv (.int (k : Int)) (.int k) = true
    rw [eqv_int]
    exact decide_eq_true rfl
theorem in_ints (l : List Nat) (k : Nat) : dIn (.int k) (intsD l) = some (.bool (decide (k ∈ l))) := by
  unfold dIn
  rw [ints_has]
  rfl
theorem notIn_ints (l : List Nat) (k : Nat) : dNotIn (.int k) (intsD l) = some (.bool (!decide (k ∈ l))) := by
  unfold dNotIn
  rw [ints_has]
  rfl
/-- numbers in order -/
def sortN (l : List Nat) : List Nat := l.mergeSort fun a b => decide (a ≤ b)
theorem sortN_perm (l : List Nat) : (sortN l).Perm l := List.mergeSort_perm _ _
theorem sortN_le (l : List Nat) : (sortN l).Pairwise (· ≤ ·) := by
  have h := List.pairwise_mergeSort (le := fun a b : Nat => decide (a ≤ b)) (by intro a b c h1 h2; simp at *; omega) (by intro a b; simp; omega) l
  exact h.imp fun h => by simpa using h
theorem sortN_lt {l : List Nat} (h : l.Nodup) : (sortN l).Pairwise (· < ·) := by
  have h1 := (sortN_perm l).nodup_iff.mpr h
  exact (sortN_le l).imp₂ (fun a b h2 h3 => by omega) h1
theorem sorted_ints (l : List Nat) : dSorted (intsD l) = some (intsD (sortN l)) := by
  have e0 : intsD l = .list ((l.map fun k : Nat => (k : Int)).map PyData.int) := by
    unfold intsD
    rw [List.map_map]
    rfl
  rw [e0]
  show (allI _).map _ = _
  rw [allI_map]
  show some (PyData.list ((sortI (l.map fun k : Nat => (k : Int))).map PyData.int)) = _
  have e : sortI (l.map fun k : Nat => (k : Int)) = (sortN l).map fun k : Nat => (k : Int) := by
    symm
    apply sortI_eq
    · exact (sortN_perm l).map _
    · rw [List.pairwise_map]
      exact (sortN_le l).imp fun h => by omega
  rw [e, List.map_map]
  rfl
theorem list_fd (l : List Nat) : dList (.dict (fdL l)) = some (intsD l) := by
  show (if isDic (fdL l) = true then some (PyData.list ((fdL l).map (·.1))) else none) = _
  rw [if_pos (isDic_fd l)]
  unfold fdL intsD
  rw [List.map_map]
  rfl

/-! ### ways -/
def Edge (w : Walk) (a b : Nat) : Prop := ∃ p, p ∈ w.getD a [] ∧ p.1 = b
inductive Path (w : Walk) : Nat → Nat → Prop
  | refl (a : Nat) : Path w a a
  | step {a b c : Nat} : Edge w a b → Path w b c → Path w a c
theorem Path.snoc {w : Walk} {a b c : Nat} (h : Path w a b) (e : Edge w b c) : Path w a c := by
  induction h with
  | refl _ => exact .step e (.refl _)
  | step e' _ ih => exact .step e' (ih e)
theorem Path.trans {w : Walk} {a b c : Nat} (h : Path w a b) (k : Path w b c) : Path w a c := by
  induction h with
  | refl _ => exact k
  | step e _ ih => exact .step e (ih k)
def Come (w : Walk) (G : List Nat) (r : Nat) : Prop := ∃ g, g ∈ G ∧ Path w r g
theorem come_closed {w : Walk} {G L : List Nat} (hG : ∀ g, g ∈ G → g ∈ L) (hL : ∀ a b, Edge w a b → b ∈ L → a ∈ L) {r : Nat} (h : Come w G r) : r ∈ L := by
  obtain ⟨g, hg, p⟩ := h
  induction p with
  | refl _ => exact hG _ hg
  | step e _ ih => exact hL _ _ e (ih hg)
theorem edge_lt {w : Walk} (gw : GoodWk w) {a b : Nat} (e : Edge w a b) : a < w.length ∧ b < w.length := by
  obtain ⟨p, hp, rfl⟩ := e
  have ha : a < w.length := Classical.byContradiction fun z => by
    rw [List.getD_eq_getElem?_getD, List.getElem?_eq_none (by omega)] at hp
    cases hp
  exact ⟨ha, ((good_at gw ha).2.mem p hp).1⟩
theorem path_lt {w : Walk} (gw : GoodWk w) {a b : Nat} (p : Path w a b) (ha : a < w.length) : b < w.length := by
  induction p with
  | refl _ => exact ha
  | step e _ ih => exact ih (edge_lt gw e).2
end LW
end

section
set_option Elab.async false
set_option linter.all false
set_option maxRecDepth 100000
set_option maxHeartbeats 1000000
set_option exponentiation.threshold 100000
set_option autoImplicit false
/-! PD: can_come and ahead. -/
namespace LW
open PySem hiding run
open L2 hiding bin
open DL

theorem any_bools (bs : List Bool) : dAny (.list (bs.map .bool)) = some (.bool (bs.any id)) := by
  show (allB (bs.map .bool)).map _ = _
  rw [allB_map]
  rfl
/-- any room of a spread among L -/
def hits (w : Walk) (L : List Nat) (a : Nat) : Bool := (w.getD a []).any fun p => decide (p.1 ∈ L)
theorem hits_edge {w : Walk} {L : List Nat} {a : Nat} : hits w L a = true ↔ ∃ b, Edge w a b ∧ b ∈ L := by
  unfold hits
  rw [List.any_eq_true]
  constructor
  · rintro ⟨p, hp, e⟩
    exact ⟨p.1, ⟨p, hp, rfl⟩, of_decide_eq_true e⟩
  · rintro ⟨b, ⟨p, hp, rfl⟩, hb⟩
    exact ⟨p, hp, decide_eq_true hb⟩
structure Fnd (w : Walk) (G L : List Nat) : Prop where
  nd : L.Nodup
  come : ∀ a, a ∈ L → a < w.length ∧ Come w G a
  goals : ∀ g, g ∈ G → g ∈ L
theorem Fnd.len {w : Walk} {G L : List Nat} (h : Fnd w G L) : L.length ≤ w.length := by
  have := h.nd.length_le_of_subset (l₂ := List.range w.length) fun a m => List.mem_range.mpr (h.come a m).1
  rwa [List.length_range] at this
theorem Fnd.add {w : Walk} {G L : List Nat} {a : Nat} (h : Fnd w G L) (ha : a < w.length) (hn : a ∉ L) (ht : hits w L a = true) : Fnd w G (L ++ [a]) := by
  refine ⟨?_, fun b m => ?_, fun g m => List.mem_append_left _ (h.goals g m)⟩
  · rw [List.nodup_append]
    exact ⟨h.nd, by simp, fun x hx y hy => by
      rcases List.mem_cons.mp hy with rfl | hy
      · intro z; subst z; exact hn hx
      · cases hy⟩
  · rcases List.mem_append.mp m with m | m
    · exact h.come b m
    · rcases List.mem_cons.mp m with rfl | m
      · obtain ⟨c, e, hc⟩ := hits_edge.mp ht
        obtain ⟨g, hg, p⟩ := (h.come c hc).2
        exact ⟨ha, g, hg, .step e p⟩
      · cases m
theorem can_come_ok {w : Walk} {G : List Nat} (gw : GoodWk w) (hG : G.Nodup) (hGn : ∀ g, g ∈ G → g < w.length) :
    ∃ R : List Nat, R.Pairwise (· < ·) ∧ (∀ a, a ∈ R ↔ (a < w.length ∧ Come w G a)) ∧ m_can_come [walkD w, intsD G] = .ok (intsD R) := by
  have hw8 := gw.hi
  have hG8 : G.length ≤ w.length := by
    have := hG.length_le_of_subset (l₂ := List.range w.length) fun a m => List.mem_range.mpr (hGn a m)
    rwa [List.length_range] at this
  obtain ⟨ρ1, e1, c, h1⟩ := forL_pre (tg := .nm 3) (g := gPutD 2 (rd 3) (kc (.bool true))) (fun k : Nat => PyData.int k) (fun pre ρ => ∃ c, ρ = [some (walkD w), some (intsD G), some (.dict (fdL pre)), c, none, none, none]) G (fun pre k post ρ e hp => by
      obtain ⟨c, rfl⟩ := hp
      have hk : k ∉ pre := fun m => by
        rw [e, List.nodup_append] at hG
        exact hG.2.2 k m k List.mem_cons_self rfl
      have hl : pre.length < 1000 := by
        have := congrArg List.length e
        rw [List.length_append, List.length_cons] at this
        omega
      refine ⟨_, [some (walkD w), some (intsD G), some (.dict (fdL (pre ++ [k]))), some (.int k), none, none, none], rfl, (gPutD_ok (l := fdL pre) rfl rfl rfl rfl (by unfold fdL; rw [List.length_map]; omega)).trans ?_, _, rfl⟩
      rw [put_fd pre k hk]
      rfl) (ρ := [some (walkD w), some (intsD G), some (.dict []), none, none, none, none]) ⟨none, rfl⟩
  have hF0 : Fnd w G G := ⟨hG, fun a m => ⟨hGn a m, a, m, .refl a⟩, fun g m => m⟩
  -- the while
  obtain ⟨ρ2, e2, L, hL, hcl, c3, h2⟩ := gWh_fall (c := asB (rd 4)) (g := gSeq (gSet 4 (kc (.bool false))) (gFor (.nm 3) (itR1 (un (rd 0) dLen)) (gIf (andT (asB (bin (rd 3) (rd 2) dNotIn)) (asB (un (comp [5, 6] (.tp [5, 6]) (itS (bin (rd 0) (rd 3) dIx)) yes (bin (rd 5) (rd 2) dIn)) dAny))) (gSeq (gPutD 2 (rd 3) (kc (.bool true))) (gSet 4 (kc (.bool true)))) gSkip)))
    (fun (s : List Nat × Bool) ρ => Fnd w G s.1 ∧ (s.2 = false → ∀ a, a < w.length → a ∈ s.1 ∨ hits w s.1 a = false) ∧ ∃ c, ρ = [some (walkD w), some (intsD G), some (.dict (fdL s.1)), c, some (.bool s.2), none, none])
    (fun s => 2 * (w.length - s.1.length) + s.2.toNat)
    (fun ρ => ∃ L, Fnd w G L ∧ (∀ a, a < w.length → a ∈ L ∨ hits w L a = false) ∧ ∃ c, ρ = [some (walkD w), some (intsD G), some (.dict (fdL L)), c, some (.bool false), none, none])
    (fun s ρ hs => by
      obtain ⟨L, more⟩ := s
      obtain ⟨hL, hcl, c, rfl⟩ := hs
      cases more with
      | false => exact .inl ⟨asB_ok rfl, L, hL, hcl rfl, c, rfl⟩
      | true =>
        refine .inr ⟨asB_ok rfl, ?_⟩
        obtain ⟨ρ3, e3, ext, hF, hx, c3, h3⟩ := forL_pre (tg := .nm 3) (g := gIf (andT (asB (bin (rd 3) (rd 2) dNotIn)) (asB (un (comp [5, 6] (.tp [5, 6]) (itS (bin (rd 0) (rd 3) dIx)) yes (bin (rd 5) (rd 2) dIn)) dAny))) (gSeq (gPutD 2 (rd 3) (kc (.bool true))) (gSet 4 (kc (.bool true)))) gSkip)
          (fun k : Nat => PyData.int k) (fun pre ρ => ∃ ext, Fnd w G (L ++ ext) ∧ (ext = [] → ∀ a, a ∈ pre → a ∈ L ∨ hits w L a = false) ∧ ∃ c, ρ = [some (walkD w), some (intsD G), some (.dict (fdL (L ++ ext))), c, some (.bool (!ext.isEmpty)), none, none]) (List.range w.length) (fun pre a post ρ e hp => by
            obtain ⟨ext, hF, hx, c, rfl⟩ := hp
            have ha : a < w.length := by have : a ∈ List.range w.length := (by rw [e]; exact List.mem_append_right _ List.mem_cons_self); exact List.mem_range.mp this
            have hgs := (good_at gw ha).2
            have hlen := hF.len
            refine ⟨[some (walkD w), some (intsD G), some (.dict (fdL (L ++ ext))), some (.int a), some (.bool (!ext.isEmpty)), none, none], ?_⟩
            have e5 := comp_ok (vs := [5, 6]) (tg := .tp [5, 6]) (fi := itS (bin (rd 0) (rd 3) dIx)) (ft := yes) (fe := bin (rd 5) (rd 2) dIn) (ρ := [some (walkD w), some (intsD G), some (.dict (fdL (L ++ ext))), some (.int a), some (.bool (!ext.isEmpty)), none, none])
              prD (fun _ => true) (fun p => PyData.bool (decide (p.1 ∈ L ++ ext))) (w.getD a []) (line_small (by have := hgs.few; omega)) (itS_tuple (bin_ok rfl rfl (ix_walk (good_at gw ha).1))) (fun p _ => ⟨[some (walkD w), some (intsD G), some (.dict (fdL (L ++ ext))), some (.int a), some (.bool (!ext.isEmpty)), some (.int p.1), some (fr p.2)], rfl, rfl, fun _ => bin_ok rfl rfl (in_fd _ _)⟩)
            rw [filter_yes] at e5
            have e6 : dAny (.list ((w.getD a []).map fun p => PyData.bool (decide (p.1 ∈ L ++ ext)))) = some (.bool (hits w (L ++ ext) a)) := by
              have := any_bools ((w.getD a []).map fun p => decide (p.1 ∈ L ++ ext))
              rw [List.map_map, List.any_map] at this
              exact this
            by_cases c1 : a ∈ L ++ ext
            · refine ⟨_, rfl, gIf_s (andT_f (asB_ok (bin_ok rfl rfl (by rw [notIn_fd, decide_eq_true c1]; rfl)))), ext, hF, fun z b hb => ?_, _, rfl⟩
              rcases List.mem_append.mp hb with hb | hb
              · exact hx z b hb
              · rcases List.mem_cons.mp hb with rfl | hb
                · rw [z, List.append_nil] at c1; exact .inl c1
                · cases hb
            · cases c2 : hits w (L ++ ext) a with
              | false =>
                refine ⟨_, rfl, gIf_s (andT_t (asB_ok (bin_ok rfl rfl (by rw [notIn_fd, decide_eq_false c1]; rfl))) (asB_ok (un_ok e5 (by rw [e6, c2])))), ext, hF, fun z b hb => ?_, _, rfl⟩
                rcases List.mem_append.mp hb with hb | hb
                · exact hx z b hb
                · rcases List.mem_cons.mp hb with rfl | hb
                  · rw [z, List.append_nil] at c2; exact .inr c2
                  · cases hb
              | true =>
                refine ⟨[some (walkD w), some (intsD G), some (.dict (fdL (L ++ (ext ++ [a])))), some (.int a), some (.bool true), none, none], rfl, (gIf_t (andT_t (asB_ok (bin_ok rfl rfl (by rw [notIn_fd, decide_eq_false c1]; rfl))) (asB_ok (un_ok e5 (by rw [e6, c2]))))).trans ?_, ext ++ [a], by rw [← List.append_assoc]; exact hF.add ha c1 c2, fun z => by simp at z, some (.int a), by simp⟩
                refine (gSeq_nx (gPutD_ok (l := fdL (L ++ ext)) rfl rfl rfl rfl (by unfold fdL; rw [List.length_map]; omega))).trans ?_
                rw [put_fd _ a c1, List.append_assoc]
                exact gSet_ok rfl)
          (ρ := [some (walkD w), some (intsD G), some (.dict (fdL L)), c, some (.bool false), none, none]) ⟨[], by rw [List.append_nil]; exact hL, fun _ a m => (by cases m), c, by rw [List.append_nil]; rfl⟩
        refine ⟨(L ++ ext, !ext.isEmpty), ρ3, (gSeq_nx (gSet_ok rfl)).trans (gFor_nx (itR1_nat (n := w.length) (un_ok rfl (len_walk w)) (by omega)) e3), ⟨hF, fun z a ha => ?_, c3, h3⟩, ?_⟩
        · have z : (!ext.isEmpty) = false := z
          have : ext = [] := by cases ext with
            | nil => rfl
            | cons _ _ => cases z
          subst this
          have := hx rfl a (List.mem_range.mpr ha)
          show a ∈ L ++ [] ∨ hits w (L ++ []) a = false
          rw [List.append_nil]
          exact this
        · show 2 * (w.length - (L ++ ext).length) + (!ext.isEmpty).toNat < 2 * (w.length - L.length) + 1
          cases ext with
          | nil => rw [List.append_nil]; exact Nat.lt_succ_self _
          | cons x r =>
            have := hF.len
            rw [List.length_append, List.length_cons] at this ⊢
            show _ + 1 < _ + 1
            omega) (G, true) [some (walkD w), some (intsD G), some (.dict (fdL G)), c, some (.bool true), none, none] ⟨hF0, (fun z => by cases z), c, rfl⟩
  refine ⟨sortN L, sortN_lt hL.nd, fun a => ?_, run_rt ?_⟩
  · rw [(sortN_perm L).mem_iff]
    refine ⟨fun m => hL.come a m, fun ⟨_, hc⟩ => come_closed hL.goals (fun x y e hy => ?_) hc⟩
    rcases hcl x (edge_lt gw e).1 with h | h
    · exact h
    · have := hits_edge.mpr ⟨y, e, hy⟩
      rw [h] at this
      cases this
  · show gSeq _ _ [some (walkD w), some (intsD G), none, none, none, none, none] = _
    refine (gSeq_nx (gSet_ok rfl)).trans ?_
    refine (gSeq_nx (gFor_nx (itS_list rfl) e1)).trans ?_
    subst h1
    refine (gSeq_nx (gSet_ok rfl)).trans ?_
    refine (gSeq_nx e2).trans ?_
    subst h2
    exact gRet_ok (un_ok (un_ok rfl (list_fd L)) (sorted_ints L))

theorem len_ints (l : List Nat) : dLen (intsD l) = some (.int l.length) := by
  show some (PyData.int _) = _
  rw [List.length_map]
theorem ix_ints {l : List Nat} {i k : Nat} (h : l[i]? = some k) : dIx (intsD l) (.int i) = some (.int k) := ix_list (by rw [List.getElem?_map, h]; rfl)
structure Ahd (w : Walk) (a : Nat) (L : List Nat) : Prop where
  nd : L.Nodup
  path : ∀ b, b ∈ L → b < w.length ∧ Path w a b
  self : a ∈ L
theorem Ahd.len {w : Walk} {a : Nat} {L : List Nat} (h : Ahd w a L) : L.length ≤ w.length := by
  have := h.nd.length_le_of_subset (l₂ := List.range w.length) fun a m => List.mem_range.mpr (h.path a m).1
  rwa [List.length_range] at this
theorem Ahd.add {w : Walk} {a b c : Nat} {L : List Nat} (h : Ahd w a L) (gw : GoodWk w) (hb : b ∈ L) (e : Edge w b c) (hn : c ∉ L) : Ahd w a (L ++ [c]) := by
  refine ⟨?_, fun x m => ?_, List.mem_append_left _ h.self⟩
  · rw [List.nodup_append]
    exact ⟨h.nd, by simp, fun x hx y hy => by
      rcases List.mem_cons.mp hy with rfl | hy
      · intro z; subst z; exact hn hx
      · cases hy⟩
  · rcases List.mem_append.mp m with m | m
    · exact h.path x m
    · rcases List.mem_cons.mp m with rfl | m
      · exact ⟨(edge_lt gw e).2, (h.path b hb).2.snoc e⟩
      · cases m
theorem law_ahead_ok {w : Walk} (gw : GoodWk w) {a : Nat} (ha : a < w.length) : ∃ R : List Nat, R.Pairwise (· < ·) ∧ (∀ b, b ∈ R ↔ Path w a b) ∧ m_law_ahead [walkD w, .int a] = .ok (intsD R) := by
  have hw8 := gw.hi
  obtain ⟨ρ2, e2, L, hL, hcl, i, p, h2⟩ := gWh_fall (c := asB (bin (rd 3) (un (rd 2) dLen) dLt)) (g := gSeq (gFor (.nm 4) (itS (bin (rd 0) (bin (rd 2) (rd 3) dIx) dIx)) (gIf (asB (bin (bin (rd 4) (kc (.int 0)) dIx) (rd 2) dNotIn)) (gApp 2 (bin (rd 4) (kc (.int 0)) dIx)) gSkip)) (gSet 3 (bin (rd 3) (kc (.int 1)) dAdd)))
    (fun (s : List Nat × Nat) ρ => Ahd w a s.1 ∧ s.2 ≤ s.1.length ∧ (∀ k b c, k < s.2 → s.1[k]? = some b → Edge w b c → c ∈ s.1) ∧ ∃ p, ρ = [some (walkD w), some (.int a), some (intsD s.1), some (.int s.2), p])
    (fun s => w.length - s.2)
    (fun ρ => ∃ L, Ahd w a L ∧ (∀ b c, b ∈ L → Edge w b c → c ∈ L) ∧ ∃ i p, ρ = [some (walkD w), some (.int a), some (intsD L), i, p])
    (fun s ρ hs => by
      obtain ⟨L, i⟩ := s
      obtain ⟨hL, hi, hcl, p, rfl⟩ := hs
      have hlen : L.length ≤ w.length := hL.len
      by_cases c : i < L.length
      · refine .inr ⟨asB_ok (bin_ok rfl (un_ok rfl (len_ints L)) (lt_t (by have : i < L.length := c; omega))), ?_⟩
        have hb : L[i]? = some (L[i]'c) := List.getElem?_eq_getElem c
        generalize hbe : L[i]'c = b at hb
        have hbm : b ∈ L := List.mem_of_getElem? hb
        have hbn := (hL.path b hbm).1
        have hgs := (good_at gw hbn).2
        obtain ⟨ρ3, e3, ext, hF, hx, p3, h3⟩ := forL_pre (tg := .nm 4) (g := gIf (asB (bin (bin (rd 4) (kc (.int 0)) dIx) (rd 2) dNotIn)) (gApp 2 (bin (rd 4) (kc (.int 0)) dIx)) gSkip)
          prD (fun pre ρ => ∃ ext, Ahd w a (L ++ ext) ∧ (∀ q, q ∈ pre → q.1 ∈ L ++ ext) ∧ ∃ p, ρ = [some (walkD w), some (.int a), some (intsD (L ++ ext)), some (.int i), p]) (w.getD b []) (fun pre q post ρ e hp => by
            obtain ⟨ext, hF, hx, p, rfl⟩ := hp
            have hlen := hF.len
            have hq : q ∈ w.getD b [] := by rw [e]; exact List.mem_append_right _ List.mem_cons_self
            refine ⟨[some (walkD w), some (.int a), some (intsD (L ++ ext)), some (.int i), some (prD q)], ?_⟩
            by_cases c1 : q.1 ∈ L ++ ext
            · refine ⟨_, rfl, gIf_s (asB_ok (bin_ok (bin_ok rfl rfl (atI0 _ _)) rfl (by rw [notIn_ints, decide_eq_true c1]; rfl))), ext, hF, fun z hz => ?_, _, rfl⟩
              rcases List.mem_append.mp hz with hz | hz
              · exact hx z hz
              · rcases List.mem_cons.mp hz with rfl | hz
                · exact c1
                · cases hz
            · refine ⟨[some (walkD w), some (.int a), some (intsD (L ++ (ext ++ [q.1]))), some (.int i), some (prD q)], rfl, (gIf_t (asB_ok (bin_ok (bin_ok rfl rfl (atI0 _ _)) rfl (by rw [notIn_ints, decide_eq_false c1]; rfl)))).trans ?_, ext ++ [q.1], by rw [← List.append_assoc]; exact hF.add gw (List.mem_append_left _ hbm) ⟨q, hq, rfl⟩ c1, fun z hz => ?_, some (prD q), rfl⟩
              · refine (gApp_ok (l := (L ++ ext).map fun k : Nat => PyData.int k) (bin_ok rfl rfl (atI0 _ _)) rfl (by rw [List.length_map]; omega)).trans ?_
                unfold intsD
                rw [← List.append_assoc, List.map_append (l₁ := L ++ ext)]
                rfl
              · rw [← List.append_assoc]
                rcases List.mem_append.mp hz with hz | hz
                · exact List.mem_append_left _ (hx z hz)
                · rcases List.mem_cons.mp hz with rfl | hz
                  · exact List.mem_append_right _ List.mem_cons_self
                  · cases hz)
          (ρ := [some (walkD w), some (.int a), some (intsD L), some (.int i), p]) ⟨[], by rw [List.append_nil]; exact hL, (fun q m => by cases m), p, by rw [List.append_nil]⟩
        subst h3
        refine ⟨(L ++ ext, i + 1), [some (walkD w), some (.int a), some (intsD (L ++ ext)), some (.int ((i + 1 : Nat) : Int)), p3], (gSeq_nx (gFor_nx (itS_tuple (bin_ok rfl (bin_ok rfl rfl (ix_ints hb)) (ix_walk (good_at gw hbn).1))) e3)).trans (gSet_ok (bin_ok rfl rfl rfl)), ⟨hF, ?_, ?_, p3, rfl⟩, ?_⟩
        · show i + 1 ≤ (L ++ ext).length
          rw [List.length_append]
          omega
        · intro k x y hk hkx e
          have hk : k < i + 1 := hk
          have hkl : k < L.length := by omega
          replace hkx : (L ++ ext)[k]? = some x := hkx
          rw [List.getElem?_append_left hkl] at hkx
          by_cases c2 : k < i
          · exact List.mem_append_left _ (hcl k x y c2 hkx e)
          · have : k = i := by omega
            rw [this, hb] at hkx
            obtain ⟨q, hq, rfl⟩ := e
            rw [← Option.some.inj hkx] at hq
            exact hx q hq
        · show w.length - (i + 1) < w.length - i
          omega
      · refine .inl ⟨asB_ok (bin_ok rfl (un_ok rfl (len_ints L)) (lt_f (by have : ¬ i < L.length := c; omega))), L, hL, fun b x hb e => ?_, _, _, rfl⟩
        obtain ⟨k, hk, hkb⟩ := List.mem_iff_getElem.mp hb
        exact hcl k b x (by have : ¬ i < L.length := c; show k < i; omega) (by rw [List.getElem?_eq_getElem hk, hkb]) e)
    ([a], 0) [some (walkD w), some (.int a), some (intsD [a]), some (.int 0), none] ⟨⟨by simp, fun b m => (by rcases List.mem_cons.mp m with rfl | m; exact ⟨ha, .refl _⟩; cases m), List.mem_cons_self⟩, Nat.zero_le _, (fun k b c hk => absurd hk (Nat.not_lt_zero _)), none, rfl⟩
  refine ⟨sortN L, sortN_lt hL.nd, fun b => ?_, run_rt ?_⟩
  · rw [(sortN_perm L).mem_iff]
    refine ⟨fun m => (hL.path b m).2, fun p => ?_⟩
    have : ∀ x y, Path w x y → x ∈ L → y ∈ L := by
      intro x y p
      induction p with
      | refl _ => exact id
      | step e _ ih => intro hx; exact ih (hcl _ _ hx e)
    exact this a b p hL.self
  · show gSeq _ _ [some (walkD w), some (.int a), none, none, none] = _
    refine (gSeq_nx (gSet_ok (mkLst_ok (aCons_ok rfl rfl) rfl))).trans ?_
    refine (gSeq_nx (gSet_ok rfl)).trans ?_
    refine (gSeq_nx e2).trans ?_
    subst h2
    exact gRet_ok (un_ok rfl (sorted_ints L))
end LW
end

section
set_option Elab.async false
set_option linter.all false
set_option maxRecDepth 100000
set_option maxHeartbeats 1000000
set_option exponentiation.threshold 100000
set_option autoImplicit false
/-! PE: what is greatest lies at the rim; rows of equations. -/
namespace LW
open PySem hiding run
open L2 hiding bin
open DL

/-! ### the greatest -/
def wsum (s : Spread) (f : Nat → Rat) : Rat := (s.map fun q => q.2 * f q.1).sum
theorem wsum_le : ∀ (s : Spread) (f g : Nat → Rat), (∀ q, q ∈ s → 0 < q.2) → (∀ q, q ∈ s → f q.1 ≤ g q.1) → wsum s f ≤ wsum s g
  | [], _, _, _, _ => Rat.le_refl
  | q :: r, f, g, hp, h => by
    have h1 := hp q List.mem_cons_self
    have h2 := h q List.mem_cons_self
    have h3 := wsum_le r f g (fun x m => hp x (List.mem_cons_of_mem _ m)) fun x m => h x (List.mem_cons_of_mem _ m)
    have h4 : q.2 * f q.1 ≤ q.2 * g q.1 := Rat.mul_le_mul_of_nonneg_left h2 (by grind)
    unfold wsum at *
    rw [List.map_cons, List.map_cons, List.sum_cons, List.sum_cons]
    grind
theorem wsum_const (s : Spread) (c : Rat) : wsum s (fun _ => c) = (s.map (·.2)).sum * c := by
  unfold wsum
  induction s with
  | nil => rw [List.map_nil, List.map_nil, List.sum_nil, Rat.zero_mul]
  | cons q r ih => rw [List.map_cons, List.map_cons, List.sum_cons, List.sum_cons, ih]; grind
theorem wsum_add (s : Spread) (f g : Nat → Rat) : wsum s (fun b => f b + g b) = wsum s f + wsum s g := by
  unfold wsum
  induction s with
  | nil => rw [List.map_nil, List.sum_nil, List.map_nil, List.map_nil, List.sum_nil, Rat.add_zero]
  | cons q r ih => rw [List.map_cons, List.map_cons, List.map_cons, List.sum_cons, List.sum_cons, List.sum_cons, ih]; grind
theorem wsum_mul (s : Spread) (k : Rat) (f : Nat → Rat) : wsum s (fun b => k * f b) = k * wsum s f := by
  unfold wsum
  induction s with
  | nil => rw [List.map_nil, List.sum_nil, List.map_nil, List.sum_nil, Rat.mul_zero]
  | cons q r ih => rw [List.map_cons, List.map_cons, List.sum_cons, List.sum_cons, ih]; grind
theorem wsum_congr (s : Spread) {f g : Nat → Rat} (h : ∀ q, q ∈ s → f q.1 = g q.1) : wsum s f = wsum s g := by
  unfold wsum
  congr 1
  exact List.map_congr_left fun q m => by rw [h q m]
/-- a mean that is the greatest: all are -/
theorem mean_top {n : Nat} {s : Spread} (g : GoodSp n s) {f : Nat → Rat} {M : Rat} (hf : ∀ q, q ∈ s → f q.1 ≤ M) (h : M ≤ wsum s f) : ∀ q, q ∈ s → f q.1 = M := by
  intro q hq
  have e : wsum s (fun b => M - f b) = M - wsum s f := by
    have : wsum s (fun b => M - f b) = wsum s (fun b => M + (-1) * f b) := wsum_congr s fun q _ => by grind
    rw [this, wsum_add, wsum_const, g.sum, wsum_mul]
    grind
  have hz : ∀ x, x ∈ s.map (fun q => q.2 * (M - f q.1)) → 0 ≤ x := fun x hx => by
    obtain ⟨p, hp, rfl⟩ := List.mem_map.mp hx
    have h1 := (g.mem p hp).2.1
    have h2 := hf p hp
    exact Rat.mul_nonneg (by grind) (by grind)
  have h1 := le_rsum _ hz (q.2 * (M - f q.1)) (List.mem_map.mpr ⟨q, hq, rfl⟩)
  have h2 : (s.map (fun q => q.2 * (M - f q.1))).sum = M - wsum s f := e
  have h3 := hf q hq
  have h4 := (g.mem q hq).2.1
  have h5 : q.2 * (M - f q.1) ≤ 0 := by grind
  have h6 : 0 ≤ q.2 * (M - f q.1) := hz _ (List.mem_map.mpr ⟨q, hq, rfl⟩)
  have h7 : q.2 * (M - f q.1) = 0 := by grind
  rcases Rat.mul_eq_zero.mp h7 with z | z
  · grind
  · grind
theorem top_of (f : Nat → Rat) : ∀ (l : List Nat), l ≠ [] → ∃ r, r ∈ l ∧ ∀ x, x ∈ l → f x ≤ f r
  | [], h => absurd rfl h
  | [a], _ => ⟨a, List.mem_cons_self, fun x m => by
    rcases List.mem_cons.mp m with rfl | m
    · exact Rat.le_refl
    · cases m⟩
  | a :: b :: r, _ => by
    obtain ⟨c, hc, h⟩ := top_of f (b :: r) (by intro z; cases z)
    by_cases k : f c ≤ f a
    · exact ⟨a, List.mem_cons_self, fun x m => by
        rcases List.mem_cons.mp m with rfl | m
        · exact Rat.le_refl
        · have := h x m; grind⟩
    · exact ⟨c, List.mem_cons_of_mem _ hc, fun x m => by
        rcases List.mem_cons.mp m with rfl | m
        · grind
        · exact h x m⟩
/-- from each of R a way leads out of R -/
def Leaves (w : Walk) (R : List Nat) : Prop := ∀ r, r ∈ R → r < w.length ∧ ∃ b, b ∉ R ∧ Path w r b
theorem rim {w : Walk} (gw : GoodWk w) {R : List Nat} (lv : Leaves w R) {f : Nat → Rat} (h : ∀ r, r ∈ R → f r ≤ wsum (w.getD r []) f) (ho : ∀ b, b ∉ R → f b ≤ 0) : ∀ r, f r ≤ 0 := by
  by_cases e : R = []
  · subst e
    exact fun r => ho r (by intro z; cases z)
  obtain ⟨r0, hr0, top⟩ := top_of f R e
  by_cases k : f r0 ≤ 0
  · intro r
    by_cases m : r ∈ R
    · have := top r m; grind
    · exact ho r m
  · exfalso
    have all : ∀ b, f b ≤ f r0 := fun b => by
      by_cases m : b ∈ R
      · exact top b m
      · have := ho b m; grind
    have inR : ∀ b, f b = f r0 → b ∈ R := fun b e => Classical.byContradiction fun m => by have := ho b m; grind
    have key : ∀ a b, Path w a b → f a = f r0 → f b = f r0 := by
      intro a b p
      induction p with
      | refl _ => exact id
      | @step a b c e _ ih =>
        intro ha
        have hm := inR a ha
        obtain ⟨q, hq, rfl⟩ := e
        exact ih (mean_top (good_at gw (lv a hm).1).2 (fun q _ => all q.1) (by rw [← ha]; exact h a hm) q hq)
    obtain ⟨_, b, hb, p⟩ := lv r0 hr0
    exact hb (inR b (key r0 b p rfl))
end LW
end

section
set_option Elab.async false
set_option linter.all false
set_option maxRecDepth 100000
set_option maxHeartbeats 1000000
set_option exponentiation.threshold 100000
set_option autoImplicit false
/-! PJ: the rows that solved_for makes. -/
namespace LW
open PySem hiding run
open L2 hiding bin
open DL

def tot (pre : Spread) (b : Nat) : Rat := (pre.map fun q => if q.1 = b then q.2 else 0).sum
def totK (R : List Nat) (kn : Nat → Bool) (pre : Spread) : Rat := (pre.map fun q => if q.1 ∈ R then 0 else if kn q.1 = true then q.2 else 0).sum
def rowAt (R : List Nat) (kn : Nat → Bool) (g : Rat) (i : Nat) (pre : Spread) : List Rat :=
  (List.range (R.length + 1)).map fun j => if j < R.length then (if j = i then 1 else 0) - tot pre (R.getD j 0) else g + totK R kn pre
theorem rsum_snoc {α : Type} (l : List α) (x : α) (f : α → Rat) : ((l ++ [x]).map f).sum = (l.map f).sum + f x := by
  rw [List.map_append, rsum_append, List.map_cons, List.map_nil, List.sum_cons, List.sum_nil, Rat.add_zero]
section
variable {R : List Nat} {kn : Nat → Bool} {g : Rat} {i : Nat} {pre : Spread}
theorem rowAt_len : (rowAt R kn g i pre).length = R.length + 1 := by
  unfold rowAt
  rw [List.length_map, List.length_range]
theorem rowAt_get {j : Nat} (h : j < R.length + 1) : (rowAt R kn g i pre)[j]? = some (if j < R.length then (if j = i then 1 else 0) - tot pre (R.getD j 0) else g + totK R kn pre) := by
  unfold rowAt
  rw [List.getElem?_map, List.getElem?_range h]
  rfl
theorem rowAt_getD {j : Nat} (h : j < R.length + 1) : (rowAt R kn g i pre).getD j 0 = if j < R.length then (if j = i then 1 else 0) - tot pre (R.getD j 0) else g + totK R kn pre := by
  rw [List.getD_eq_getElem?_getD, rowAt_get h]
  rfl
theorem pos_uniq (nd : R.Nodup) {j k b : Nat} (h1 : R[j]? = some b) (h2 : R[k]? = some b) : j = k := by
  obtain ⟨hj, _⟩ := List.getElem?_eq_some_iff.mp h1
  exact (List.getElem?_inj hj nd).mp (h1.trans h2.symm)
theorem getD_pos {j b : Nat} (h : R[j]? = some b) : R.getD j 0 = b ∧ j < R.length ∧ b ∈ R := by
  obtain ⟨hj, e⟩ := List.getElem?_eq_some_iff.mp h
  exact ⟨by rw [List.getD_eq_getElem?_getD, h]; rfl, hj, e ▸ List.getElem_mem _⟩
theorem pos_get {j : Nat} (h : j < R.length) : R[j]? = some (R.getD j 0) := by
  rw [List.getD_eq_getElem?_getD, List.getElem?_eq_getElem h]
  rfl
theorem rowAt_nil (hi : i < R.length) : ((List.replicate R.length (0 : Rat)) ++ [g]).set i 1 = rowAt R kn g i [] := by
  apply List.ext_getElem?
  intro j
  by_cases h : j < R.length + 1
  · rw [rowAt_get h, List.getElem?_set]
    have t0 : ∀ b, tot [] b = 0 := fun _ => rfl
    have k0 : totK R kn [] = 0 := rfl
    rw [t0, k0]
    by_cases c : i = j
    · subst c
      rw [if_pos rfl, if_pos (by rw [List.length_append, List.length_replicate]; exact Nat.lt_of_lt_of_le hi (Nat.le_add_right _ _)), if_pos hi, if_pos rfl]
      congr 1
      grind
    · rw [if_neg c]
      by_cases d : j < R.length
      · rw [List.getElem?_append_left (by rw [List.length_replicate]; exact d), List.getElem?_replicate, if_pos d, if_pos d, if_neg fun z => c z.symm]
        congr 1
        grind
      · have : j = R.length := by omega
        rw [List.getElem?_append_right (by rw [List.length_replicate]; omega), List.length_replicate, this, Nat.sub_self, if_neg (Nat.lt_irrefl _), Rat.add_zero]
        rfl
  · rw [List.getElem?_eq_none (by rw [List.length_set, List.length_append, List.length_replicate, List.length_singleton]; omega), List.getElem?_eq_none (by rw [rowAt_len]; omega)]
theorem rowAt_in (nd : R.Nodup) {q : Nat × Rat} {k : Nat} (hk : R[k]? = some q.1) : (rowAt R kn g i pre).set k ((rowAt R kn g i pre).getD k 0 - q.2) = rowAt R kn g i (pre ++ [q]) := by
  obtain ⟨e0, hkl, hm⟩ := getD_pos hk
  apply List.ext_getElem?
  intro j
  by_cases h : j < R.length + 1
  · rw [rowAt_get h, List.getElem?_set]
    have tk : totK R kn (pre ++ [q]) = totK R kn pre := by
      unfold totK
      rw [rsum_snoc, if_pos hm, Rat.add_zero]
    have tt : ∀ b, tot (pre ++ [q]) b = tot pre b + if q.1 = b then q.2 else 0 := fun b => rsum_snoc _ _ _
    by_cases c : k = j
    · subst c
      rw [if_pos rfl, if_pos (by rw [rowAt_len]; exact h), rowAt_getD h, if_pos hkl, if_pos hkl, tt, e0, if_pos rfl]
      congr 1
      grind
    · rw [if_neg c, rowAt_get h, tk, tt]
      by_cases d : j < R.length
      · have hne : ¬ q.1 = R.getD j 0 := fun z => c (pos_uniq nd hk (by rw [z]; exact pos_get d))
        rw [if_neg hne, Rat.add_zero]
      · rw [if_neg d, if_neg d]
  · rw [List.getElem?_eq_none (by rw [List.length_set, rowAt_len]; omega), List.getElem?_eq_none (by rw [rowAt_len]; omega)]
theorem rowAt_out {q : Nat × Rat} (hq : q.1 ∉ R) : (rowAt R kn g i pre).set R.length ((rowAt R kn g i pre).getD R.length 0 + if kn q.1 = true then q.2 else 0) = rowAt R kn g i (pre ++ [q]) := by
  apply List.ext_getElem?
  intro j
  by_cases h : j < R.length + 1
  · rw [rowAt_get h, List.getElem?_set]
    have tk : totK R kn (pre ++ [q]) = totK R kn pre + if kn q.1 = true then q.2 else 0 := by
      unfold totK
      rw [rsum_snoc, if_neg hq]
    have tt : ∀ b, tot (pre ++ [q]) b = tot pre b + if q.1 = b then q.2 else 0 := fun b => rsum_snoc _ _ _
    by_cases c : R.length = j
    · subst c
      rw [if_pos rfl, if_pos (by rw [rowAt_len]; exact h), rowAt_getD h, if_neg (Nat.lt_irrefl _), if_neg (Nat.lt_irrefl _), tk]
      congr 1
      grind
    · rw [if_neg c, rowAt_get h, tt]
      have d : j < R.length := by omega
      have hne : ¬ q.1 = R.getD j 0 := fun z => hq (by rw [z]; exact (getD_pos (pos_get d)).2.2)
      rw [if_pos d, if_pos d, if_neg hne, Rat.add_zero]
  · rw [List.getElem?_eq_none (by rw [List.length_set, rowAt_len]; omega), List.getElem?_eq_none (by rw [rowAt_len]; omega)]
theorem part_le : ∀ (s : Spread) (f : Nat → Bool), (∀ q, q ∈ s → 0 < q.2) → 0 ≤ (s.map fun q => if f q.1 = true then q.2 else 0).sum ∧ (s.map fun q => if f q.1 = true then q.2 else 0).sum ≤ (s.map (·.2)).sum
  | [], _, _ => ⟨Rat.le_refl, Rat.le_refl⟩
  | q :: r, f, h => by
    obtain ⟨a, b⟩ := part_le r f fun x m => h x (List.mem_cons_of_mem _ m)
    have h1 := h q List.mem_cons_self
    rw [List.map_cons, List.map_cons, List.sum_cons, List.sum_cons]
    constructor <;> split <;> grind
theorem part_dn {d : Nat} : ∀ (s : Spread) (f : Nat → Bool), (∀ q, q ∈ s → Dn d q.2) → Dn d (s.map fun q => if f q.1 = true then q.2 else 0).sum
  | [], _, _ => Dn.zero d
  | q :: r, f, h => by
    rw [List.map_cons, List.sum_cons]
    refine Dn.add ?_ (part_dn r f fun x m => h x (List.mem_cons_of_mem _ m))
    split
    · exact h q List.mem_cons_self
    · exact Dn.zero d
theorem tot_part (pre : Spread) (b : Nat) : tot pre b = (pre.map fun q => if (decide (q.1 = b)) = true then q.2 else 0).sum := by
  unfold tot
  congr 1
  exact List.map_congr_left fun q _ => by simp
theorem totK_part (pre : Spread) : totK R kn pre = (pre.map fun q => if (!decide (q.1 ∈ R) && kn q.1) = true then q.2 else 0).sum := by
  unfold totK
  congr 1
  exact List.map_congr_left fun q _ => by
    by_cases h : q.1 ∈ R <;> simp [h]
theorem small_num {d : Nat} {v : Rat} (h : Dn d v) (hd : d ≤ 12) (l : -2 ≤ v) (u : v ≤ 2) : ∃ k : Int, v * (d : Rat) = (k : Rat) ∧ k.natAbs < 2 ^ 5 := by
  obtain ⟨k, e⟩ := h
  refine ⟨k, e, ?_⟩
  have d0 : (0 : Rat) ≤ (d : Rat) := Rat.natCast_nonneg
  have d1 : (d : Rat) ≤ 12 := by exact_mod_cast (Rat.natCast_le_natCast (a := d) (b := 12)).mpr hd
  have h1 : v * (d : Rat) ≤ 2 * (d : Rat) := Rat.mul_le_mul_of_nonneg_right u d0
  have h2 : -2 * (d : Rat) ≤ v * (d : Rat) := Rat.mul_le_mul_of_nonneg_right l d0
  have h3 : (k : Rat) ≤ ((24 : Int) : Rat) := by
    have : ((24 : Int) : Rat) = 24 := rfl
    rw [this, ← e]
    grind
  have h4 : ((-24 : Int) : Rat) ≤ (k : Rat) := by
    have : ((-24 : Int) : Rat) = -24 := rfl
    rw [this, ← e]
    grind
  have h5 := Rat.intCast_le_intCast.mp h3
  have h6 := Rat.intCast_le_intCast.mp h4
  omega
theorem rowAt_sz {n : Nat} {s post : Spread} (gs : GoodSp n s) (e : s = pre ++ post) (hg : g = 0 ∨ g = 1) : RowB 5 (rowAt R kn g i pre) := by
  obtain ⟨d, d0, d12, hd⟩ := gs.com
  have hp : ∀ q, q ∈ pre → 0 < q.2 := fun q m => (gs.mem q (by rw [e]; exact List.mem_append_left _ m)).2.1
  have hpd : ∀ q, q ∈ pre → Dn d q.2 := fun q m => hd q (by rw [e]; exact List.mem_append_left _ m)
  have hs : (pre.map (·.2)).sum ≤ 1 := by
    have := gs.sum
    rw [e, List.map_append, rsum_append] at this
    have h2 := rsum_nonneg (post.map (·.2)) fun x hx => by
      obtain ⟨q, hq, rfl⟩ := List.mem_map.mp hx
      have := (gs.mem q (by rw [e]; exact List.mem_append_right _ hq)).2.1
      grind
    grind
  have d1 : Dn d 1 := ⟨d, by rw [Rat.one_mul]; rfl⟩
  refine ⟨d, d0, by omega, fun v hv => ?_⟩
  obtain ⟨j, hj, rfl⟩ := List.mem_map.mp hv
  split
  · have ht := part_le pre (fun x => decide (x = R.getD j 0)) hp
    have htd := part_dn pre (fun x => decide (x = R.getD j 0)) hpd
    rw [← tot_part] at ht htd
    have hneg : Dn d (-1 * tot pre (R.getD j 0)) := by
      obtain ⟨k, ek⟩ := htd
      exact ⟨-k, by rw [Rat.intCast_neg, ← ek]; grind⟩
    refine small_num ?_ d12 ?_ ?_
    · have : ((if j = i then 1 else 0 : Rat) - tot pre (R.getD j 0)) = (if j = i then 1 else 0) + -1 * tot pre (R.getD j 0) := by grind
      rw [this]
      refine Dn.add ?_ hneg
      split
      · exact d1
      · exact Dn.zero d
    · split <;> grind
    · split <;> grind
  · have ht := part_le pre (fun x => !decide (x ∈ R) && kn x) hp
    have htd := part_dn pre (fun x => !decide (x ∈ R) && kn x) hpd
    rw [← totK_part] at ht htd
    refine small_num (Dn.add ?_ htd) d12 ?_ ?_
    · rcases hg with rfl | rfl
      · exact Dn.zero d
      · exact d1
    · rcases hg with rfl | rfl <;> grind
    · rcases hg with rfl | rfl <;> grind
end
end LW
end

section
set_option Elab.async false
set_option linter.all false
set_option maxRecDepth 100000
set_option maxHeartbeats 1000000
set_option exponentiation.threshold 100000
set_option autoImplicit false
/-! PK: solved_for. -/
namespace LW
open PySem hiding run
open L2 hiding bin
open DL

section
variable {R : List Nat}
/-- what stands at a room's place, nought for the others -/
noncomputable def atR (R : List Nat) (X : Nat → Rat) : Nat → Rat := fun b => open Classical in if h : ∃ j, R[j]? = some b then X h.choose else 0
theorem atR_in (nd : R.Nodup) (X : Nat → Rat) {j b : Nat} (h : R[j]? = some b) : atR R X b = X j := by
  have hx : ∃ j, R[j]? = some b := ⟨j, h⟩
  unfold atR
  rw [dif_pos hx, pos_uniq nd hx.choose_spec h]
theorem atR_out (X : Nat → Rat) {b : Nat} (h : b ∉ R) : atR R X b = 0 := by
  unfold atR
  exact dif_neg fun ⟨j, e⟩ => h (getD_pos e).2.2
theorem S_tot (nd : R.Nodup) (X : Nat → Rat) : ∀ pre : Spread, S R.length (fun j => tot pre (R.getD j 0) * X j) = wsum pre (atR R X)
  | [] => by
    rw [S_zero fun j _ => (by show (0 : Rat) * _ = 0; exact Rat.zero_mul _)]
    rfl
  | q :: r => by
    have ih := S_tot nd X r
    have e : S R.length (fun j => tot (q :: r) (R.getD j 0) * X j) = S R.length (fun j => (if q.1 = R.getD j 0 then q.2 else 0) * X j + tot r (R.getD j 0) * X j) := S_congr fun j _ => by
      unfold tot
      rw [List.map_cons, List.sum_cons]
      grind
    rw [e, S_add, ih]
    unfold wsum
    rw [List.map_cons, List.sum_cons]
    congr 1
    by_cases h : q.1 ∈ R
    · obtain ⟨j, hj, ej⟩ := List.mem_iff_getElem.mp h
      have hp : R[j]? = some q.1 := by rw [List.getElem?_eq_getElem hj, ej]
      rw [S_one (i := j) hj (fun k hk hne => by
        rw [if_neg fun z => hne (pos_uniq nd (pos_get hk) (by rw [← z]; exact hp)), Rat.zero_mul]), if_pos (getD_pos hp).1.symm, atR_in nd X hp]
    · rw [S_zero fun k hk => by rw [if_neg fun z => h (by rw [z]; exact (getD_pos (pos_get hk)).2.2), Rat.zero_mul], atR_out X h, Rat.mul_zero]
theorem totK_wsum (kn : Nat → Bool) (pre : Spread) : totK R kn pre = wsum pre (fun b => if b ∈ R then 0 else if kn b = true then 1 else 0) := by
  unfold totK wsum
  congr 1
  exact List.map_congr_left fun q _ => by
    show (if q.1 ∈ R then 0 else if kn q.1 = true then q.2 else 0) = q.2 * (if q.1 ∈ R then 0 else if kn q.1 = true then 1 else 0)
    by_cases h : q.1 ∈ R
    · rw [if_pos h, if_pos h, Rat.mul_zero]
    · rw [if_neg h, if_neg h]
      by_cases k : kn q.1 = true
      · rw [if_pos k, if_pos k, Rat.mul_one]
      · rw [if_neg k, if_neg k, Rat.mul_zero]
/-- the rows, all -/
def rowsOf (w : Walk) (R : List Nat) (kn : Nat → Bool) (g : Rat) (is : List Nat) : Rows := is.map fun i => rowAt R kn g i (w.getD (R.getD i 0) [])
variable {w : Walk} {kn : Nat → Bool} {g : Rat}
theorem rowsOf_cell {i j : Nat} (hi : i < R.length) (hj : j < R.length + 1) : cell (rowsOf w R kn g (List.range R.length)) i j = if j < R.length then (if j = i then 1 else 0) - tot (w.getD (R.getD i 0) []) (R.getD j 0) else g + totK R kn (w.getD (R.getD i 0) []) := by
  have e : (rowsOf w R kn g (List.range R.length)).getD i [] = rowAt R kn g i (w.getD (R.getD i 0) []) := by
    unfold rowsOf
    rw [List.getD_eq_getElem?_getD, List.getElem?_map, List.getElem?_range hi]
    rfl
  show ((rowsOf w R kn g (List.range R.length)).getD i []).getD j 0 = _
  rw [e, rowAt_getD hj]
theorem rowsOf_dot (nd : R.Nodup) (X : Nat → Rat) {i : Nat} (hi : i < R.length) : S R.length (fun j => cell (rowsOf w R kn g (List.range R.length)) i j * X j) = X i - wsum (w.getD (R.getD i 0) []) (atR R X) := by
  have e : S R.length (fun j => cell (rowsOf w R kn g (List.range R.length)) i j * X j) = S R.length (fun j => (if j = i then X i else 0) + (-1) * (tot (w.getD (R.getD i 0) []) (R.getD j 0) * X j)) := S_congr fun j hj => by
    rw [rowsOf_cell hi (by omega), if_pos hj]
    by_cases c : j = i
    · subst c
      rw [if_pos rfl, if_pos rfl]
      grind
    · rw [if_neg c, if_neg c]
      grind
  rw [e, S_add, S_mul, S_tot nd, S_one (i := i) hi (fun j _ c => if_neg c), if_pos rfl]
  grind
theorem rowsOf_firm (gw : GoodWk w) (nd : R.Nodup) (lv : Leaves w R) : Firm R.length (cell (rowsOf w R kn g (List.range R.length))) := by
  intro X x0 hn i hi
  have hX : ∀ i, i < R.length → X i = wsum (w.getD (R.getD i 0) []) (atR R X) := by
    intro i hi
    have h1 := hn i hi
    have e : S (R.length + 1) (fun j => cell (rowsOf w R kn g (List.range R.length)) i j * X j) = S R.length (fun j => cell (rowsOf w R kn g (List.range R.length)) i j * X j) + cell (rowsOf w R kn g (List.range R.length)) i R.length * X R.length := rfl
    rw [e, x0, Rat.mul_zero, Rat.add_zero, rowsOf_dot nd X hi] at h1
    grind
  have hY : ∀ r, r ∈ R → atR R X r = wsum (w.getD r []) (atR R X) := by
    intro r hr
    obtain ⟨j, hj, ej⟩ := List.mem_iff_getElem.mp hr
    have hp : R[j]? = some r := by rw [List.getElem?_eq_getElem hj, ej]
    have h2 := hX j hj
    rw [(getD_pos hp).1] at h2
    rw [atR_in nd X hp]
    exact h2
  have u1 := rim gw lv (f := atR R X) (fun r hr => by rw [← hY r hr]; exact Rat.le_refl) (fun b hb => by rw [atR_out X hb]; exact Rat.le_refl)
  have u2 := rim gw lv (f := fun b => -1 * atR R X b) (fun r hr => by rw [wsum_mul, ← hY r hr]; exact Rat.le_refl) (fun b hb => by rw [atR_out X hb, Rat.mul_zero]; exact Rat.le_refl)
  have h3 := u1 (R.getD i 0)
  have h4 := u2 (R.getD i 0)
  rw [atR_in nd X (pos_get hi)] at h3 h4
  grind
theorem rowsOf_shape (gw : GoodWk w) (lv : ∀ r, r ∈ R → r < w.length) (hg : g = 0 ∨ g = 1) : Shape R.length 5 (rowsOf w R kn g (List.range R.length)) := by
  refine ⟨by unfold rowsOf; rw [List.length_map, List.length_range], fun r hr => ?_, fun r hr => ?_⟩
  · obtain ⟨i, _, rfl⟩ := List.mem_map.mp hr
    exact rowAt_len
  · obtain ⟨i, hi, rfl⟩ := List.mem_map.mp hr
    have hi := List.mem_range.mp hi
    exact rowAt_sz (good_at gw (lv _ (getD_pos (pos_get hi)).2.2)).2 (List.append_nil _).symm hg
end
theorem index_ints {R : List Nat} (nd : R.Nodup) {j k : Nat} (h : R[j]? = some k) : dIndex (intsD R) (.int k) = some (.int j) := by
  have h1 : SeqAt.shaped (.int (k : Int)) = true := (sh_int k).shaped
  have h2 : SeqAt.shaped (intsD R) = true := (sh_map (n := 0) (fun i : Nat => sh_int (i : Nat)) R).shaped
  show (if SeqAt.shaped (.int (k : Int)) = true ∧ SeqAt.shaped (intsD R) = true then ((R.map fun i => PyData.int (i : Nat)).findIdx? fun z => PyData.eqv z (.int k)).map (fun j => PyData.int (j : Nat)) else none) = _
  rw [if_pos ⟨h1, h2⟩]
  obtain ⟨hj, e⟩ := List.getElem?_eq_some_iff.mp h
  have h3 : ((R.map fun i => PyData.int (i : Nat)).findIdx? fun z => PyData.eqv z (.int k)) = some j := by
    rw [List.findIdx?_eq_some_iff_getElem]
    refine ⟨by rw [List.length_map]; exact hj, ?_, fun i hi => ?_⟩
    · rw [List.getElem_map, e, eqv_int]
      exact decide_eq_true rfl
    · rw [List.getElem_map, eqv_int, decide_eq_true_iff]
      intro z
      have hR : R[i]? = some k := by
        rw [List.getElem?_eq_getElem (by omega)]
        congr 1
        omega
      have := pos_uniq nd hR h
      omega
  rw [h3]
  rfl
theorem idx_ok {f g : Ex} {ρ : Rho} {R : List Nat} {j k : Nat} (nd : R.Nodup) (hf : f ρ = .ok (intsD R)) (hg : g ρ = .ok (.int k)) (h : R[j]? = some k) : idx f g ρ = .ok (.int j) := by
  unfold idx
  rw [hf]
  show (g ρ).bind _ = _
  rw [hg]
  show ofO (dIndex (intsD R) (.int k)) = _
  rw [index_ints nd h]
  rfl
theorem set_last {l : List D} {d : D} (h : 0 < l.length) : lSet l (-1) d = some (l.set (l.length - 1) d) := by
  unfold lSet
  have e : ixN l.length (-1) = some (l.length - 1) := by
    show (if (0 : Int) ≤ -1 then _ else _) = _
    rw [if_neg (by omega)]
    show (if _ then _ else _) = _
    rw [if_pos (by omega)]
    congr 1
    omega
  rw [e]
  rfl
theorem known_part_ok (v q : Rat) : m_known_part [fr v, fr q] = .ok (fr (if decide (v = 1) = true then q else 0)) := by
  refine run_rt ?_
  show gSeq _ _ [some (fr v), some (fr q)] = _
  have e : dEq (fr v) (fr 1) = some (.bool (decide (v = 1))) := by
    have : dEq (fr v) (fr 1) = some (.bool (PyData.eqv (fr v) (fr 1))) := dEq_tuple (sh_fr v).shaped (sh_fr 1).shaped
    rw [this, eqv_fr]
  by_cases h : v = 1
  · rw [if_pos (by simpa using h)]
    exact gSeq_rt ((gIf_t (asB_ok (bin_ok rfl rfl (by rw [← fr_one, e, decide_eq_true h])))).trans (gRet_ok rfl))
  · rw [if_neg (by simpa using h)]
    exact (gSeq_nx (gIf_s (asB_ok (bin_ok rfl rfl (by rw [← fr_one, e, decide_eq_false h]))))).trans (gRet_ok rfl)
end LW
end

section
set_option Elab.async false
set_option linter.all false
set_option maxRecDepth 100000
set_option maxHeartbeats 2000000
set_option exponentiation.threshold 100000
set_option autoImplicit false
/-! PL: solved_for, walked. -/
namespace LW
open PySem hiding run
open L2 hiding bin
open DL

def knOf (kn : List Rat) : Nat → Bool := fun b => decide (kn.getD b 0 = 1)
theorem fill {n : Nat} (kn : List Rat) (hk : kn.length = n) : ∀ (ps : List (Nat × Rat)), (ps.map (·.1)).Nodup → (∀ p, p ∈ ps → p.1 < n) →
    (ps.foldl (fun m p => m.set p.1 p.2) kn).length = n ∧ (∀ p, p ∈ ps → (ps.foldl (fun m p => m.set p.1 p.2) kn).getD p.1 0 = p.2) ∧ (∀ b, b ∉ ps.map (·.1) → (ps.foldl (fun m p => m.set p.1 p.2) kn).getD b 0 = kn.getD b 0) ∧ ∀ q, q ∈ ps.foldl (fun m p => m.set p.1 p.2) kn → q ∈ kn ∨ q ∈ ps.map (·.2) := by
  intro ps
  induction ps generalizing kn with
  | nil => intro _ _; exact ⟨hk, (fun p m => by cases m), (fun _ _ => rfl), fun q m => .inl m⟩
  | cons p r ih =>
    intro nd hp
    rw [List.map_cons, List.nodup_cons] at nd
    obtain ⟨a, b, c, d⟩ := ih (kn.set p.1 p.2) (by rw [List.length_set]; exact hk) nd.2 fun q m => hp q (List.mem_cons_of_mem _ m)
    refine ⟨a, fun q m => ?_, fun b hb => ?_, fun q m => ?_⟩
    · rcases List.mem_cons.mp m with rfl | m
      · show (r.foldl _ (kn.set q.1 q.2)).getD q.1 0 = _
        rw [c q.1 nd.1, List.getD_eq_getElem?_getD, List.getElem?_set_self (by rw [hk]; exact hp q List.mem_cons_self)]
        rfl
      · exact b q m
    · rw [List.map_cons, List.mem_cons] at hb
      show (r.foldl _ (kn.set p.1 p.2)).getD b 0 = _
      rw [c b fun z => hb (.inr z), List.getD_eq_getElem?_getD, List.getElem?_set_ne (fun z => hb (.inl z.symm)), ← List.getD_eq_getElem?_getD]
    · rcases d q m with h | h
      · rcases List.mem_or_eq_of_mem_set h with h | h
        · exact .inl h
        · exact .inr (by rw [h, List.map_cons]; exact List.mem_cons_self)
      · exact .inr (by rw [List.map_cons]; exact List.mem_cons_of_mem _ h)
theorem cat_ll {xs ys : List D} (h : xs.length + ys.length ≤ 1000) : dCat (.list xs) (.list ys) = some (.list (xs ++ ys)) := if_pos (line_small h)
theorem zip_ir (xs : List Nat) (ys : List Rat) : zipD (xs.map fun k : Nat => PyData.int k) (ys.map fr) = (List.zip xs ys).map fun p => PyData.tuple [.int p.1, fr p.2] := by
  unfold zipD
  rw [List.zipWith_map, List.zip_eq_zipWith, List.map_zipWith]
theorem neg1 (ρ : Rho) : un (kc (.int 1)) dNeg ρ = .ok (.int (-1)) := un_ok (op := dNeg) (a := .int 1) rfl rfl
theorem list_vec (v : List Rat) : dList (vecD v) = some (vecD v) := rfl
theorem bb8 {m : Nat} (h : m ≤ 8) : 3 * bb 5 (m - 1) ≤ 9000 := by
  have := bb_mono 5 (show m - 1 ≤ 7 by omega)
  have e : bb 5 7 = 767 := rfl
  omega
theorem solved_for_ok {w : Walk} (gw : GoodWk w) {R : List Nat} (nd : R.Nodup) (lv : Leaves w R) {kn : List Rat} (hk : kn.length = w.length) {g : Rat} (hg : g = 0 ∨ g = 1) :
    ∃ made : List Rat, made.length = w.length ∧ m_solved_for [walkD w, intsD R, vecD kn, fr g] = .ok (vecD made) ∧ (∀ b, b ∉ R → made.getD b 0 = kn.getD b 0) ∧
      (∀ r, r ∈ R → made.getD r 0 = g + wsum (w.getD r []) (fun b => if b ∈ R then made.getD b 0 else if kn.getD b 0 = 1 then 1 else 0)) ∧ ∀ q, q ∈ made → q ∈ kn ∨ Sz (bb 5 R.length) q := by
  have hw8 := gw.hi
  have hRn : ∀ r, r ∈ R → r < w.length := fun r m => (lv r m).1
  have hR8 : R.length ≤ w.length := by
    have := nd.length_le_of_subset (l₂ := List.range w.length) fun a m => List.mem_range.mpr (hRn a m)
    rwa [List.length_range] at this
  -- the rows
  obtain ⟨ρ1, e1, c5, c6, c7, c8, h1⟩ := forL_pre (tg := .nm 5) (g := gSeq (gSet 6 (bin (comp [7] (.nm 7) (itS (rd 1)) yes (kc (.tuple [.int 0, .int 1]))) (mkLst (aCons (rd 3) aNil)) dCat)) (gSeq (gPutL 6 (idx (rd 1) (rd 5)) (kc (.tuple [.int 1, .int 1]))) (gSeq (gFor (.tp [7, 8]) (itS (bin (rd 0) (rd 5) dIx)) (gIf (asB (bin (rd 7) (rd 1) dIn)) (gPutL 6 (idx (rd 1) (rd 7)) (callD 2 m_less (aCons (bin (rd 6) (idx (rd 1) (rd 7)) dIx) (aCons (rd 8) aNil)))) (gPutL 6 (un (kc (.int 1)) dNeg) (callD 2 m_plus (aCons (bin (rd 6) (un (kc (.int 1)) dNeg) dIx) (aCons (callD 2 m_known_part (aCons (bin (rd 2) (rd 7) dIx) (aCons (rd 8) aNil))) aNil)))))) (gApp 4 (rd 6)))))
    (fun k : Nat => PyData.int k) (fun pre ρ => ∃ c5 c6 c7 c8, ρ = [some (walkD w), some (intsD R), some (vecD kn), some (fr g), some (matD (rowsOf w R (knOf kn) g (List.range pre.length))), c5, c6, c7, c8, none, none]) R (fun pre r post ρ e hp => by
      obtain ⟨c5, c6, c7, c8, rfl⟩ := hp
      have hpos : R[pre.length]? = some r := by rw [e, List.getElem?_append_right (Nat.le_refl _), Nat.sub_self]; rfl
      obtain ⟨egd, hil, hrm⟩ := getD_pos hpos
      have hrn := hRn r hrm
      generalize hi : pre.length = i at hpos egd hil
      obtain ⟨hwr, gs⟩ := good_at gw hrn
      refine ⟨[some (walkD w), some (intsD R), some (vecD kn), some (fr g), some (matD (rowsOf w R (knOf kn) g (List.range i))), some (.int r), c6, c7, c8, none, none], ?_⟩
      obtain ⟨ρ2, e2, d7, d8, h2⟩ := forL_pre (tg := .tp [7, 8]) (g := gIf (asB (bin (rd 7) (rd 1) dIn)) (gPutL 6 (idx (rd 1) (rd 7)) (callD 2 m_less (aCons (bin (rd 6) (idx (rd 1) (rd 7)) dIx) (aCons (rd 8) aNil)))) (gPutL 6 (un (kc (.int 1)) dNeg) (callD 2 m_plus (aCons (bin (rd 6) (un (kc (.int 1)) dNeg) dIx) (aCons (callD 2 m_known_part (aCons (bin (rd 2) (rd 7) dIx) (aCons (rd 8) aNil))) aNil)))))
        prD (fun p1 ρ => ∃ d7 d8, ρ = [some (walkD w), some (intsD R), some (vecD kn), some (fr g), some (matD (rowsOf w R (knOf kn) g (List.range i))), some (.int r), some (vecD (rowAt R (knOf kn) g i p1)), d7, d8, none, none]) (w.getD r []) (fun p1 q p2 ρ e3 hp => by
          obtain ⟨d7, d8, rfl⟩ := hp
          have hq : q ∈ w.getD r [] := by rw [e3]; exact List.mem_append_right _ List.mem_cons_self
          have hqn := (gs.mem q hq).1
          have hqz : Sz 15 q.2 := gs.sz hq
          have hrz : RowB 5 (rowAt R (knOf kn) g i p1) := rowAt_sz gs e3 hg
          refine ⟨[some (walkD w), some (intsD R), some (vecD kn), some (fr g), some (matD (rowsOf w R (knOf kn) g (List.range i))), some (.int r), some (vecD (rowAt R (knOf kn) g i p1)), some (.int q.1), some (fr q.2), none, none], [some (walkD w), some (intsD R), some (vecD kn), some (fr g), some (matD (rowsOf w R (knOf kn) g (List.range i))), some (.int r), some (vecD (rowAt R (knOf kn) g i (p1 ++ [q]))), some (.int q.1), some (fr q.2), none, none], rfl, ?_, _, _, rfl⟩
          by_cases c : q.1 ∈ R
          · obtain ⟨k, hkl, ek⟩ := List.mem_iff_getElem.mp c
            have hk2 : R[k]? = some q.1 := by rw [List.getElem?_eq_getElem hkl, ek]
            have hgd := getD_ok (l := rowAt R (knOf kn) g i p1) (j := k) (by rw [rowAt_len]; omega)
            refine (gIf_t (asB_ok (bin_ok rfl rfl (by rw [in_ints, decide_eq_true c])))).trans ((gPutL_ok (k := (k : Int)) (d := fr ((rowAt R (knOf kn) g i p1).getD k 0 - q.2)) ((call2 (bin_ok rfl (idx_ok nd rfl rfl hk2) (ix_vec hgd.1)) rfl).trans (lessG (hrz.sz hgd.2) hqz ?_)) (idx_ok nd rfl rfl hk2) rfl (put_vec (by rw [rowAt_len]; omega))).trans ?_)
            · exact Nat.lt_of_lt_of_le (mul_lt (hrz.sz hgd.2).2 hqz.2) (Nat.pow_le_pow_right (by decide) (by decide))
            · rw [rowAt_in nd hk2]
              rfl
          · have hgd := getD_ok (l := rowAt R (knOf kn) g i p1) (j := R.length) (by rw [rowAt_len]; omega)
            have hlen : ((rowAt R (knOf kn) g i p1).map fr).length = R.length + 1 := by rw [List.length_map, rowAt_len]
            have hkn := getD_ok (l := kn) (j := q.1) (by rw [hk]; exact hqn)
            have hlast : dIx (vecD (rowAt R (knOf kn) g i p1)) (.int (-1)) = some (fr ((rowAt R (knOf kn) g i p1).getD R.length 0)) := ix_last (by rw [hlen, Nat.add_sub_cancel, List.getElem?_map, hgd.1]; rfl) (by rw [hlen]; omega)
            have hz2 : Sz 15 (if knOf kn q.1 = true then q.2 else 0) := by
              split
              · exact hqz
              · exact ⟨by decide, by decide⟩
            have e5 := known_part_ok (kn.getD q.1 0) q.2
            refine (gIf_f (asB_ok (bin_ok rfl rfl (by rw [in_ints, decide_eq_false c])))).trans ((gPutL_ok (k := -1) (d := fr ((rowAt R (knOf kn) g i p1).getD R.length 0 + if knOf kn q.1 = true then q.2 else 0)) ((call2 (bin_ok rfl (neg1 _) hlast) ((call2 (bin_ok rfl rfl (ix_vec hkn.1)) rfl).trans e5)).trans (plusG (hrz.sz hgd.2) hz2 ?_)) (neg1 _) rfl (set_last (by rw [hlen]; omega))).trans ?_)
            · exact Nat.lt_of_lt_of_le (mul_lt (hrz.sz hgd.2).2 hz2.2) (Nat.pow_le_pow_right (by decide) (by decide))
            · rw [hlen, Nat.add_sub_cancel, set_vec, rowAt_out c]
              rfl)
        (ρ := [some (walkD w), some (intsD R), some (vecD kn), some (fr g), some (matD (rowsOf w R (knOf kn) g (List.range i))), some (.int r), some (vecD (rowAt R (knOf kn) g i [])), c7, c8, none, none]) ⟨c7, c8, rfl⟩
      refine ⟨[some (walkD w), some (intsD R), some (vecD kn), some (fr g), some (matD (rowsOf w R (knOf kn) g (List.range (i + 1)))), some (.int r), some (vecD (rowAt R (knOf kn) g i (w.getD r []))), d7, d8, none, none], rfl, ?_, _, _, _, _, by rw [List.length_append, hi]; rfl⟩
      have e3 := comp_const (i := 7) (vs := [7]) (f := rd 1) (fe := kc (.tuple [.int 0, .int 1])) (d := .tuple [.int 0, .int 1]) (enc := fun k : Nat => PyData.int k) (l := R) (ρ := [some (walkD w), some (intsD R), some (vecD kn), some (fr g), some (matD (rowsOf w R (knOf kn) g (List.range i))), some (.int r), c6, c7, c8, none, none]) (.inr rfl) (line_small (by omega)) (fun _ => rfl)
      refine (gSeq_nx (gSet_ok (bin_ok e3 (mkLst_ok (aCons_ok rfl rfl) rfl) (cat_ll (by rw [List.length_replicate, List.length_singleton]; omega))))).trans ?_
      have e4 : (List.replicate R.length (PyData.tuple [.int 0, .int 1]) ++ [fr g]) = (List.replicate R.length (0 : Rat) ++ [g]).map fr := by
        rw [List.map_append, List.map_replicate]
        rfl
      have e6 : lSet (List.replicate R.length (PyData.tuple [.int 0, .int 1]) ++ [fr g]) (i : Int) (.tuple [.int 1, .int 1]) = some ((rowAt R (knOf kn) g i []).map fr) := by
        rw [e4, ← rowAt_nil hil, ← set_vec, lSet_nat (by rw [List.length_map, List.length_append, List.length_replicate, List.length_singleton]; omega)]
        rfl
      refine (gSeq_nx (gPutL_ok (k := (i : Int)) rfl (idx_ok nd rfl rfl hpos) rfl e6)).trans ?_
      refine (gSeq_nx (gFor_nx (itS_tuple (bin_ok rfl rfl (ix_walk hwr))) e2)).trans ?_
      subst h2
      refine (gApp_ok rfl rfl (by unfold rowsOf; rw [List.length_map, List.length_map, List.length_range]; omega)).trans ?_
      have e7 : matD (rowsOf w R (knOf kn) g (List.range (i + 1))) = .list ((rowsOf w R (knOf kn) g (List.range i)).map vecD ++ [vecD (rowAt R (knOf kn) g i (w.getD r []))]) := by
        unfold matD rowsOf
        rw [List.range_succ, List.map_append, List.map_append, List.map_cons, List.map_nil, egd]
        rfl
      rw [e7]
      rfl)
    (ρ := [some (walkD w), some (intsD R), some (vecD kn), some (fr g), some (.list []), none, none, none, none, none, none]) ⟨_, _, _, _, rfl⟩
  have sh := rowsOf_shape (kn := knOf kn) gw hRn hg
  obtain ⟨x, hx, ex, sx, zx⟩ := solved_ok sh (by decide) (bb8 (by omega)) (by omega) (rowsOf_firm (kn := knOf kn) (g := g) gw nd lv)
  have hzip : ∀ p, p ∈ List.zip R x → p.1 < w.length := fun p m => hRn _ (List.of_mem_zip m).1
  have hkeys : (List.zip R x).map (·.1) = R := List.map_fst_zip (by omega)
  obtain ⟨f1, f2, f3, f4⟩ := fill kn hk (List.zip R x) (by rw [hkeys]; exact nd) hzip
  generalize hmade : (List.zip R x).foldl (fun m p => m.set p.1 p.2) kn = made at f1 f2 f3 f4
  have hval : ∀ j, j < R.length → made.getD (R.getD j 0) 0 = x.getD j 0 := by
    intro j hj
    have hz : (List.zip R x)[j]? = some (R.getD j 0, x.getD j 0) := List.getElem?_zip_eq_some.mpr ⟨pos_get hj, (getD_ok (by omega)).1⟩
    exact f2 _ (List.mem_of_getElem? hz)
  have hatR : ∀ b, b ∈ R → atR R (fun j => x.getD j 0) b = made.getD b 0 := by
    intro b hb
    obtain ⟨j, hj, ej⟩ := List.mem_iff_getElem.mp hb
    have hp : R[j]? = some b := by rw [List.getElem?_eq_getElem hj, ej]
    rw [atR_in nd _ hp, ← hval j hj, (getD_pos hp).1]
  refine ⟨made, f1, run_rt ?_, fun b hb => f3 b (by rw [hkeys]; exact hb), fun r hr => ?_, fun q hq => ?_⟩
  · show gSeq _ _ [some (walkD w), some (intsD R), some (vecD kn), some (fr g), none, none, none, none, none, none, none] = _
    refine (gSeq_nx (gSet_ok (mkLst_ok rfl rfl))).trans ?_
    refine (gSeq_nx (gFor_nx (itS_list rfl) e1)).trans ?_
    subst h1
    refine (gSeq_nx (gSet_ok (un_ok rfl (list_vec kn)))).trans ?_
    obtain ⟨ρ2, e2, a5, a10, h2⟩ := forL_pre (tg := .tp [5, 10]) (g := gPutL 9 (rd 5) (rd 10)) (fun p : Nat × Rat => PyData.tuple [.int p.1, fr p.2])
      (fun pre ρ => ∃ a5 a10, ρ = [some (walkD w), some (intsD R), some (vecD kn), some (fr g), some (matD (rowsOf w R (knOf kn) g (List.range R.length))), a5, c6, c7, c8, some (vecD (pre.foldl (fun m p => m.set p.1 p.2) kn)), a10]) (List.zip R x) (fun pre p post ρ e hp => by
        obtain ⟨a5, a10, rfl⟩ := hp
        have hpn : p.1 < w.length := hzip p (by rw [e]; exact List.mem_append_right _ List.mem_cons_self)
        have hlen : ∀ (l : List (Nat × Rat)) (k : List Rat), (l.foldl (fun m p => m.set p.1 p.2) k).length = k.length := by
          intro l
          induction l with
          | nil => intro k; rfl
          | cons a r ih => intro k; exact (ih _).trans List.length_set
        refine ⟨[some (walkD w), some (intsD R), some (vecD kn), some (fr g), some (matD (rowsOf w R (knOf kn) g (List.range R.length))), some (.int p.1), c6, c7, c8, some (vecD (pre.foldl (fun m p => m.set p.1 p.2) kn)), some (fr p.2)], _, rfl, gPutL_ok rfl rfl rfl (put_vec (by rw [hlen, hk]; exact hpn)), some (.int p.1), some (fr p.2), ?_⟩
        rw [List.foldl_append]
        rfl)
      (ρ := [some (walkD w), some (intsD R), some (vecD kn), some (fr g), some (matD (rowsOf w R (knOf kn) g (List.range R.length))), c5, c6, c7, c8, some (vecD kn), none]) ⟨c5, none, rfl⟩
    refine (gSeq_nx (gFor_nx ((itZ_list (xs := R.map fun k : Nat => PyData.int k) (ys := x.map fr) rfl ((call1 rfl).trans ex)).trans (by rw [zip_ir])) e2)).trans ?_
    subst h2
    rw [hmade]
    exact gRet_ok rfl
  · obtain ⟨j, hj, ej⟩ := List.mem_iff_getElem.mp hr
    have hp : R[j]? = some r := by rw [List.getElem?_eq_getElem hj, ej]
    have h1 := sx j hj
    rw [rowsOf_dot nd (fun j => x.getD j 0) hj, rowsOf_cell hj (by omega), if_neg (Nat.lt_irrefl _), (getD_pos hp).1, totK_wsum] at h1
    have h2 := hval j hj
    rw [(getD_pos hp).1] at h2
    have h3 : wsum (w.getD r []) (fun b => if b ∈ R then made.getD b 0 else if kn.getD b 0 = 1 then 1 else 0) = wsum (w.getD r []) (atR R (fun j => x.getD j 0)) + wsum (w.getD r []) (fun b => if b ∈ R then 0 else if knOf kn b = true then 1 else 0) := by
      rw [← wsum_add]
      refine wsum_congr _ fun q _ => ?_
      by_cases c : q.1 ∈ R
      · rw [if_pos c, if_pos c, hatR _ c, Rat.add_zero]
      · rw [if_neg c, if_neg c, atR_out _ c, Rat.zero_add]
        unfold knOf
        by_cases d : kn.getD q.1 0 = 1 <;> simp [d]
    rw [h3, h2]
    have h1' : x.getD j 0 - wsum (w.getD r []) (atR R (fun j => x.getD j 0)) = g + wsum (w.getD r []) (fun b => if b ∈ R then 0 else if knOf kn b = true then 1 else 0) := h1
    grind
  · rcases f4 q hq with h | h
    · exact .inl h
    · obtain ⟨p, hp, rfl⟩ := List.mem_map.mp h
      exact .inr (zx _ (List.of_mem_zip hp).2)
end LW
end

section
set_option Elab.async false
set_option linter.all false
set_option maxRecDepth 100000
set_option maxHeartbeats 2000000
set_option exponentiation.threshold 100000
set_option autoImplicit false
/-! PM: chances, and what the law makes of a spread. -/
namespace LW
open PySem hiding run
open L2 hiding bin
open DL

def ind (n : Nat) (G : List Nat) : List Rat := (List.range n).map fun k => if k ∈ G then 1 else 0
theorem ind_len (n : Nat) (G : List Nat) : (ind n G).length = n := by
  unfold ind
  rw [List.length_map, List.length_range]
theorem ind_get {n k : Nat} (G : List Nat) (h : k < n) : (ind n G).getD k 0 = if k ∈ G then 1 else 0 := by
  unfold ind
  rw [List.getD_eq_getElem?_getD, List.getElem?_map, List.getElem?_range h]
  rfl
theorem ind_out {n k : Nat} (G : List Nat) (h : ¬ k < n) : (ind n G).getD k 0 = 0 := by
  rw [List.getD_eq_getElem?_getD, List.getElem?_eq_none (by rw [ind_len]; omega)]
  rfl
theorem ind_nil (n : Nat) : ind n [] = List.replicate n 0 := by
  unfold ind
  have : (fun k : Nat => (if k ∈ ([] : List Nat) then 1 else 0 : Rat)) = fun _ => 0 := funext fun k => if_neg (by intro z; cases z)
  rw [this, map_const, List.length_range]
theorem ind_set {n k : Nat} (G : List Nat) (h : k < n) : (ind n G).set k 1 = ind n (G ++ [k]) := by
  apply List.ext_getElem?
  intro j
  by_cases hj : j < n
  · unfold ind
    rw [List.getElem?_set, List.getElem?_map, List.getElem?_map, List.getElem?_range hj, List.length_map, List.length_range]
    by_cases c : k = j
    · subst c
      rw [if_pos rfl, if_pos h]
      show some (1 : Rat) = some (if k ∈ G ++ [k] then 1 else 0)
      rw [if_pos (List.mem_append_right _ List.mem_cons_self)]
    · rw [if_neg c]
      show some (if j ∈ G then (1 : Rat) else 0) = some (if j ∈ G ++ [k] then 1 else 0)
      have e : (j ∈ G ++ [k]) ↔ j ∈ G := by
        rw [List.mem_append, List.mem_singleton]
        exact ⟨fun z => z.resolve_right fun y => c y.symm, .inl⟩
      by_cases d : j ∈ G
      · rw [if_pos d, if_pos (e.mpr d)]
      · rw [if_neg d, if_neg fun z => d (e.mp z)]
  · rw [List.getElem?_eq_none (by rw [List.length_set, ind_len]; omega), List.getElem?_eq_none (by rw [ind_len]; omega)]
theorem ind_mem {n : Nat} {G : List Nat} {q : Rat} (h : q ∈ ind n G) : q = 0 ∨ q = 1 := by
  obtain ⟨k, _, rfl⟩ := List.mem_map.mp h
  show (if k ∈ G then (1 : Rat) else 0) = 0 ∨ (if k ∈ G then (1 : Rat) else 0) = 1
  by_cases c : k ∈ G
  · exact .inr (if_pos c)
  · exact .inl (if_neg c)
theorem Sz.zero {n : Nat} (h : 0 < n) : Sz n 0 := ⟨Nat.pow_pos (by decide), Nat.one_lt_two_pow (by omega)⟩
theorem Sz.one {n : Nat} (h : 0 < n) : Sz n 1 := ⟨Nat.one_lt_two_pow (by omega), Nat.one_lt_two_pow (by omega)⟩
/-- the list of chances to come to G -/
structure Chances (w : Walk) (G : List Nat) (v : List Rat) : Prop where
  len : v.length = w.length
  goal : ∀ b, b ∈ G → v.getD b 0 = 1
  lost : ∀ b, ¬ Come w G b → v.getD b 0 = 0
  mean : ∀ b, b < w.length → b ∉ G → Come w G b → v.getD b 0 = wsum (w.getD b []) (fun a => v.getD a 0)
  sz : ∀ q, q ∈ v → Sz 767 q
theorem chances_of_ok {w : Walk} {G : List Nat} (gw : GoodWk w) (hG : G.Pairwise (· < ·)) (hGn : ∀ g, g ∈ G → g < w.length) : ∃ v, Chances w G v ∧ m_chances_of [walkD w, intsD G] = .ok (vecD v) := by
  have hw8 := gw.hi
  have ndG : G.Nodup := hG.imp fun h => Nat.ne_of_lt h
  have hG8 : G.length ≤ w.length := by
    have := ndG.length_le_of_subset (l₂ := List.range w.length) fun a m => List.mem_range.mpr (hGn a m)
    rwa [List.length_range] at this
  obtain ⟨C, hC, hCm, eC⟩ := can_come_ok gw ndG hGn
  have ndC : C.Nodup := hC.imp fun h => Nat.ne_of_lt h
  have hC8 : C.length ≤ w.length := by
    have := ndC.length_le_of_subset (l₂ := List.range w.length) fun a m => List.mem_range.mpr ((hCm a).mp m).1
    rwa [List.length_range] at this
  generalize hR : C.filter (fun a => !decide (a ∈ G)) = R
  have hRm : ∀ a, a ∈ R ↔ (a < w.length ∧ Come w G a) ∧ a ∉ G := fun a => by
    rw [← hR, List.mem_filter, hCm]
    simp
  have ndR : R.Nodup := by rw [← hR]; exact ndC.filter _
  have lv : Leaves w R := fun r hr => by
    obtain ⟨⟨h1, g, hg, p⟩, _⟩ := (hRm r).mp hr
    exact ⟨h1, g, fun z => ((hRm g).mp z).2 hg, p⟩
  have hR7 : R.length ≤ 7 := by
    cases hGe : G with
    | nil =>
      have : R = [] := by
        cases hRe : R with
        | nil => rfl
        | cons a r =>
          obtain ⟨⟨_, g, hg, _⟩, _⟩ := (hRm a).mp (by rw [hRe]; exact List.mem_cons_self)
          rw [hGe] at hg
          cases hg
      rw [this]
      exact Nat.zero_le _
    | cons g _ =>
      have hg : g ∈ G := by rw [hGe]; exact List.mem_cons_self
      have nd2 : (g :: R).Nodup := List.nodup_cons.mpr ⟨fun z => ((hRm g).mp z).2 hg, ndR⟩
      have := nd2.length_le_of_subset (l₂ := List.range w.length) fun a m => List.mem_range.mpr (by
        rcases List.mem_cons.mp m with rfl | m
        · exact hGn _ hg
        · exact ((hRm a).mp m).1.1)
      rw [List.length_range, List.length_cons] at this
      omega
  obtain ⟨made, hml, em, ho, hi, hz⟩ := solved_for_ok gw ndR lv (kn := ind w.length G) (ind_len _ _) (g := 0) (.inl rfl)
  have hmb : bb 5 R.length ≤ 767 := Nat.le_trans (bb_mono 5 hR7) (by decide)
  have hval : ∀ b, b ∉ R → made.getD b 0 = (if b < w.length ∧ b ∈ G then 1 else 0) := fun b hb => by
    rw [ho b hb]
    by_cases c : b < w.length
    · rw [ind_get G c]
      by_cases d : b ∈ G
      · rw [if_pos d, if_pos ⟨c, d⟩]
      · rw [if_neg d, if_neg fun z => d z.2]
    · rw [ind_out G c, if_neg fun z => c z.1]
  refine ⟨made, ⟨hml, fun b hb => ?_, fun b hb => ?_, fun b hbn hbG hbc => ?_, fun q hq => ?_⟩, run_rt ?_⟩
  · rw [hval b fun z => ((hRm b).mp z).2 hb, if_pos ⟨hGn b hb, hb⟩]
  · rw [hval b fun z => hb ((hRm b).mp z).1.2, if_neg fun z => hb ⟨b, z.2, .refl b⟩]
  · rw [hi b ((hRm b).mpr ⟨⟨hbn, hbc⟩, hbG⟩), Rat.zero_add]
    refine wsum_congr _ fun q hq => ?_
    by_cases c : q.1 ∈ R
    · rw [if_pos c]
    · rw [if_neg c, ho _ c]
      have hqn : q.1 < w.length := ((good_at gw hbn).2.mem q hq).1
      rw [ind_get G hqn]
      by_cases d : q.1 ∈ G
      · rw [if_pos d, if_pos rfl]
      · rw [if_neg d, if_neg (by decide)]
  · rcases hz q hq with h | h
    · rcases ind_mem h with rfl | rfl
      · exact Sz.zero (by decide)
      · exact Sz.one (by decide)
    · exact h.mono hmb
  · show gSeq _ _ [some (walkD w), some (intsD G), none, none, none, none, none] = _
    refine (gSeq_nx (gSet_ok ((call2 rfl rfl).trans eC))).trans ?_
    refine (gSeq_nx (gSet_ok (comp_const (enc := spreadD) (l := w) (.inl rfl) (line_small (by omega)) (fun _ => rfl)))).trans ?_
    obtain ⟨ρ1, e1, c4, h1⟩ := forL_pre (tg := .nm 4) (g := gPutL 3 (rd 4) (kc (.tuple [.int 1, .int 1]))) (fun k : Nat => PyData.int k) (fun pre ρ => ∃ c4, ρ = [some (walkD w), some (intsD G), some (intsD C), some (vecD (ind w.length pre)), c4, none, none]) G (fun pre k post ρ e hp => by
      obtain ⟨c4, rfl⟩ := hp
      have hk : k < w.length := hGn k (by rw [e]; exact List.mem_append_right _ List.mem_cons_self)
      refine ⟨_, [some (walkD w), some (intsD G), some (intsD C), some (vecD (ind w.length (pre ++ [k]))), some (.int k), none, none], rfl, (gPutL_ok (k := (k : Int)) (d := fr 1) rfl rfl rfl (put_vec (by rw [ind_len]; exact hk))).trans ?_, some (.int k), rfl⟩
      rw [ind_set _ hk]
      rfl) (ρ := [some (walkD w), some (intsD G), some (intsD C), some (vecD (ind w.length [])), none, none, none]) ⟨none, rfl⟩
    rw [ind_nil, vec_zero] at e1
    refine (gSeq_nx (gFor_nx (itS_list rfl) e1)).trans ?_
    subst h1
    have e2 := comp_ok (vs := [4]) (tg := .nm 4) (fi := itS (rd 2)) (ft := asB (bin (rd 4) (rd 1) dNotIn)) (fe := rd 4) (ρ := [some (walkD w), some (intsD G), some (intsD C), some (vecD (ind w.length G)), c4, none, none]) (fun k : Nat => PyData.int k) (fun a => !decide (a ∈ G)) (fun k : Nat => PyData.int k) C (line_small (by omega)) (itS_list rfl) (fun k _ => ⟨[some (walkD w), some (intsD G), some (intsD C), some (vecD (ind w.length G)), some (.int k), none, none], rfl, asB_ok (bin_ok rfl rfl (notIn_ints G k)), fun _ => rfl⟩)
    rw [hR] at e2
    refine (gSeq_nx (gSet_ok e2)).trans ?_
    exact gRet_ok ((call4 rfl rfl rfl rfl).trans em)
theorem need_rooms_ok {w : Walk} {G : List Nat} (hG : G.Pairwise (· < ·)) (hGn : ∀ g, g ∈ G → g < w.length) : m_need_rooms [walkD w, intsD G] = .ok .none := by
  obtain ⟨ρ1, e1, l, c, hl, h1⟩ := forL_pre (tg := .nm 3) (g := gSeq (gDrop (callD 2 m_need_room (aCons (rd 0) (aCons (rd 3) aNil)))) (gSeq (gIf (asB (bin (rd 3) (rd 2) dLe)) (gRaise ("NoRooms" : PySem.Str)) gSkip) (gSet 2 (rd 3)))) (fun k : Nat => PyData.int k)
    (fun pre ρ => ∃ (l : Int) (c : Option D), (l = -1 ∨ ∃ x, x ∈ pre ∧ l = (x : Nat)) ∧ ρ = [some (walkD w), some (intsD G), some (.int l), c]) G (fun pre k post ρ e hp => by
      obtain ⟨l, c, hl, rfl⟩ := hp
      have hk : k < w.length := hGn k (by rw [e]; exact List.mem_append_right _ List.mem_cons_self)
      have hlt : l < k := by
        rcases hl with rfl | ⟨x, hx, rfl⟩
        · omega
        · rw [e, List.pairwise_append] at hG
          have := hG.2.2 x hx k List.mem_cons_self
          omega
      refine ⟨[some (walkD w), some (intsD G), some (.int l), some (.int k)], _, rfl, (gSeq_nx (gDrop_ok ((call2 rfl rfl).trans (need_room_ok hk)))).trans ((gSeq_nx (gIf_s (asB_ok (bin_ok rfl rfl ?_)))).trans (gSet_ok rfl)), (k : Int), some (.int k), .inr ⟨k, List.mem_append_right _ List.mem_cons_self, rfl⟩, rfl⟩
      show some (PyData.bool (decide ((k : Int) ≤ l))) = _
      rw [decide_eq_false (by omega)]) (ρ := [some (walkD w), some (intsD G), some (.int (-1)), none]) ⟨-1, none, .inl rfl, rfl⟩
  refine run_nx (ρ := ρ1) ?_
  show gSeq _ _ [some (walkD w), some (intsD G), none, none] = _
  refine (gSeq_nx (gIf_s (notT_ok (b := true) (asB_ok (un_ok rfl (isi_list _)))))).trans ?_
  refine (gSeq_nx (gSet_ok (neg1 _))).trans ?_
  exact gFor_nx (itS_list rfl) e1
theorem chances_ok {w : Walk} {G : List Nat} (gw : GoodWk w) (hG : G.Pairwise (· < ·)) (hGn : ∀ g, g ∈ G → g < w.length) : ∃ v, Chances w G v ∧ m_chances [walkD w, intsD G] = .ok (vecD v) := by
  obtain ⟨v, hv, e⟩ := chances_of_ok gw hG hGn
  refine ⟨v, hv, run_rt ?_⟩
  show gSeq _ _ [some (walkD w), some (intsD G)] = _
  exact (gSeq_nx (gDrop_ok ((call2 rfl rfl).trans (need_rooms_ok hG hGn)))).trans (gRet_ok ((call2 rfl rfl).trans e))
end LW
end

section
set_option Elab.async false
set_option linter.all false
set_option maxRecDepth 100000
set_option maxHeartbeats 2000000
set_option exponentiation.threshold 100000
set_option autoImplicit false
/-! PO: the law's goals and its means. -/
namespace LW
open PySem hiding run
open L2 hiding bin
open DL

theorem Sz.add {a b : Rat} {n m : Nat} (ha : Sz n a) (hb : Sz m b) : Sz (n + m + 1) (a + b) := by
  have e : (a + b) * ((a.den * b.den : Nat) : Rat) = ((a.num * b.den + b.num * a.den : Int) : Rat) := by
    rw [Rat.natCast_mul, Rat.intCast_add, Rat.intCast_mul, Rat.intCast_mul, ← mul_den_num a, ← mul_den_num b, Rat.intCast_natCast, Rat.intCast_natCast]
    grind
  obtain ⟨h1, h2⟩ := num_of e (Nat.mul_pos (Nat.pos_of_ne_zero a.den_nz) (Nat.pos_of_ne_zero b.den_nz))
  have h3 := mul_lt ha.2 hb.2
  have h4 := mulN ha.1 (natAbs_den b hb.2)
  have h5 := mulN hb.1 (natAbs_den a ha.2)
  rw [Nat.add_comm m n] at h5
  have h6 : 2 ^ (n + m + 1) = 2 ^ (n + m) * 2 := Nat.pow_succ ..
  exact ⟨by omega, by omega⟩
theorem wsum_snoc (s : Spread) (q : Nat × Rat) (f : Nat → Rat) : wsum (s ++ [q]) f = wsum s f + q.2 * f q.1 := rsum_snoc s q _
theorem law_made_ok {n b : Nat} {s : Spread} (gs : GoodSp n s) {v : List Rat} (hv : v.length = n) (hz : ∀ q, q ∈ v → Sz b q) (hb : 0 < b) (hb2 : b ≤ 1200) : m_law_made [spreadD s, vecD v] = .ok (fr (wsum s fun a => v.getD a 0)) := by
  obtain ⟨ρ1, e1, c, h1, _⟩ := forL_pre (tg := .nm 3) (g := gSet 2 (callD 3 m_law_add (aCons (rd 2) (aCons (bin (rd 3) (kc (.int 1)) dIx) (aCons (bin (rd 1) (bin (rd 3) (kc (.int 0)) dIx) dIx) aNil))))) prD
    (fun pre ρ => ∃ c, ρ = [some (spreadD s), some (vecD v), some (fr (wsum pre fun a => v.getD a 0)), c] ∧ Sz (1 + (b + 16) * pre.length) (wsum pre fun a => v.getD a 0)) s (fun pre q post ρ e hp => by
      obtain ⟨c, rfl, ha⟩ := hp
      have hq : q ∈ s := by rw [e]; exact List.mem_append_right _ List.mem_cons_self
      have hpre : pre.length ≤ 2 := by
        have h1 := congrArg List.length e
        rw [List.length_append, List.length_cons] at h1
        have := gs.few
        omega
      have hqn := (gs.mem q hq).1
      have hg := getD_ok (l := v) (j := q.1) (by rw [hv]; exact hqn)
      have hl : 1 + (b + 16) * pre.length ≤ 2500 := by
        have := Nat.mul_le_mul_left (b + 16) hpre
        omega
      refine ⟨[some (spreadD s), some (vecD v), some (fr (wsum pre fun a => v.getD a 0)), some (prD q)], _, rfl, gSet_ok ((call3 rfl (bin_ok rfl rfl (atI1 _ _ _)) (bin_ok rfl (bin_ok rfl rfl (atI0 _ _)) (ix_vec hg.1))).trans (law_add_ok (ha.mono hl) ((gs.sz hq).mono (by decide)) ((hz _ hg.2).mono (by omega)))), some (prD q), ?_, ?_⟩
      · rw [wsum_snoc, Rat.mul_comm q.2]
        rfl
      · rw [wsum_snoc, List.length_append]
        refine (ha.add ((gs.sz hq).mul (hz _ hg.2))).mono ?_
        show _ ≤ 1 + (b + 16) * (pre.length + 1)
        rw [Nat.mul_succ]
        omega)
    (ρ := [some (spreadD s), some (vecD v), some (fr 0), none]) ⟨none, rfl, Sz.zero (by omega)⟩
  refine run_rt ?_
  show gSeq _ _ [some (spreadD s), some (vecD v), none, none] = _
  refine (gSeq_nx (gSet_ok (mkTup_ok (aCons_ok rfl (aCons_ok rfl rfl)) rfl))).trans ?_
  refine (gSeq_nx (gFor_nx (itS_tuple rfl) e1)).trans ?_
  subst h1
  exact gRet_ok rfl
theorem goals_ok (ns : List Int) (at_ n : Nat) (hn : n ≤ 8) : ∃ G : List Nat, G.Pairwise (· < ·) ∧ (∀ g, g ∈ G → g < n) ∧ m_law_goals [scrD ns, .int at_, .int n] = .ok (intsD G) := by
  have hm := fun k : Nat => mixed_ok ns (at_ + k) 3 (by decide)
  refine ⟨(List.range n).filter fun k => decide ((hm k).choose = 0), (List.pairwise_lt_range).filter _, fun g hg => List.mem_range.mp (List.mem_filter.mp hg).1, run_rt (gRet_ok ?_)⟩
  have e2 := comp_ok (vs := [3]) (tg := .nm 3) (fi := itR1 (rd 2)) (ft := asB (bin (callD 3 m_law_mixed (aCons (rd 0) (aCons (bin (rd 1) (rd 3) dAdd) (aCons (kc (.int 3)) aNil)))) (kc (.int 0)) dEq)) (fe := rd 3) (ρ := [some (scrD ns), some (.int at_), some (.int n), none]) (fun k : Nat => PyData.int k) (fun k => decide ((hm k).choose = 0)) (fun k : Nat => PyData.int k) (List.range n) (by rw [List.length_range]; exact line_small (by omega)) (itR1_nat rfl (by omega)) (fun k _ => ⟨[some (scrD ns), some (.int at_), some (.int n), some (.int k)], rfl, asB_ok (bin_ok ((call3 rfl (bin_ok rfl rfl rfl) rfl).trans (hm k).choose_spec.2) rfl (by
    rw [eq_ii]
    congr 2
    by_cases c : (hm k).choose = 0
    · rw [c]; rfl
    · rw [decide_eq_false c, beq_eq_false_iff_ne]
      omega)), fun _ => rfl⟩)
  exact e2
theorem ne_ints (v u : List Nat) : dNe (intsD v) (intsD u) = some (.bool (!decide (v = u))) := by
  have hs : ∀ l : List Nat, SeqAt.shaped (intsD l) = true := fun l => (sh_map (n := 0) (fun i : Nat => sh_int (i : Nat)) l).shaped
  have he : PyData.eqv (intsD v) (intsD u) = decide (v = u) := eqv_list (enc := fun k : Nat => PyData.int k) (fun a b => by
    rw [eqv_int]
    by_cases h : a = b
    · subst h; simp
    · rw [decide_eq_false h, decide_eq_false (by omega)]) v u
  rw [dNe_ok (hs v) (hs u), he]
theorem ne_fr (a b : Rat) : dNe (fr a) (fr b) = some (.bool (!decide (a = b))) := by rw [dNe_ok (sh_fr a).shaped (sh_fr b).shaped, eqv_fr]
theorem list_ints (l : List Nat) : dList (intsD l) = some (intsD l) := rfl
theorem len_vec (v : List Rat) : dLen (vecD v) = some (.int v.length) := by
  show some (PyData.int _) = _
  rw [List.length_map]
end LW
end

section
set_option Elab.async false
set_option linter.all false
set_option maxRecDepth 100000
set_option maxHeartbeats 2000000
set_option exponentiation.threshold 100000
set_option autoImplicit false
/-! PT1: what is raised, taken; choosing one of a list by a cell. -/
namespace LW
open PySem hiding run
open L2 hiding bin
open DL
theorem run_exc {N : Nat} {g : Gx} {ds : List D} {c : Str} (h : g (ds.map some ++ List.replicate (N - ds.length) none) = .exc c) : run N g ds = .exc c := by
  unfold run
  rw [h]
theorem gSeq_exc {g h : Gx} {ρ : Rho} {c : Str} (e : g ρ = .exc c) : gSeq g h ρ = .exc c := by
  unfold gSeq
  rw [e]
theorem gDrop_exc {f : Ex} {ρ : Rho} {c : Str} (h : f ρ = .exc c) : gDrop f ρ = .exc c := by
  unfold gDrop
  rw [h]
  rfl
theorem gRet_exc {f : Ex} {ρ : Rho} {c : Str} (h : f ρ = .exc c) : gRet f ρ = .exc c := by
  unfold gRet
  rw [h]
  rfl
theorem gSet_exc {i : Nat} {f : Ex} {ρ : Rho} {c : Str} (h : f ρ = .exc c) : gSet i f ρ = .exc c := by
  unfold gSet
  rw [h]
  rfl
theorem call1_exc {f : List D → Res D} {fa : Ex} {ρ : Rho} {c : Str} (h : fa ρ = .exc c) : callD 1 f (aCons fa aNil) ρ = .exc c := by
  unfold callD aCons
  rw [h]
  rfl
theorem bCall_exc {n : Nat} {fM : List D → Res D} {g : Ax} {ρ : Rho} {ds : List D} {c : Str} (hg : g ρ = .ok ds) (hl : ds.length = n) (h : fM ds = .exc c) : bCall n fM g ρ = .exc c := by
  unfold bCall
  rw [hg]
  show (if ds.length = n then (fM ds).bind fun _ => .ok () else .bad) = _
  rw [if_pos hl, h]
  rfl
theorem bCall_ok {n : Nat} {fM : List D → Res D} {g : Ax} {ρ : Rho} {ds : List D} {d : D} (hg : g ρ = .ok ds) (hl : ds.length = n) (h : fM ds = .ok d) : bCall n fM g ρ = .ok () := by
  unfold bCall
  rw [hg]
  show (if ds.length = n then (fM ds).bind fun _ => .ok () else .bad) = _
  rw [if_pos hl, h]
  rfl
theorem bIf_t {c : Tx} {g h : Rho → Res Unit} {ρ : Rho} (e : c ρ = .ok true) : bIf c g h ρ = g ρ := by
  unfold bIf
  rw [e]
  rfl
theorem bIf_f {c : Tx} {g h : Rho → Res Unit} {ρ : Rho} (e : c ρ = .ok false) : bIf c g h ρ = h ρ := by
  unfold bIf
  rw [e]
  rfl
theorem tryM_exc {cs : List Str} {gB : Rho → Res Unit} {gs : List (Str × Gx)} {ρ : Rho} {c : Str} (h : gB ρ = .exc c) (hc : c ∈ cs) : gTryM cs gB gs ρ = pickG gs c ρ := by
  unfold gTryM
  rw [h]
  exact if_pos hc
theorem tryE_exc {cs : List Str} {gB : Rho → Res Unit} {x : Str} {i : Nat} {gS : Str → Gx} {ρ : Rho} {c : Str} (h : gB ρ = .exc c) (hc : c ∈ cs ∧ upB c x = true ∧ i < ρ.length) : gTryE cs gB x i gS ρ = (match gS c (ρ.set i none) with
    | .nx ρ' => .nx (ρ'.set i none)
    | o => o) := by
  unfold gTryE
  rw [h]
  exact if_pos hc
theorem tryM_ok {cs : List Str} {gB : Rho → Res Unit} {gs : List (Str × Gx)} {ρ : Rho} (h : gB ρ = .ok ()) : gTryM cs gB gs ρ = .nx ρ := by
  unfold gTryM
  rw [h]
theorem tryE_ok {cs : List Str} {gB : Rho → Res Unit} {x : Str} {i : Nat} {gS : Str → Gx} {ρ : Rho} (h : gB ρ = .ok ()) : gTryE cs gB x i gS ρ = .nx ρ := by
  unfold gTryE
  rw [h]
theorem forL_rt {tg : Tgt} {g : Gx} {d : D} {r : List D} {ρ ρ' : Rho} {v : D} (hp : tg.put d ρ = some ρ') (h : g ρ' = .rt v) : forL tg g (d :: r) ρ = .rt v := by
  show (match tg.put d ρ with | none => Out.bad | some ρ' => _) = _
  rw [hp]
  show (match g ρ' with | .nx ρ'' => _ | o => o) = _
  rw [h]
theorem forL_exc {tg : Tgt} {g : Gx} {d : D} {r : List D} {ρ ρ' : Rho} {c : Str} (hp : tg.put d ρ = some ρ') (h : g ρ' = .exc c) : forL tg g (d :: r) ρ = .exc c := by
  show (match tg.put d ρ with | none => Out.bad | some ρ' => _) = _
  rw [hp]
  show (match g ρ' with | .nx ρ'' => _ | o => o) = _
  rw [h]
theorem forL_cons {tg : Tgt} {g : Gx} {d : D} {r : List D} {ρ ρ' ρ2 : Rho} (hp : tg.put d ρ = some ρ') (h : g ρ' = .nx ρ2) : forL tg g (d :: r) ρ = forL tg g r ρ2 := by
  show (match tg.put d ρ with | none => Out.bad | some ρ' => _) = _
  rw [hp]
  show (match g ρ' with | .nx ρ'' => _ | o => o) = _
  rw [h]
theorem gFor_l {tg : Tgt} {fi : Ax} {g : Gx} {ρ : Rho} {l : List D} {o : Out} (h : fi ρ = .ok l) (e : forL tg g l ρ = o) : gFor tg fi g ρ = o := (gFor_ok h).trans e
theorem mod_nat (r m : Nat) (h : 0 < m) : dMod (.int (r : Int)) (.int (m : Int)) = some (.int ((r % m : Nat) : Int)) := by
  rw [mod_ii (by omega), Int.fmod_eq_emod_of_nonneg _ (by omega)]
  rfl
/-- one of a list, by a cell -/
theorem one_of {f g : Ex} {ρ : Rho} {l : List D} {r m : Nat} (hf : f ρ = .ok (.list l)) (hg : g ρ = .ok (.int r)) (hm : l.length = m) (h : 0 < m) : ∃ d, d ∈ l ∧ bin f (bin g (kc (.int (m : Int))) dMod) dIx ρ = .ok d := by
  have hl : r % m < l.length := by rw [hm]; exact Nat.mod_lt _ h
  exact ⟨l[r % m], List.getElem_mem hl, bin_ok hf (bin_ok hg rfl (mod_nat r m h)) (ix_list (List.getElem?_eq_getElem hl))⟩
theorem mixed6 (ns : List Int) (k : Nat) {ρ : Rho} (h : rd 0 ρ = .ok (scrD ns)) : ∃ r : Nat, callD 3 m_law_mixed (aCons (rd 0) (aCons (kc (.int (k : Int))) (aCons (bin (kc (.int 10)) (kc (.int 6)) dPow) aNil))) ρ = .ok (.int r) := by
  obtain ⟨r, _, e⟩ := mixed_ok ns k 1000000 (by omega)
  exact ⟨r, (call3 h rfl rfl).trans e⟩
end LW
end

section
set_option Elab.async false
set_option linter.all false
set_option maxRecDepth 100000
set_option maxHeartbeats 2000000
set_option exponentiation.threshold 100000
set_option autoImplicit false
/-! PT2: is_fraction, summed, need_begin. -/
namespace LW
open PySem hiding run
open L2 hiding bin
open DL
theorem andV_f {fa fb : Ex} {ρ : Rho} (h : fa ρ = .ok (.bool false)) : andV fa fb ρ = .ok (.bool false) := by
  unfold andV
  rw [h]
  rfl
theorem andV_b {fa fb : Ex} {ρ : Rho} {a b : Bool} (h : fa ρ = .ok (.bool a)) (k : a = true → fb ρ = .ok (.bool b)) : andV fa fb ρ = .ok (.bool (a && b)) := by
  cases a with
  | true => rw [andV_t h (k rfl), Bool.true_and]
  | false => rw [andV_f h, Bool.false_and]
theorem len_two (a b : D) : dLen (.tuple [a, b]) = some (.int 2) := rfl
theorem ix_t0 (a b : D) : dIx (.tuple [a, b]) (.int 0) = some a := by show atI _ _ = _; exact atI0 _ _
theorem ix_t1 (a b : D) : dIx (.tuple [a, b]) (.int 1) = some b := by show atI _ _ = _; exact atI1 _ _ _
theorem is_fraction_ii (a b : Int) : m_is_fraction [.tuple [.int a, .int b]] = .ok (.bool (decide (0 ≤ a) && (decide (1 ≤ b) && decide (Int.gcd a b = 1)))) := by
  have e0 : bin (rd 0) (kc (.int 0)) dIx [some (.tuple [.int a, .int b])] = .ok (.int a) := bin_ok rfl rfl (ix_t0 _ _)
  have e1 : bin (rd 0) (kc (.int 1)) dIx [some (.tuple [.int a, .int b])] = .ok (.int b) := bin_ok rfl rfl (ix_t1 _ _)
  refine run_rt ?_
  show gSeq _ _ [some (.tuple [.int a, .int b])] = _
  refine (gSeq_nx (gIf_s (orT_f (notT_ok (b := true) (asB_ok (un_ok rfl (isi_tuple _)))) (orT_f (asB_ok (bin_ok (un_ok rfl (len_two _ _)) rfl rfl)) (orT_f (notT_ok (b := true) (asB_ok ((call1 e0).trans (is_whole_ok _)))) (notT_ok (b := true) (asB_ok ((call1 e1).trans (is_whole_ok _))))))))).trans ?_
  refine gRet_ok (andV_b (bin_ok e0 rfl (by rw [ge_ii])) fun _ => andV_b (bin_ok e1 rfl (by rw [ge_ii])) fun _ => bin_ok ((call2 e0 e1).trans (divisor_ok _ _)) rfl ?_)
  rw [eq_ii]
  congr 2
  by_cases h : Int.gcd a b = 1
  · rw [h]; rfl
  · rw [decide_eq_false h]
    exact beq_eq_false_iff_ne.mpr fun z => h (by exact_mod_cast z)
theorem is_fraction_fr (q : Rat) (h : 0 ≤ q) : m_is_fraction [fr q] = .ok (.bool true) := by
  show m_is_fraction [.tuple [.int q.num, .int q.den]] = _
  rw [is_fraction_ii]
  have hd := q.den_nz
  have hn : 0 ≤ q.num := Rat.num_nonneg.mpr h
  have hg : Int.gcd q.num q.den = 1 := by
    have := q.reduced
    unfold Nat.Coprime at this
    show Nat.gcd q.num.natAbs ((q.den : Int).natAbs) = 1
    rw [Int.natAbs_natCast]
    exact this
  rw [decide_eq_true hn, decide_eq_true hg, decide_eq_true (show (1 : Int) ≤ q.den by omega)]
  rfl
/-- a sum, all whose parts are small -/
theorem summed_ok {v : List Rat} (h : ∀ pre x post, v = pre ++ x :: post → Sz 4000 pre.sum ∧ Sz 4000 x) : m_summed [vecD v] = .ok (fr v.sum) := by
  refine run_rt ?_
  show gSeq _ _ [some (vecD v), none, none] = _
  refine (gSeq_nx (gSet_ok rfl)).trans ?_
  obtain ⟨ρ1, e1, c, h1⟩ := forL_pre (tg := .nm 2) (g := gSet 1 (callD 2 m_plus (aCons (rd 1) (aCons (rd 2) aNil)))) fr (fun pre ρ => ∃ c, ρ = [some (vecD v), some (fr pre.sum), c]) v (fun pre x post ρ e hp => by
    obtain ⟨c, rfl⟩ := hp
    obtain ⟨s1, s2⟩ := h pre x post e
    refine ⟨_, [some (vecD v), some (fr (pre.sum + x)), some (fr x)], rfl, gSet_ok ((call2 rfl rfl).trans (plus_ok s1 s2)), some (fr x), ?_⟩
    rw [rsum_append, List.sum_cons, List.sum_nil, Rat.add_zero]) (ρ := [some (vecD v), some (fr 0), none]) ⟨_, by rw [List.sum_nil]⟩
  refine (gSeq_nx (gFor_nx (itS_list rfl) e1)).trans ?_
  subst h1
  exact gRet_ok rfl
theorem len_list' (l : List D) {n : Nat} (h : l.length = n) : dLen (.list l) = some (.int n) := by rw [len_list, h]
theorem all_bools0 (bs : List Bool) : dAll (.list (bs.map .bool)) = some (.bool (bs.all id)) := by
  show (allB (bs.map .bool)).map _ = _
  rw [allB_map]
  rfl
theorem comp_val {vs : List Nat} {i : Nat} {fi : Ax} {fe : Ex} {ρ : Rho} {l : List D} (val : D → D) (hi : fi ρ = .ok l) (hl : l.length ≤ 1000) (hv : ∀ d, d ∈ l → ∃ ρ', Tgt.put (.nm i) d (wipeR ρ vs) = some ρ' ∧ fe ρ' = .ok (val d)) : comp vs (.nm i) fi yes fe ρ = .ok (.list (l.map val)) := by
  have := comp_ok (vs := vs) (tg := .nm i) (fi := fi) (ft := yes) (fe := fe) (ρ := ρ) (fun d : D => d) (fun _ => true) val l (line_small hl) (by rw [List.map_id']; exact hi) (fun d hd => by
    obtain ⟨ρ', a, b⟩ := hv d hd
    exact ⟨ρ', a, rfl, fun _ => b⟩)
  rw [filter_yes] at this
  exact this
theorem gExt_of {i : Nat} {f : Ex} {ρ : Rho} {l es : List D} (hi : ρ[i]? = some (some (.list l))) (hf : f ρ = .ok (.list es)) (h : decide (l.length + es.length < 1000000) = true) : gExt i f ρ = .nx (ρ.set i (some (.list (l ++ es)))) := by
  unfold gExt
  rw [hi]
  simp only [hf, Res.out]
  exact if_pos (of_decide_eq_true h)
/-- need_begin: what it asks of a list of the right length -/
theorem need_begin_of {wd : D} {l : List D} {n : Nat} (hw : dLen wd = some (.int n)) (hl : l.length = n) (hn : n ≤ 1000) (fb : D → Bool) (hf : ∀ d, d ∈ l → m_is_fraction [d] = .ok (.bool (fb d))) :
    (l.all fb = false → m_need_begin [wd, .list l] = .exc "NoBegin") ∧ ∀ q : Rat, l.all fb = true → m_summed [.list l] = .ok (fr q) → m_need_begin [wd, .list l] = if q = 1 then .ok .none else .exc "NoBegin" := by
  have hne : dNe (.int (n : Nat)) (.int (n : Nat)) = some (.bool false) := by rw [ne_int]; simp
  have hc : comp [2] (.nm 2) (itS (rd 1)) yes (callD 1 m_is_fraction (aCons (rd 2) aNil)) [some wd, some (.list l), none] = .ok (.list (l.map fun d => .bool (fb d))) := comp_val _ (itS_list rfl) (by omega) fun d hd => ⟨[some wd, some (.list l), some d], rfl, (call1 rfl).trans (hf d hd)⟩
  have ha : dAll (.list (l.map fun d => .bool (fb d))) = some (.bool (l.all fb)) := by
    have := all_bools0 (l.map fb)
    rw [List.map_map] at this
    rw [show l.all fb = (l.map fb).all id by rw [List.all_map]; rfl]
    exact this
  constructor
  · intro h
    refine run_exc ?_
    show gSeq _ _ [some wd, some (.list l), none] = _
    refine (gSeq_nx (gIf_s (orT_f (notT_ok (b := true) (asB_ok (un_ok rfl (isi_list _)))) (asB_ok (bin_ok (un_ok rfl (len_list' l hl)) (un_ok rfl hw) hne))))).trans ?_
    exact (gIf_t (orT_t (notT_ok (b := false) (asB_ok (un_ok hc (by rw [ha, h])))))).trans rfl
  · intro q h hs
    have hq : asB (bin (callD 1 m_summed (aCons (rd 1) aNil)) (kc (.tuple [.int 1, .int 1])) dNe) [some wd, some (.list l), none] = .ok (!decide (q = 1)) := asB_ok (bin_ok ((call1 rfl).trans hs) rfl (ne_fr q 1))
    have e1 : gSeq (gIf (orT (notT (asB (un (rd 1) (dIsi "list")))) (asB (bin (un (rd 1) dLen) (un (rd 0) dLen) dNe))) (gRaise ("NoBegin" : PySem.Str)) gSkip) (gIf (orT (notT (asB (un (comp [2] (.nm 2) (itS (rd 1)) yes (callD 1 m_is_fraction (aCons (rd 2) aNil))) dAll))) (asB (bin (callD 1 m_summed (aCons (rd 1) aNil)) (kc (.tuple [.int 1, .int 1])) dNe))) (gRaise ("NoBegin" : PySem.Str)) gSkip) [some wd, some (.list l), none]
        = if q = 1 then .nx [some wd, some (.list l), none] else .exc "NoBegin" := by
      refine (gSeq_nx (gIf_s (orT_f (notT_ok (b := true) (asB_ok (un_ok rfl (isi_list _)))) (asB_ok (bin_ok (un_ok rfl (len_list' l hl)) (un_ok rfl hw) hne))))).trans ?_
      by_cases c : q = 1
      · rw [if_pos c]
        exact gIf_s (orT_f (notT_ok (b := true) (asB_ok (un_ok hc (by rw [ha, h])))) (by rw [hq, decide_eq_true c]; rfl))
      · rw [if_neg c]
        exact (gIf_t (orT_f (notT_ok (b := true) (asB_ok (un_ok hc (by rw [ha, h])))) (by rw [hq, decide_eq_false c]; rfl))).trans rfl
    show run 3 g_need_begin _ = _
    unfold run g_need_begin
    show (match gSeq _ _ [some wd, some (.list l), none] with | .nx _ => _ | .rt d => _ | .exc c => _ | .bad => _) = _
    rw [e1]
    by_cases c : q = 1
    · rw [if_pos c, if_pos c]
    · rw [if_neg c, if_neg c]
end LW
end

section
set_option Elab.async false
set_option linter.all false
set_option maxRecDepth 100000
set_option maxHeartbeats 2000000
set_option exponentiation.threshold 100000
set_option autoImplicit false
/-! PCH: is_spread; choices: what the laws draw, picked, checked. -/
namespace LW
open PySem hiding run
open L2 hiding bin
open DL
theorem ne_self {d : D} (h : SeqAt.shaped d = true) : dNe d d = some (.bool false) := by
  rw [dNe_ok h h, SeqAt.eqv_refl _ (SeqAt.canLay_of_shaped h)]
  rfl
theorem sh_spread (s : Spread) : Sh 3 (spreadD s) := sh_mapT (fun p => sh_tuple fun d m => by
  rcases List.mem_cons.mp m with rfl | m
  · exact (sh_int _).mono (by omega)
  · rcases List.mem_cons.mp m with rfl | m
    · exact sh_fr _
    · cases m) s
/-! ### is_spread -/
theorem part_sum {n : Nat} {s pre post : Spread} (g : GoodSp n s) (e : s = pre ++ post) : 0 ≤ (pre.map (·.2)).sum ∧ (pre.map (·.2)).sum ≤ 1 ∧ Dn 27720 (pre.map (·.2)).sum := by
  have h1 : 0 ≤ (pre.map (·.2)).sum := rsum_nonneg _ fun x hx => by
    obtain ⟨p, hp, rfl⟩ := List.mem_map.mp hx
    have := (g.mem p (by rw [e]; exact List.mem_append_left _ hp)).2.1
    grind
  have h2 : 0 ≤ (post.map (·.2)).sum := rsum_nonneg _ fun x hx => by
    obtain ⟨p, hp, rfl⟩ := List.mem_map.mp hx
    have := (g.mem p (by rw [e]; exact List.mem_append_right _ hp)).2.1
    grind
  have h3 := g.sum
  rw [e, List.map_append, rsum_append] at h3
  refine ⟨h1, by grind, ?_⟩
  have dn : ∀ l : List Rat, (∀ x, x ∈ l → Dn 27720 x) → Dn 27720 l.sum := by
    intro l
    induction l with
    | nil => intro _; exact Dn.zero _
    | cons a r ih => intro h; rw [List.sum_cons]; exact (h a List.mem_cons_self).add (ih fun x m => h x (List.mem_cons_of_mem _ m))
  exact dn _ fun x hx => by
    obtain ⟨p, hp, rfl⟩ := List.mem_map.mp hx
    exact (g.mem p (by rw [e]; exact List.mem_append_left _ hp)).2.2
theorem sum_shares {n : Nat} {s : Spread} (g : GoodSp n s) : m_summed [vecD (s.map (·.2))] = .ok (fr 1) := by
  have := summed_ok (v := s.map (·.2)) fun pre x post e => by
    obtain ⟨p1, p2, hs, e1, e2⟩ := List.map_eq_append_iff.mp e
    obtain ⟨a, p3, hs2, e3, e4⟩ := List.map_eq_cons_iff.mp e2
    subst e1 e3
    obtain ⟨h1, h2, h3⟩ := part_sum g hs
    exact ⟨sz_unit (by decide) (Nat.lt_of_lt_of_le (show 27720 < 2 ^ 15 by decide) (Nat.pow_le_pow_right (by decide) (by decide))) h3 h1 h2, (g.sz (by rw [hs, hs2]; exact List.mem_append_right _ List.mem_cons_self)).mono (by omega)⟩
  rw [g.sum] at this
  exact this
theorem pair0 (p : Nat × Rat) : dIx (prD p) (.int 0) = some (.int p.1) := ix_t0 _ _
theorem pair1 (p : Nat × Rat) : dIx (prD p) (.int 1) = some (fr p.2) := ix_t1 _ _
theorem le_ii (i j : Int) : dLe (.int i) (.int j) = some (.bool (decide (i ≤ j))) := rfl
theorem gt_ii (i j : Int) : dGt (.int i) (.int j) = some (.bool (decide (j < i))) := rfl
theorem eq_nought (q : Rat) : dEq (fr q) (.tuple [.int 0, .int 1]) = some (.bool (decide (q = 0))) := by
  have h : dEq (fr q) (fr 0) = some (.bool (PyData.eqv (fr q) (fr 0))) := dEq_tuple (sh_fr q).shaped (sh_fr 0).shaped
  rw [eqv_fr] at h
  exact h
theorem eq_one (q : Rat) : dEq (fr q) (.tuple [.int 1, .int 1]) = some (.bool (decide (q = 1))) := by
  have h : dEq (fr q) (fr 1) = some (.bool (PyData.eqv (fr q) (fr 1))) := dEq_tuple (sh_fr q).shaped (sh_fr 1).shaped
  rw [eqv_fr] at h
  exact h
def lastOf (pre : Spread) : Int := match pre.getLast? with
  | some p => (p.1 : Int)
  | none => -1
theorem lastOf_snoc (pre : Spread) (p : Nat × Rat) : lastOf (pre ++ [p]) = p.1 := by
  unfold lastOf
  rw [List.getLast?_append]
  rfl
theorem lastOf_lt {n : Nat} {s pre post : Spread} {p : Nat × Rat} (g : GoodSp n s) (e : s = pre ++ p :: post) : lastOf pre < p.1 := by
  unfold lastOf
  cases h : pre.getLast? with
  | none => show (-1 : Int) < p.1; omega
  | some q =>
    have hi := g.inc
    rw [e, List.map_append, List.pairwise_append] at hi
    have := hi.2.2 q.1 (List.mem_map.mpr ⟨q, List.mem_of_getLast? h, rfl⟩) p.1 (by rw [List.map_cons]; exact List.mem_cons_self)
    show (q.1 : Int) < p.1
    omega
theorem is_spread_ok {n : Nat} {s : Spread} (g : GoodSp n s) : m_is_spread [spreadD s, .int (n : Nat)] = .ok (.bool true) := by
  have hne : s ≠ [] := fun z => by
    have := g.sum
    rw [z] at this
    exact absurd this (by decide)
  have hlen : 0 < s.length := List.length_pos_iff.mpr hne
  have hl : dLen (spreadD s) = some (.int s.length) := by
    show dLen (.tuple (s.map prD)) = _
    rw [len_tuple, List.length_map]
  refine run_rt ?_
  show gSeq _ _ [some (spreadD s), some (.int (n : Nat)), none, none] = _
  have e0 : dEq (.int (s.length : Nat)) (.int 0) = some (.bool false) := by
    rw [eq_ii]
    congr 2
    exact beq_eq_false_iff_ne.mpr (by omega)
  refine (gSeq_nx (gIf_s (orT_f (notT_ok (b := true) (asB_ok (un_ok rfl (isi_tuple _)))) (asB_ok (bin_ok (un_ok rfl hl) rfl e0))))).trans ?_
  refine (gSeq_nx (gSet_ok (neg1 _))).trans ?_
  obtain ⟨ρ1, e1, c, h1⟩ := forL_pre (tg := .nm 3) (g := gSeq (gIf (orT (notT (asB (un (rd 3) (dIsi "tuple")))) (orT (asB (bin (un (rd 3) dLen) (kc (.int 2)) dNe)) (orT (notT (asB (callD 1 m_is_whole (aCons (bin (rd 3) (kc (.int 0)) dIx) aNil)))) (notT (asB (callD 1 m_is_fraction (aCons (bin (rd 3) (kc (.int 1)) dIx) aNil))))))) (gRet (kc (.bool false))) gSkip) (gSeq (gIf (orT (asB (bin (bin (rd 3) (kc (.int 0)) dIx) (rd 2) dLe)) (orT (asB (bin (bin (rd 3) (kc (.int 0)) dIx) (rd 1) dGe)) (asB (bin (bin (rd 3) (kc (.int 1)) dIx) (kc (.tuple [.int 0, .int 1])) dEq)))) (gRet (kc (.bool false))) gSkip) (gSet 2 (bin (rd 3) (kc (.int 0)) dIx))))
    prD (fun pre ρ => ∃ c, ρ = [some (spreadD s), some (.int (n : Nat)), some (.int (lastOf pre)), c]) s (fun pre p post ρ e hp => by
      obtain ⟨c, rfl⟩ := hp
      obtain ⟨m1, m2, _⟩ := g.mem p (by rw [e]; exact List.mem_append_right _ List.mem_cons_self)
      have hlt := lastOf_lt g e
      refine ⟨[some (spreadD s), some (.int (n : Nat)), some (.int (lastOf pre)), some (prD p)], [some (spreadD s), some (.int (n : Nat)), some (.int p.1), some (prD p)], rfl, ?_, some (prD p), by rw [lastOf_snoc]⟩
      have r0 : bin (rd 3) (kc (.int 0)) dIx [some (spreadD s), some (.int (n : Nat)), some (.int (lastOf pre)), some (prD p)] = .ok (.int p.1) := bin_ok rfl rfl (pair0 p)
      have r1 : bin (rd 3) (kc (.int 1)) dIx [some (spreadD s), some (.int (n : Nat)), some (.int (lastOf pre)), some (prD p)] = .ok (fr p.2) := bin_ok rfl rfl (pair1 p)
      refine (gSeq_nx (gIf_s (orT_f (notT_ok (b := true) (asB_ok (un_ok rfl (isi_tuple _)))) (orT_f (asB_ok (bin_ok (un_ok rfl (len_two _ _)) rfl rfl)) (orT_f (notT_ok (b := true) (asB_ok ((call1 r0).trans (is_whole_ok _)))) (notT_ok (b := true) (asB_ok ((call1 r1).trans (is_fraction_fr _ (by grind)))))))))).trans ?_
      refine (gSeq_nx (gIf_s (orT_f (asB_ok (bin_ok r0 rfl (by rw [le_ii, decide_eq_false (by omega)]))) (orT_f (asB_ok (bin_ok r0 rfl (by rw [ge_ii, decide_eq_false (by omega)]))) (asB_ok (bin_ok r1 rfl (by rw [eq_nought, decide_eq_false (by grind)]))))))).trans ?_
      exact gSet_ok r0) (ρ := [some (spreadD s), some (.int (n : Nat)), some (.int (-1)), none]) ⟨none, rfl⟩
  refine (gSeq_nx (gFor_nx (itS_tuple rfl) e1)).trans ?_
  subst h1
  have hc := comp_ok (vs := [3]) (tg := .nm 3) (fi := itS (rd 0)) (ft := yes) (fe := bin (rd 3) (kc (.int 1)) dIx) (ρ := [some (spreadD s), some (.int (n : Nat)), some (.int (lastOf s)), c]) prD (fun _ => true) (fun p => fr p.2) s (line_small (by have := g.few; omega)) (itS_tuple rfl) (fun p _ => ⟨[some (spreadD s), some (.int (n : Nat)), some (.int (lastOf s)), some (prD p)], rfl, rfl, fun _ => bin_ok rfl rfl (pair1 p)⟩)
  rw [filter_yes] at hc
  have hs := sum_shares g
  unfold vecD at hs
  rw [List.map_map] at hs
  exact gRet_ok (bin_ok ((call1 hc).trans hs) rfl (by rw [eq_one, decide_eq_true rfl]))
/-! ### choices -/
abbrev Choice := List (List Spread)
def waysD (ws : List Spread) : D := .tuple (ws.map spreadD)
def choiceD (c : Choice) : D := .tuple (c.map waysD)
structure GoodCh (c : Choice) : Prop where
  lo : 1 ≤ c.length
  hi : c.length ≤ 4
  row : ∀ ws, ws ∈ c → 1 ≤ ws.length ∧ ws.length ≤ 3 ∧ ∀ s, s ∈ ws → GoodSp c.length s
theorem sh_choice (c : Choice) : Sh 5 (choiceD c) := sh_mapT (fun ws => sh_mapT sh_spread ws) c
theorem len_choice (c : Choice) : dLen (choiceD c) = some (.int c.length) := by
  show dLen (.tuple (c.map waysD)) = _
  rw [len_tuple, List.length_map]
theorem len_ways (ws : List Spread) : dLen (waysD ws) = some (.int ws.length) := by
  show dLen (.tuple (ws.map spreadD)) = _
  rw [len_tuple, List.length_map]
theorem ix_choice {c : Choice} {i : Nat} {ws : List Spread} (h : c[i]? = some ws) : dIx (choiceD c) (.int i) = some (waysD ws) := ix_tuple (by rw [List.getElem?_map, h]; rfl)
theorem ix_ways {ws : List Spread} {i : Nat} {s : Spread} (h : ws[i]? = some s) : dIx (waysD ws) (.int i) = some (spreadD s) := ix_tuple (by rw [List.getElem?_map, h]; rfl)
theorem choice_ok (ns : List Int) (at_ : Nat) : ∃ c, GoodCh c ∧ m_law_choice [scrD ns, .int at_] = .ok (choiceD c) := by
  obtain ⟨r, hr, er⟩ := mixed_ok ns at_ 4 (by decide)
  have hw := fun k : Nat => mixed_ok ns (at_ + 1 + k) 3 (by decide)
  have hs := fun k j : Nat => spread_ok ns (at_ + 6 + 21 * k + 7 * j) (1 + r) (by omega)
  let rowOf : Nat → List Spread := fun k => (List.range (1 + (hw k).choose)).map fun j => (hs k j).choose
  have e0 : gSet 2 (bin (kc (.int 1)) (callD 3 m_law_mixed (aCons (rd 0) (aCons (rd 1) (aCons (kc (.int 4)) aNil)))) dAdd) [some (scrD ns), some (.int at_), none, none, none, none, none] = .nx [some (scrD ns), some (.int at_), some (.int ((1 + r : Nat) : Int)), none, none, none, none] := gSet_ok (bin_ok rfl ((call3 rfl rfl rfl).trans er) rfl)
  refine ⟨(List.range (1 + r)).map rowOf, ⟨by rw [List.length_map, List.length_range]; omega, by rw [List.length_map, List.length_range]; omega, fun ws m => ?_⟩, run_rt ?_⟩
  · obtain ⟨k, _, rfl⟩ := List.mem_map.mp m
    have h3 := (hw k).choose_spec.1
    refine ⟨by show 1 ≤ ((List.range _).map _).length; rw [List.length_map, List.length_range]; omega, by show ((List.range _).map _).length ≤ 3; rw [List.length_map, List.length_range]; omega, fun s ms => ?_⟩
    obtain ⟨j, _, rfl⟩ := List.mem_map.mp ms
    rw [List.length_map, List.length_range]
    exact (hs k j).choose_spec.1
  · show gSeq _ _ [some (scrD ns), some (.int at_), none, none, none, none, none] = _
    refine (gSeq_nx e0).trans ?_
    refine (gSeq_nx (gSet_ok (d := .list []) rfl)).trans ?_
    obtain ⟨ρ1, e1, c4, c5, h1⟩ := forL_pre (tg := .nm 4) (g := gSeq (gSet 5 (bin (kc (.int 1)) (callD 3 m_law_mixed (aCons (rd 0) (aCons (bin (bin (rd 1) (kc (.int 1)) dAdd) (rd 4) dAdd) (aCons (kc (.int 3)) aNil)))) dAdd)) (gApp 3 (un (comp [6] (.nm 6) (itR1 (rd 5)) yes (callD 3 m_law_spread (aCons (rd 0) (aCons (bin (bin (bin (rd 1) (kc (.int 6)) dAdd) (bin (kc (.int 21)) (rd 4) dMul) dAdd) (bin (kc (.int 7)) (rd 6) dMul) dAdd) (aCons (rd 2) aNil))))) dTuple)))
      (fun k : Nat => PyData.int k) (fun pre ρ => ∃ c4 c5, ρ = [some (scrD ns), some (.int at_), some (.int ((1 + r : Nat) : Int)), some (.list (pre.map fun k => waysD (rowOf k))), c4, c5, none]) (List.range (1 + r)) (fun pre k post ρ e hp => by
        obtain ⟨c4, c5, rfl⟩ := hp
        have hpl : pre.length ≤ 4 := by
          have : (List.range (1 + r)).length = _ := congrArg List.length e
          rw [List.length_range, List.length_append] at this
          omega
        have hx := (hw k).choose_spec
        generalize hg : (hw k).choose = x at hx
        refine ⟨[some (scrD ns), some (.int at_), some (.int ((1 + r : Nat) : Int)), some (.list (pre.map fun k => waysD (rowOf k))), some (.int k), c5, none], [some (scrD ns), some (.int at_), some (.int ((1 + r : Nat) : Int)), some (.list (pre.map (fun k => waysD (rowOf k)) ++ [waysD (rowOf k)])), some (.int k), some (.int ((1 + x : Nat) : Int)), none], rfl, ?_, some (.int k), some (.int ((1 + x : Nat) : Int)), by rw [List.map_append]; rfl⟩
        refine (gSeq_nx (gSet_ok (bin_ok rfl ((call3 rfl (bin_ok (bin_ok rfl rfl rfl) rfl rfl) rfl).trans hx.2) rfl))).trans ?_
        have hc := comp_ok (vs := [6]) (tg := .nm 6) (fi := itR1 (rd 5)) (ft := yes) (fe := callD 3 m_law_spread (aCons (rd 0) (aCons (bin (bin (bin (rd 1) (kc (.int 6)) dAdd) (bin (kc (.int 21)) (rd 4) dMul) dAdd) (bin (kc (.int 7)) (rd 6) dMul) dAdd) (aCons (rd 2) aNil)))) (ρ := [some (scrD ns), some (.int at_), some (.int ((1 + r : Nat) : Int)), some (.list (pre.map fun k => waysD (rowOf k))), some (.int k), some (.int ((1 + x : Nat) : Int)), none])
          (fun j : Nat => PyData.int j) (fun _ => true) (fun j => spreadD (hs k j).choose) (List.range (1 + x)) (by rw [List.length_range]; exact line_small (by omega)) (itR1_nat rfl (by omega)) (fun j _ => ⟨[some (scrD ns), some (.int at_), some (.int ((1 + r : Nat) : Int)), some (.list (pre.map fun k => waysD (rowOf k))), some (.int k), some (.int ((1 + x : Nat) : Int)), some (.int j)], rfl, rfl, fun _ => (call3 rfl (bin_ok (bin_ok (bin_ok rfl rfl rfl) (bin_ok rfl rfl (mul_ok (mulOk_l (by decide)))) rfl) (bin_ok rfl rfl (mul_ok (mulOk_l (by decide)))) rfl) rfl).trans (hs k j).choose_spec.2⟩)
        rw [filter_yes] at hc
        refine (gApp_ok (d := waysD (rowOf k)) (un_ok hc ?_) rfl (by rw [List.length_map]; omega)).trans rfl
        show some (PyData.tuple _) = some (PyData.tuple ((rowOf k).map spreadD))
        show some (PyData.tuple _) = some (PyData.tuple (((List.range (1 + (hw k).choose)).map fun j => (hs k j).choose).map spreadD))
        rw [hg, List.map_map]
        rfl) (ρ := [some (scrD ns), some (.int at_), some (.int ((1 + r : Nat) : Int)), some (.list []), none, none, none]) ⟨none, none, rfl⟩
    refine (gSeq_nx (gFor_nx (itR1_nat (n := 1 + r) rfl (by omega)) e1)).trans ?_
    subst h1
    refine gRet_ok (un_ok rfl ?_)
    show some (PyData.tuple _) = some (PyData.tuple (((List.range (1 + r)).map rowOf).map waysD))
    rw [List.map_map]
    rfl
theorem is_choice_ok {c : Choice} (g : GoodCh c) : m_is_choice [choiceD c] = .ok (.bool true) := by
  have lo := g.lo
  have hi := g.hi
  refine run_rt ?_
  show gSeq _ _ [some (choiceD c), none, none] = _
  refine (gSeq_nx (gIf_s (orT_f (notT_ok (b := true) (asB_ok (un_ok rfl (isi_tuple _)))) (orT_f (asB_ok (bin_ok (un_ok rfl (len_choice c)) rfl (lt_f (by omega)))) (asB_ok (bin_ok (un_ok rfl (len_choice c)) rfl (by rw [gt_ii, decide_eq_false (by omega)]))))))).trans ?_
  obtain ⟨ρ1, e1, c1, h1⟩ := forL_pre (tg := .nm 1) (g := gSeq (gIf (orT (notT (asB (un (rd 1) (dIsi "tuple")))) (orT (asB (bin (un (rd 1) dLen) (kc (.int 1)) dLt)) (asB (bin (un (rd 1) dLen) (kc (.int 4)) dGt)))) (gRet (kc (.bool false))) gSkip) (gIf (notT (asB (un (comp [2] (.nm 2) (itS (rd 1)) yes (callD 2 m_is_spread (aCons (rd 2) (aCons (un (rd 0) dLen) aNil)))) dAll))) (gRet (kc (.bool false))) gSkip))
    waysD (fun _ ρ => ∃ c1, ρ = [some (choiceD c), c1, none]) c (fun pre ws post ρ e hp => by
      obtain ⟨c1, rfl⟩ := hp
      obtain ⟨w1, w2, w3⟩ := g.row ws (by rw [e]; exact List.mem_append_right _ List.mem_cons_self)
      refine ⟨[some (choiceD c), some (waysD ws), none], [some (choiceD c), some (waysD ws), none], rfl, ?_, _, rfl⟩
      refine (gSeq_nx (gIf_s (orT_f (notT_ok (b := true) (asB_ok (un_ok rfl (isi_tuple _)))) (orT_f (asB_ok (bin_ok (un_ok rfl (len_ways ws)) rfl (lt_f (by omega)))) (asB_ok (bin_ok (un_ok rfl (len_ways ws)) rfl (by rw [gt_ii, decide_eq_false (by omega)]))))))).trans ?_
      have hc := comp_ok (vs := [2]) (tg := .nm 2) (fi := itS (rd 1)) (ft := yes) (fe := callD 2 m_is_spread (aCons (rd 2) (aCons (un (rd 0) dLen) aNil))) (ρ := [some (choiceD c), some (waysD ws), none]) spreadD (fun _ => true) (fun _ => PyData.bool true) ws (line_small (by omega)) (itS_tuple rfl) (fun s ms => ⟨[some (choiceD c), some (waysD ws), some (spreadD s)], rfl, rfl, fun _ => (call2 rfl (un_ok rfl (len_choice c))).trans (is_spread_ok (w3 s ms))⟩)
      rw [filter_yes, map_const] at hc
      refine gIf_s (notT_ok (b := true) (asB_ok (un_ok hc ?_)))
      have := all_bools0 (List.replicate ws.length true)
      rw [List.map_replicate] at this
      rw [this]
      congr 2
      rw [List.all_eq_true]
      intro b hb
      rw [List.eq_of_mem_replicate hb]
      rfl) (ρ := [some (choiceD c), none, none]) ⟨none, rfl⟩
  refine (gSeq_nx (gFor_nx (itS_tuple rfl) e1)).trans ?_
  exact gRet_ok rfl
theorem checked_choice_ok {c : Choice} (g : GoodCh c) : m_checked_choice [choiceD c] = .ok (choiceD c) := by
  refine run_rt ?_
  show gSeq _ _ [some (choiceD c)] = _
  exact (gSeq_nx (gIf_s (notT_ok (b := true) (asB_ok ((call1 rfl).trans (is_choice_ok g)))))).trans (gRet_ok rfl)
/-- the walk by picks -/
def walkBy (c : Choice) (p : List Nat) : Walk := (List.zip c p).map fun q => q.1.getD q.2 []
structure Picks (c : Choice) (p : List Nat) : Prop where
  len : p.length = c.length
  lt : ∀ i k, p[i]? = some k → k < (c.getD i []).length
theorem Picks.zip {c : Choice} {p : List Nat} (h : Picks c p) {q : List Spread × Nat} (hq : q ∈ List.zip c p) : q.1 ∈ c ∧ q.2 < q.1.length := by
  obtain ⟨i, hi, e⟩ := List.mem_iff_getElem.mp hq
  rw [List.getElem_zip] at e
  rw [List.length_zip] at hi
  have h1 : i < c.length := by omega
  have h2 : i < p.length := by omega
  subst e
  refine ⟨List.getElem_mem h1, ?_⟩
  have := h.lt i p[i] (List.getElem?_eq_getElem h2)
  rw [List.getD_eq_getElem?_getD, List.getElem?_eq_getElem h1] at this
  exact this
theorem walkBy_len {c : Choice} {p : List Nat} (h : Picks c p) : (walkBy c p).length = c.length := by
  unfold walkBy
  rw [List.length_map, List.length_zip, h.len]
  omega
theorem walkBy_good {c : Choice} {p : List Nat} (g : GoodCh c) (h : Picks c p) : GoodWk (walkBy c p) := by
  refine ⟨by rw [walkBy_len h]; exact g.lo, by rw [walkBy_len h]; have := g.hi; omega, fun s hs => ?_⟩
  rw [walkBy_len h]
  obtain ⟨q, hq, rfl⟩ := List.mem_map.mp hs
  obtain ⟨h1, h2⟩ := h.zip hq
  refine (g.row q.1 h1).2.2 _ ?_
  rw [List.getD_eq_getElem?_getD, List.getElem?_eq_getElem h2]
  exact List.getElem_mem h2
theorem walkBy_get {c : Choice} {p : List Nat} (h : Picks c p) {i : Nat} (hi : i < c.length) : (walkBy c p).getD i [] = (c.getD i []).getD (p.getD i 0) [] := by
  have hp : i < p.length := by rw [h.len]; exact hi
  unfold walkBy
  have hz : (List.zip c p)[i]? = some (c[i], p[i]) := List.getElem?_zip_eq_some.mpr ⟨List.getElem?_eq_getElem hi, List.getElem?_eq_getElem hp⟩
  have e1 : c.getD i [] = c[i] := by rw [List.getD_eq_getElem?_getD, List.getElem?_eq_getElem hi]; rfl
  have e2 : p.getD i 0 = p[i] := by rw [List.getD_eq_getElem?_getD, List.getElem?_eq_getElem hp]; rfl
  rw [e1, e2, List.getD_eq_getElem?_getD, List.getElem?_map, hz]
  rfl
theorem zip_wk (c : Choice) (p : List Nat) : zipD (c.map waysD) (p.map fun k : Nat => PyData.int k) = (List.zip c p).map fun q => PyData.tuple [waysD q.1, .int q.2] := by
  unfold zipD
  rw [List.zipWith_map, List.zip_eq_zipWith, List.map_zipWith]
/-- the comprehension that takes the picked ways -/
theorem picked_comp {c : Choice} {p : List Nat} (h : Picks c p) (hc : c.length ≤ 1000) {vs : List Nat} {i j : Nat} {fi : Ax} {ρ : Rho} (hi : fi ρ = .ok (zipD (c.map waysD) (p.map fun k : Nat => PyData.int k)))
    (hp : ∀ a b : D, ∃ ρ', Tgt.put (.tp [i, j]) (.tuple [a, b]) (wipeR ρ vs) = some ρ' ∧ rd i ρ' = .ok a ∧ rd j ρ' = .ok b) : un (comp vs (.tp [i, j]) fi yes (bin (rd i) (rd j) dIx)) dTuple ρ = .ok (walkD (walkBy c p)) := by
  have hcm := comp_ok (vs := vs) (tg := .tp [i, j]) (fi := fi) (ft := yes) (fe := bin (rd i) (rd j) dIx) (ρ := ρ) (fun q : List Spread × Nat => PyData.tuple [waysD q.1, .int q.2]) (fun _ => true) (fun q => spreadD (q.1.getD q.2 [])) (List.zip c p) (by rw [List.length_zip]; exact line_small (by omega)) (by rw [hi, zip_wk]) (fun q hq => by
    obtain ⟨ρ', e1, e2, e3⟩ := hp (waysD q.1) (.int q.2)
    refine ⟨ρ', e1, rfl, fun _ => bin_ok e2 e3 (ix_ways ?_)⟩
    rw [List.getD_eq_getElem?_getD, List.getElem?_eq_getElem (h.zip hq).2]
    rfl)
  rw [filter_yes] at hcm
  refine un_ok hcm ?_
  show some (PyData.tuple _) = some (PyData.tuple ((walkBy c p).map spreadD))
  unfold walkBy
  rw [List.map_map]
  rfl
theorem itY_tl {f g : Ex} {ρ : Rho} {xs ys : List D} (hf : f ρ = .ok (.tuple xs)) (hg : g ρ = .ok (.list ys)) : itY f g ρ = .ok (zipD xs ys) := by
  unfold itY
  rw [hf, hg]
  rfl
theorem walk_by_ok {c : Choice} {p : List Nat} (g : GoodCh c) (h : Picks c p) : m_walk_by [choiceD c, intsD p] = .ok (walkD (walkBy c p)) := by
  refine run_rt (gRet_ok ?_)
  exact picked_comp h (by have := g.hi; omega) (itY_tl rfl rfl) fun a b => ⟨[some (choiceD c), some (intsD p), some a, some b], rfl, rfl, rfl⟩
theorem picked_ok {c : Choice} {p : List Nat} (g : GoodCh c) (h : Picks c p) : m_picked [choiceD c, intsD p] = .ok (walkD (walkBy c p)) := by
  refine run_rt ?_
  show gSeq _ _ [some (choiceD c), some (intsD p), none, none] = _
  have hne : dNe (.int (p.length : Nat)) (.int (c.length : Nat)) = some (.bool false) := by rw [ne_int, h.len]; simp
  refine (gSeq_nx (gIf_s (orT_f (notT_ok (b := true) (asB_ok (un_ok rfl (isi_list _)))) (asB_ok (bin_ok (un_ok rfl (len_ints p)) (un_ok rfl (len_choice c)) hne))))).trans ?_
  obtain ⟨ρ1, e1, a, b, h1⟩ := forL_pre (tg := .tp [2, 3]) (g := gIf (orT (notT (asB (callD 1 m_is_whole (aCons (rd 3) aNil)))) (orT (asB (bin (rd 3) (kc (.int 0)) dLt)) (asB (bin (rd 3) (un (rd 2) dLen) dGe)))) (gRaise ("NoPicks" : PySem.Str)) gSkip)
    (fun q : List Spread × Nat => PyData.tuple [waysD q.1, .int q.2]) (fun _ ρ => ∃ a b, ρ = [some (choiceD c), some (intsD p), a, b]) (List.zip c p) (fun pre q post ρ e hp => by
      obtain ⟨a, b, rfl⟩ := hp
      obtain ⟨_, q2⟩ := h.zip (q := q) (by rw [e]; exact List.mem_append_right _ List.mem_cons_self)
      refine ⟨[some (choiceD c), some (intsD p), some (waysD q.1), some (.int q.2)], [some (choiceD c), some (intsD p), some (waysD q.1), some (.int q.2)], rfl, ?_, _, _, rfl⟩
      exact gIf_s (orT_f (notT_ok (b := true) (asB_ok ((call1 rfl).trans (is_whole_ok _)))) (orT_f (asB_ok (bin_ok rfl rfl (lt_f (by omega)))) (asB_ok (bin_ok rfl (un_ok rfl (len_ways _)) (by rw [ge_ii, decide_eq_false (by omega)])))))) (ρ := [some (choiceD c), some (intsD p), none, none]) ⟨none, none, rfl⟩
  refine (gSeq_nx (gFor_nx (by rw [itY_tl rfl rfl, zip_wk]) e1)).trans ?_
  subst h1
  exact gRet_ok ((call2 rfl rfl).trans (walk_by_ok g h))
end LW
end

section
set_option Elab.async false
set_option linter.all false
set_option maxRecDepth 100000
set_option maxHeartbeats 2000000
set_option exponentiation.threshold 100000
set_option autoImplicit false
/-! PT3: is_spread, is_walk of things that may be none: the program's word and the law's. -/
namespace LW
open PySem hiding run
open L2 hiding bin
open DL
theorem law_is_fraction_ii (a b : Int) : m_law_is_fraction [.tuple [.int a, .int b]] = .ok (.bool (decide (1 ≤ b) && decide (Int.gcd a b = 1))) := by
  have e0 : bin (rd 0) (kc (.int 0)) dIx [some (.tuple [.int a, .int b])] = .ok (.int a) := bin_ok rfl rfl (ix_t0 _ _)
  have e1 : bin (rd 0) (kc (.int 1)) dIx [some (.tuple [.int a, .int b])] = .ok (.int b) := bin_ok rfl rfl (ix_t1 _ _)
  refine run_rt ?_
  show gSeq _ _ [some (.tuple [.int a, .int b])] = _
  refine (gSeq_nx (gIf_s (orT_f (notT_ok (b := true) (asB_ok (un_ok rfl (isi_tuple _)))) (asB_ok (bin_ok (un_ok rfl (len_two _ _)) rfl rfl))))).trans ?_
  by_cases h : 1 ≤ b
  · refine (gSeq_nx (gIf_s (orT_f (notT_ok (b := true) (asB_ok ((call1 e0).trans (law_whole_ok _)))) (orT_f (notT_ok (b := true) (asB_ok ((call1 e1).trans (law_whole_ok _)))) (asB_ok (bin_ok e1 rfl (lt_f (by omega)))))))).trans ?_
    refine gRet_ok (bin_ok ((call2 e0 e1).trans (law_divisor_ok _ _)) rfl ?_)
    rw [eq_ii, decide_eq_true h, Bool.true_and]
    congr 2
    by_cases g : Int.gcd a b = 1
    · rw [g]; rfl
    · rw [decide_eq_false g]
      exact beq_eq_false_iff_ne.mpr fun z => g (by exact_mod_cast z)
  · refine (gSeq_rt ((gIf_t (orT_f (notT_ok (b := true) (asB_ok ((call1 e0).trans (law_whole_ok _)))) (orT_f (notT_ok (b := true) (asB_ok ((call1 e1).trans (law_whole_ok _)))) (asB_ok (bin_ok e1 rfl (lt_t (by omega))))))).trans ?_))
    rw [decide_eq_false h]
    rfl
/-! ### pairs -/
abbrev RQ := Int × Rat
def prI (p : RQ) : D := .tuple [.int p.1, fr p.2]
inductive PairOk : D → Option RQ → Prop
  | some (p : RQ) (hz : Sz 5 p.2) : PairOk (prI p) (some p)
  | list (l : List D) : PairOk (.list l) none
  | len (l : List D) (h : l.length ≠ 2) : PairOk (.tuple l) none
  | room (a b : D) (h : m_is_whole [a] = .ok (.bool false)) : PairOk (.tuple [a, b]) none
  | share (r : Int) (b : D) (h : m_is_fraction [b] = .ok (.bool false)) (h' : m_law_is_fraction [b] = .ok (.bool false)) : PairOk (.tuple [.int r, b]) none
inductive PsOk : List D → List (Option RQ) → Prop
  | nil : PsOk [] []
  | cons {p : D} {c : Option RQ} {ps : List D} {cs : List (Option RQ)} : PairOk p c → PsOk ps cs → PsOk (p :: ps) (c :: cs)
theorem PsOk.append : ∀ {ps qs : List D} {cs ds : List (Option RQ)}, PsOk ps cs → PsOk qs ds → PsOk (ps ++ qs) (cs ++ ds)
  | _, _, _, _, .nil, h => h
  | _, _, _, _, .cons a b, h => .cons a (b.append h)
theorem PsOk.of_map {α : Type} {f : α → D} {g : α → RQ} (e : ∀ a, f a = prI (g a)) : ∀ {l : List α}, (∀ a, a ∈ l → Sz 5 (g a).2) → PsOk (l.map f) (l.map fun a => Option.some (g a))
  | [], _ => .nil
  | a :: l, h => by
    rw [List.map_cons, List.map_cons, e a]
    exact .cons (.some _ (h a List.mem_cons_self)) (PsOk.of_map e fun x m => h x (List.mem_cons_of_mem _ m))
def chk (n : Int) : Int → List (Option RQ) → Bool
  | _, [] => true
  | _, none :: _ => false
  | last, some p :: t => if last < p.1 ∧ p.1 < n ∧ 0 < p.2 then chk n p.1 t else false
def sumC : List (Option RQ) → Rat
  | [] => 0
  | none :: t => sumC t
  | some p :: t => p.2 + sumC t
theorem chk_cons (n last : Int) (p : RQ) (t : List (Option RQ)) : chk n last (some p :: t) = if last < p.1 ∧ p.1 < n ∧ 0 < p.2 then chk n p.1 t else false := by rw [chk]
theorem chk_some {n : Int} : ∀ {cs : List (Option RQ)} {last : Int}, chk n last cs = true → ∃ rs : List RQ, cs = rs.map Option.some ∧ ∀ p, p ∈ rs → 0 < p.2
  | [], _, _ => ⟨[], rfl, fun p m => by cases m⟩
  | none :: _, _, h => by cases h
  | some p :: t, last, h => by
    unfold chk at h
    split at h
    · rename_i c
      obtain ⟨rs, e, hp⟩ := chk_some h
      refine ⟨p :: rs, by rw [e]; rfl, fun q m => ?_⟩
      rcases List.mem_cons.mp m with rfl | m
      · exact c.2.2
      · exact hp q m
    · cases h
theorem PsOk.some_map : ∀ {rs : List RQ} {ps : List D}, PsOk ps (rs.map Option.some) → ps = rs.map prI ∧ ∀ p, p ∈ rs → Sz 5 p.2
  | [], _, h => by cases h; exact ⟨rfl, fun p m => by cases m⟩
  | p :: rs, _, h => by
    cases h with
    | cons a b =>
      obtain ⟨e, hz⟩ := b.some_map
      cases a with
      | some _ z =>
        refine ⟨by rw [e]; rfl, fun q m => ?_⟩
        rcases List.mem_cons.mp m with rfl | m
        · exact z
        · exact hz q m
theorem sumC_map (rs : List RQ) : sumC (rs.map Option.some) = (rs.map (·.2)).sum := by
  induction rs with
  | nil => rfl
  | cons p r ih => rw [List.map_cons, List.map_cons, List.sum_cons, ← ih]; rfl
theorem pI0 (p : RQ) : dIx (prI p) (.int 0) = some (.int p.1) := ix_t0 _ _
theorem pI1 (p : RQ) : dIx (prI p) (.int 1) = some (fr p.2) := ix_t1 _ _
theorem fr_test (q : Rat) : m_is_fraction [fr q] = .ok (.bool (decide (0 ≤ q))) := by
  by_cases h : 0 ≤ q
  · rw [is_fraction_fr q h, decide_eq_true h]
  · have e : m_is_fraction [fr q] = .ok (.bool (decide (0 ≤ q.num) && (decide (1 ≤ (q.den : Int)) && decide (Int.gcd q.num q.den = 1)))) := is_fraction_ii _ _
    have hn : ¬ 0 ≤ q.num := fun z => h (Rat.num_nonneg.mp z)
    rw [e, decide_eq_false hn, decide_eq_false h]
    rfl
theorem num_pos_iff (q : Rat) : 0 < q.num ↔ 0 < q := by
  constructor
  · intro h
    have h1 : 0 ≤ q := Rat.num_nonneg.mp (by omega)
    have h2 : q ≠ 0 := fun z => by rw [z] at h; exact absurd h (by decide)
    grind
  · intro h
    have h1 : 0 ≤ q.num := Rat.num_nonneg.mpr (by grind)
    have h2 : q.num ≠ 0 := fun z => by
      have : q = 0 := Rat.num_eq_zero.mp z
      rw [this] at h
      exact absurd h (by decide)
    omega
theorem num_le (q : Rat) : decide (q.num ≤ 0) = decide (¬ 0 < q) := by
  have := num_pos_iff q
  refine decide_eq_decide.mpr ⟨fun h z => ?_, fun h => ?_⟩
  · have := this.mpr z
    omega
  · exact Classical.byContradiction fun z => h (this.mp (by omega))
/-! the first test -/
noncomputable abbrev tP : Tx := orT (notT (asB (un (rd 3) (dIsi "tuple")))) (orT (asB (bin (un (rd 3) dLen) (kc (.int 2)) dNe)) (orT (notT (asB (callD 1 m_is_whole (aCons (bin (rd 3) (kc (.int 0)) dIx) aNil)))) (notT (asB (callD 1 m_is_fraction (aCons (bin (rd 3) (kc (.int 1)) dIx) aNil))))))
noncomputable abbrev tL : Tx := orT (notT (asB (un (rd 4) (dIsi "tuple")))) (orT (asB (bin (un (rd 4) dLen) (kc (.int 2)) dNe)) (orT (notT (asB (callD 1 m_law_whole (aCons (bin (rd 4) (kc (.int 0)) dIx) aNil)))) (notT (asB (callD 1 m_law_is_fraction (aCons (bin (rd 4) (kc (.int 1)) dIx) aNil))))))
theorem isi_tuple_list (l : List D) : dIsi "tuple" (.list l) = some (.bool false) := by kernel_rfl
theorem ne_two {l : List D} (h : l.length ≠ 2) : dNe (.int (l.length : Nat)) (.int 2) = some (.bool true) := by
  rw [ne_int]
  congr 2
  rw [Bool.not_eq_true', beq_eq_false_iff_ne]
  exact fun z => h (by exact_mod_cast z)
theorem tP_bad {p : D} (h : PairOk p none) {ρ : Rho} (hr : rd 3 ρ = .ok p) : tP ρ = .ok true := by
  cases h with
  | list l => exact orT_t (notT_ok (b := false) (asB_ok (un_ok hr (isi_tuple_list l))))
  | len l h => exact orT_f (notT_ok (b := true) (asB_ok (un_ok hr (isi_tuple _)))) (orT_t (asB_ok (bin_ok (un_ok hr (len_tuple l)) rfl (ne_two h))))
  | room a b h => exact orT_f (notT_ok (b := true) (asB_ok (un_ok hr (isi_tuple _)))) (orT_f (asB_ok (bin_ok (un_ok hr (len_two _ _)) rfl rfl)) (orT_t (notT_ok (b := false) (asB_ok ((call1 (bin_ok hr rfl (ix_t0 _ _))).trans h)))))
  | share r b h h' => exact orT_f (notT_ok (b := true) (asB_ok (un_ok hr (isi_tuple _)))) (orT_f (asB_ok (bin_ok (un_ok hr (len_two _ _)) rfl rfl)) (orT_f (notT_ok (b := true) (asB_ok ((call1 (bin_ok hr rfl (ix_t0 _ _))).trans (is_whole_ok r)))) (notT_ok (b := false) (asB_ok ((call1 (bin_ok hr rfl (ix_t1 _ _))).trans h)))))
theorem tL_bad {p : D} (h : PairOk p none) {ρ : Rho} (hr : rd 4 ρ = .ok p) : tL ρ = .ok true := by
  cases h with
  | list l => exact orT_t (notT_ok (b := false) (asB_ok (un_ok hr (isi_tuple_list l))))
  | len l h => exact orT_f (notT_ok (b := true) (asB_ok (un_ok hr (isi_tuple _)))) (orT_t (asB_ok (bin_ok (un_ok hr (len_tuple l)) rfl (ne_two h))))
  | room a b h => exact orT_f (notT_ok (b := true) (asB_ok (un_ok hr (isi_tuple _)))) (orT_f (asB_ok (bin_ok (un_ok hr (len_two _ _)) rfl rfl)) (orT_t (notT_ok (b := false) (asB_ok ((call1 (bin_ok hr rfl (ix_t0 _ _))).trans h)))))
  | share r b h h' => exact orT_f (notT_ok (b := true) (asB_ok (un_ok hr (isi_tuple _)))) (orT_f (asB_ok (bin_ok (un_ok hr (len_two _ _)) rfl rfl)) (orT_f (notT_ok (b := true) (asB_ok ((call1 (bin_ok hr rfl (ix_t0 _ _))).trans (law_whole_ok r)))) (notT_ok (b := false) (asB_ok ((call1 (bin_ok hr rfl (ix_t1 _ _))).trans h')))))
theorem tP_some (p : RQ) {ρ : Rho} (hr : rd 3 ρ = .ok (prI p)) : tP ρ = .ok (!decide (0 ≤ p.2)) :=
  orT_f (notT_ok (b := true) (asB_ok (un_ok hr (isi_tuple _)))) (orT_f (asB_ok (bin_ok (un_ok hr (len_two _ _)) rfl rfl)) (orT_f (notT_ok (b := true) (asB_ok ((call1 (bin_ok hr rfl (pI0 p))).trans (is_whole_ok _)))) (notT_ok (asB_ok ((call1 (bin_ok hr rfl (pI1 p))).trans (fr_test _))))))
theorem tL_some (p : RQ) {ρ : Rho} (hr : rd 4 ρ = .ok (prI p)) : tL ρ = .ok false :=
  orT_f (notT_ok (b := true) (asB_ok (un_ok hr (isi_tuple _)))) (orT_f (asB_ok (bin_ok (un_ok hr (len_two _ _)) rfl rfl)) (orT_f (notT_ok (b := true) (asB_ok ((call1 (bin_ok hr rfl (pI0 p))).trans (law_whole_ok _)))) (notT_ok (b := true) (asB_ok ((call1 (bin_ok hr rfl (pI1 p))).trans (law_is_fraction_ok _))))))
/-! the second test -/
abbrev uP : Tx := orT (asB (bin (bin (rd 3) (kc (.int 0)) dIx) (rd 2) dLe)) (orT (asB (bin (bin (rd 3) (kc (.int 0)) dIx) (rd 1) dGe)) (asB (bin (bin (rd 3) (kc (.int 1)) dIx) (kc (.tuple [.int 0, .int 1])) dEq)))
abbrev uL : Tx := orT (asB (bin (bin (rd 4) (kc (.int 0)) dIx) (rd 3) dLe)) (orT (asB (bin (bin (rd 4) (kc (.int 0)) dIx) (rd 1) dGe)) (asB (bin (bin (bin (rd 4) (kc (.int 1)) dIx) (kc (.int 0)) dIx) (kc (.int 0)) dLe)))
theorem orT_b {f g : Tx} {ρ : Rho} {a b : Bool} (h : f ρ = .ok a) (k : g ρ = .ok b) : orT f g ρ = .ok (a || b) := by
  cases a with
  | true => rw [orT_t h]; rfl
  | false => rw [orT_f h k, Bool.false_or]
theorem uP_ok (p : RQ) (h0 : 0 ≤ p.2) {ρ : Rho} {n last : Int} (h3 : rd 3 ρ = .ok (prI p)) (h2 : rd 2 ρ = .ok (.int last)) (h1 : rd 1 ρ = .ok (.int n)) : uP ρ = .ok (!decide (last < p.1 ∧ p.1 < n ∧ 0 < p.2)) := by
  have e : uP ρ = .ok (decide (p.1 ≤ last) || (decide (n ≤ p.1) || decide (p.2 = 0))) := orT_b (asB_ok (bin_ok (bin_ok h3 rfl (pI0 p)) h2 (le_ii _ _))) (orT_b (asB_ok (bin_ok (bin_ok h3 rfl (pI0 p)) h1 (ge_ii _ _))) (asB_ok (bin_ok (bin_ok h3 rfl (pI1 p)) rfl (eq_nought _))))
  rw [e]
  congr 1
  rw [Bool.eq_iff_iff]
  simp only [Bool.or_eq_true, decide_eq_true_eq, Bool.not_eq_true', decide_eq_false_iff_not]
  constructor
  · rintro (h | h | h) <;> rintro ⟨a, b, c⟩
    · omega
    · omega
    · rw [h] at c; exact absurd c (by decide)
  · intro h
    by_cases a : p.1 ≤ last
    · exact .inl a
    · by_cases b : n ≤ p.1
      · exact .inr (.inl b)
      · refine .inr (.inr ?_)
        by_cases c : p.2 = 0
        · exact c
        · exact absurd ⟨by omega, by omega, by grind⟩ h
theorem uL_ok (p : RQ) {ρ : Rho} {n last : Int} (h4 : rd 4 ρ = .ok (prI p)) (h3 : rd 3 ρ = .ok (.int last)) (h1 : rd 1 ρ = .ok (.int n)) : uL ρ = .ok (!decide (last < p.1 ∧ p.1 < n ∧ 0 < p.2)) := by
  have e : uL ρ = .ok (decide (p.1 ≤ last) || (decide (n ≤ p.1) || decide (¬ 0 < p.2))) := orT_b (asB_ok (bin_ok (bin_ok h4 rfl (pI0 p)) h3 (le_ii _ _))) (orT_b (asB_ok (bin_ok (bin_ok h4 rfl (pI0 p)) h1 (ge_ii _ _))) (asB_ok (bin_ok (bin_ok (bin_ok h4 rfl (pI1 p)) rfl (ix_fr0 _)) rfl (by rw [le_ii, num_le]))))
  rw [e]
  congr 1
  rw [Bool.eq_iff_iff]
  simp only [Bool.or_eq_true, decide_eq_true_eq, Bool.not_eq_true', decide_eq_false_iff_not]
  constructor
  · rintro (h | h | h) <;> rintro ⟨a, b, c⟩
    · omega
    · omega
    · exact h c
  · intro h
    by_cases a : p.1 ≤ last
    · exact .inl a
    · by_cases b : n ≤ p.1
      · exact .inr (.inl b)
      · exact .inr (.inr fun c => h ⟨by omega, by omega, c⟩)
/-! the loops -/
theorem loopP (x : D) (n : Int) : ∀ {ps : List D} {cs : List (Option RQ)}, PsOk ps cs → ∀ (last : Int) (c : Option D),
    (chk n last cs = false → forL (.nm 3) (gSeq (gIf tP (gRet (kc (.bool false))) gSkip) (gSeq (gIf uP (gRet (kc (.bool false))) gSkip) (gSet 2 (bin (rd 3) (kc (.int 0)) dIx)))) ps [some x, some (.int n), some (.int last), c] = .rt (.bool false)) ∧
    (chk n last cs = true → ∃ last' c', forL (.nm 3) (gSeq (gIf tP (gRet (kc (.bool false))) gSkip) (gSeq (gIf uP (gRet (kc (.bool false))) gSkip) (gSet 2 (bin (rd 3) (kc (.int 0)) dIx)))) ps [some x, some (.int n), some (.int last), c] = .nx [some x, some (.int n), some (.int last'), c'])
  | _, _, .nil, last, c => ⟨fun h => (by cases h), fun _ => ⟨last, c, rfl⟩⟩
  | _, _, .cons (p := p) (c := none) hp h, last, c => ⟨fun _ => forL_rt (ρ' := [some x, some (.int n), some (.int last), some p]) rfl (gSeq_rt ((gIf_t (tP_bad hp rfl)).trans rfl)), fun h => by cases h⟩
  | _, _, .cons (c := some _) (ps := ps) (cs := cs) (.some p hz) h, last, c => by
    by_cases h0 : 0 ≤ p.2
    · have e1 := tP_some p (ρ := [some x, some (.int n), some (.int last), some (prI p)]) rfl
      rw [decide_eq_true h0] at e1
      have e2 := uP_ok p h0 (ρ := [some x, some (.int n), some (.int last), some (prI p)]) (n := n) (last := last) rfl rfl rfl
      by_cases k : last < p.1 ∧ p.1 < n ∧ 0 < p.2
      · rw [decide_eq_true k] at e2
        have st : (gSeq (gIf tP (gRet (kc (.bool false))) gSkip) (gSeq (gIf uP (gRet (kc (.bool false))) gSkip) (gSet 2 (bin (rd 3) (kc (.int 0)) dIx)))) [some x, some (.int n), some (.int last), some (prI p)] = .nx [some x, some (.int n), some (.int p.1), some (prI p)] := (gSeq_nx (gIf_s e1)).trans ((gSeq_nx (gIf_s e2)).trans (gSet_ok (bin_ok rfl rfl (pI0 p))))
        have ih := loopP x n h p.1 (some (prI p))
        have ec : chk n last (some p :: cs) = chk n p.1 cs := by rw [chk_cons, if_pos k]
        rw [ec]
        exact ⟨fun z => (forL_cons rfl st).trans (ih.1 z), fun z => by obtain ⟨l', c', e⟩ := ih.2 z; exact ⟨l', c', (forL_cons rfl st).trans e⟩⟩
      · rw [decide_eq_false k] at e2
        have ec : chk n last (some p :: cs) = false := by rw [chk_cons, if_neg k]
        rw [ec]
        exact ⟨fun _ => forL_rt (ρ' := [some x, some (.int n), some (.int last), some (prI p)]) rfl ((gSeq_nx (gIf_s e1)).trans (gSeq_rt ((gIf_t e2).trans rfl))), fun z => by cases z⟩
    · have e1 := tP_some p (ρ := [some x, some (.int n), some (.int last), some (prI p)]) rfl
      rw [decide_eq_false h0] at e1
      have ec : chk n last (some p :: cs) = false := by rw [chk_cons, if_neg (by rintro ⟨_, _, z⟩; exact h0 (by grind))]
      rw [ec]
      exact ⟨fun _ => forL_rt (ρ' := [some x, some (.int n), some (.int last), some (prI p)]) rfl (gSeq_rt ((gIf_t e1).trans rfl)), fun z => by cases z⟩
theorem loopL (x : D) (n : Int) : ∀ {ps : List D} {cs : List (Option RQ)}, PsOk ps cs → ∀ (last : Int) (s : Rat) (m : Nat) (c : Option D), Sz m s → m + 7 * ps.length ≤ 2000 →
    (chk n last cs = false → forL (.nm 4) (gSeq (gIf tL (gRet (kc (.bool false))) gSkip) (gSeq (gIf uL (gRet (kc (.bool false))) gSkip) (gSeq (gSet 3 (bin (rd 4) (kc (.int 0)) dIx)) (gSet 2 (callD 3 m_law_add (aCons (rd 2) (aCons (bin (rd 4) (kc (.int 1)) dIx) (aCons (mkTup (aCons (kc (.int 1)) (aCons (kc (.int 1)) aNil))) aNil)))))))) ps [some x, some (.int n), some (fr s), some (.int last), c] = .rt (.bool false)) ∧
    (chk n last cs = true → ∃ last' c', forL (.nm 4) (gSeq (gIf tL (gRet (kc (.bool false))) gSkip) (gSeq (gIf uL (gRet (kc (.bool false))) gSkip) (gSeq (gSet 3 (bin (rd 4) (kc (.int 0)) dIx)) (gSet 2 (callD 3 m_law_add (aCons (rd 2) (aCons (bin (rd 4) (kc (.int 1)) dIx) (aCons (mkTup (aCons (kc (.int 1)) (aCons (kc (.int 1)) aNil))) aNil)))))))) ps [some x, some (.int n), some (fr s), some (.int last), c] = .nx [some x, some (.int n), some (fr (s + sumC cs)), some (.int last'), c'])
  | _, _, .nil, last, s, m, c, _, _ => ⟨fun h => (by cases h), fun _ => ⟨last, c, by show Out.nx _ = _; rw [show sumC [] = 0 from rfl, Rat.add_zero]⟩⟩
  | _, _, .cons (p := p) (c := none) hp h, last, s, m, c, _, _ => ⟨fun _ => forL_rt (ρ' := [some x, some (.int n), some (fr s), some (.int last), some p]) rfl (gSeq_rt ((gIf_t (tL_bad hp rfl)).trans rfl)), fun h => by cases h⟩
  | _, _, .cons (c := some _) (ps := ps) (cs := cs) (.some p hz) h, last, s, m, c, hs, hm => by
    rw [List.length_cons] at hm
    have e1 := tL_some p (ρ := [some x, some (.int n), some (fr s), some (.int last), some (prI p)]) rfl
    have e2 := uL_ok p (ρ := [some x, some (.int n), some (fr s), some (.int last), some (prI p)]) (n := n) (last := last) rfl rfl rfl
    by_cases k : last < p.1 ∧ p.1 < n ∧ 0 < p.2
    · rw [decide_eq_true k] at e2
      have ea := law_add_ok (a := s) (b := p.2) (c := 1) (hs.mono (by omega)) (hz.mono (by omega)) (Sz.one (by omega))
      rw [Rat.one_mul] at ea
      have st : (gSeq (gIf tL (gRet (kc (.bool false))) gSkip) (gSeq (gIf uL (gRet (kc (.bool false))) gSkip) (gSeq (gSet 3 (bin (rd 4) (kc (.int 0)) dIx)) (gSet 2 (callD 3 m_law_add (aCons (rd 2) (aCons (bin (rd 4) (kc (.int 1)) dIx) (aCons (mkTup (aCons (kc (.int 1)) (aCons (kc (.int 1)) aNil))) aNil)))))))) [some x, some (.int n), some (fr s), some (.int last), some (prI p)] = .nx [some x, some (.int n), some (fr (s + p.2)), some (.int p.1), some (prI p)] :=
        (gSeq_nx (gIf_s e1)).trans ((gSeq_nx (gIf_s e2)).trans ((gSeq_nx (gSet_ok (bin_ok rfl rfl (pI0 p)))).trans (gSet_ok ((call3 rfl (bin_ok rfl rfl (pI1 p)) (mkTup_ok (l := [.int 1, .int 1]) (aCons_ok rfl (aCons_ok rfl rfl)) rfl)).trans ea))))
      have ih := loopL x n h p.1 (s + p.2) (m + 6) (some (prI p)) ((hs.add hz).mono (by omega)) (by omega)
      have ec : chk n last (some p :: cs) = chk n p.1 cs := by rw [chk_cons, if_pos k]
      have es : s + sumC (some p :: cs) = s + p.2 + sumC cs := by show s + (p.2 + sumC cs) = _; grind
      rw [ec, es]
      exact ⟨fun z => (forL_cons rfl st).trans (ih.1 z), fun z => by obtain ⟨l', c', e⟩ := ih.2 z; exact ⟨l', c', (forL_cons rfl st).trans e⟩⟩
    · rw [decide_eq_false k] at e2
      have ec : chk n last (some p :: cs) = false := by rw [chk_cons, if_neg k]
      rw [ec]
      exact ⟨fun _ => forL_rt (ρ' := [some x, some (.int n), some (fr s), some (.int last), some (prI p)]) rfl ((gSeq_nx (gIf_s e1)).trans (gSeq_rt ((gIf_t e2).trans rfl))), fun z => by cases z⟩
/-! ### spreads that may be none -/
def CandS (x : D) : Prop := Sh 6 x ∧ ((∃ l, x = .list l) ∨ ∃ ps cs, x = .tuple ps ∧ PsOk ps cs ∧ ps.length ≤ 8)
theorem sum_small : ∀ {l : List Rat}, (∀ q, q ∈ l → Sz 5 q) → Sz (6 * l.length + 1) l.sum
  | [], _ => by rw [List.sum_nil]; exact Sz.zero (by omega)
  | q :: r, h => by
    rw [List.sum_cons, List.length_cons]
    exact ((h q List.mem_cons_self).add (sum_small fun x m => h x (List.mem_cons_of_mem _ m))).mono (by omega)
theorem spread_both {x : D} (h : CandS x) (n : Nat) : ∃ b, m_is_spread [x, .int n] = .ok (.bool b) ∧ m_law_is_spread [x, .int n] = .ok (.bool b) := by
  obtain ⟨sh, h⟩ := h
  rcases h with ⟨l, rfl⟩ | ⟨ps, cs, rfl, hp, hl⟩
  · exact ⟨false, by kernel_rfl, by kernel_rfl⟩
  · by_cases h0 : ps = []
    · subst h0
      exact ⟨false, by kernel_rfl, by kernel_rfl⟩
    · have hpos : 0 < ps.length := List.length_pos_iff.mpr h0
      have lp := loopP (.tuple ps) n hp (-1) none
      have ll := loopL (.tuple ps) n hp (-1) 0 1 none (Sz.zero (by omega)) (by omega)
      have startP : ∀ o, gSeq (gFor (.nm 3) (itS (rd 0)) (gSeq (gIf tP (gRet (kc (.bool false))) gSkip) (gSeq (gIf uP (gRet (kc (.bool false))) gSkip) (gSet 2 (bin (rd 3) (kc (.int 0)) dIx))))) (gRet (bin (callD 1 m_summed (aCons (comp [3] (.nm 3) (itS (rd 0)) yes (bin (rd 3) (kc (.int 1)) dIx)) aNil)) (kc (.tuple [.int 1, .int 1])) dEq)) [some (.tuple ps), some (.int n), some (.int (-1)), none] = .rt o → m_is_spread [.tuple ps, .int n] = .ok o := fun o ho => by
        have e0 : dEq (.int (ps.length : Nat)) (.int 0) = some (.bool false) := by
          rw [eq_ii]
          congr 2
          exact beq_eq_false_iff_ne.mpr (by omega)
        refine run_rt ?_
        show gSeq _ _ [some (.tuple ps), some (.int n), none, none] = _
        refine (gSeq_nx (gIf_s (orT_f (notT_ok (b := true) (asB_ok (un_ok rfl (isi_tuple _)))) (asB_ok (bin_ok (un_ok rfl (len_tuple _)) rfl e0))))).trans ?_
        exact (gSeq_nx (gSet_ok (neg1 _))).trans ho
      have startL : ∀ o, gSeq (gFor (.nm 4) (itS (rd 0)) (gSeq (gIf tL (gRet (kc (.bool false))) gSkip) (gSeq (gIf uL (gRet (kc (.bool false))) gSkip) (gSeq (gSet 3 (bin (rd 4) (kc (.int 0)) dIx)) (gSet 2 (callD 3 m_law_add (aCons (rd 2) (aCons (bin (rd 4) (kc (.int 1)) dIx) (aCons (mkTup (aCons (kc (.int 1)) (aCons (kc (.int 1)) aNil))) aNil))))))))) (gRet (bin (rd 2) (mkTup (aCons (kc (.int 1)) (aCons (kc (.int 1)) aNil))) dEq)) [some (.tuple ps), some (.int n), some (fr 0), some (.int (-1)), none] = .rt o → m_law_is_spread [.tuple ps, .int n] = .ok o := fun o ho => by
        have e0 : dEq (.tuple ps) (.tuple []) = some (.bool false) := by
          rw [dEq_tuple sh.shaped (by decide)]
          congr 2
          cases ps with
          | nil => exact absurd rfl h0
          | cons a r => simp [PyData.eqv, PyData.eqvAll]
        refine run_rt ?_
        show gSeq _ _ [some (.tuple ps), some (.int n), none, none, none] = _
        refine (gSeq_nx (gIf_s (orT_f (notT_ok (b := true) (asB_ok (un_ok rfl (isi_tuple _)))) (asB_ok (bin_ok rfl (mkTup_ok rfl rfl) e0))))).trans ?_
        refine (gSeq_nx (gSet_ok (d := fr 0) (mkTup_ok (l := [.int 0, .int 1]) (aCons_ok rfl (aCons_ok rfl rfl)) rfl))).trans ?_
        exact (gSeq_nx (gSet_ok (neg1 _))).trans ho
      cases hc : chk n (-1) cs with
      | false => exact ⟨false, startP _ (gSeq_rt (gFor_nx (itS_tuple rfl) (lp.1 hc))), startL _ (gSeq_rt (gFor_nx (itS_tuple rfl) (ll.1 hc)))⟩
      | true =>
        obtain ⟨l1, c1, ep⟩ := lp.2 hc
        obtain ⟨l2, c2, el⟩ := ll.2 hc
        obtain ⟨rs, rfl, hpos⟩ := chk_some hc
        obtain ⟨rfl, hz⟩ := hp.some_map
        rw [List.length_map] at hl
        rw [sumC_map, Rat.zero_add] at el
        refine ⟨decide ((rs.map (·.2)).sum = 1), startP _ ((gSeq_nx (gFor_nx (itS_tuple rfl) ep)).trans ?_), startL _ ((gSeq_nx (gFor_nx (itS_tuple rfl) el)).trans ?_)⟩
        · have hcm := comp_ok (vs := [3]) (tg := .nm 3) (fi := itS (rd 0)) (ft := yes) (fe := bin (rd 3) (kc (.int 1)) dIx) (ρ := [some (.tuple (rs.map prI)), some (.int n), some (.int l1), c1]) prI (fun _ => true) (fun p => fr p.2) rs (line_small (by omega)) (itS_tuple rfl) (fun p _ => ⟨[some (.tuple (rs.map prI)), some (.int n), some (.int l1), some (prI p)], rfl, rfl, fun _ => bin_ok rfl rfl (pI1 p)⟩)
          rw [filter_yes] at hcm
          have hs := summed_ok (v := rs.map (·.2)) fun pre q post e => by
            have hzz : ∀ z, z ∈ rs.map (·.2) → Sz 5 z := fun z m => by
              obtain ⟨p, hp, rfl⟩ := List.mem_map.mp m
              exact hz p hp
            have hpl : pre.length ≤ 8 := by
              have := congrArg List.length e
              rw [List.length_map, List.length_append] at this
              omega
            exact ⟨(sum_small fun z m => hzz z (by rw [e]; exact List.mem_append_left _ m)).mono (by omega), (hzz q (by rw [e]; exact List.mem_append_right _ List.mem_cons_self)).mono (by omega)⟩
          unfold vecD at hs
          rw [List.map_map] at hs
          exact gRet_ok (bin_ok ((call1 hcm).trans hs) rfl (eq_one _))
        · exact gRet_ok (bin_ok rfl (mkTup_ok (l := [.int 1, .int 1]) (aCons_ok rfl (aCons_ok rfl rfl)) rfl) (eq_one _))
/-! ### walks that may be none -/
def CandW (x : D) : Prop := dIsi "tuple" x = some (.bool false) ∨ ∃ xs, x = .tuple xs ∧ ∀ y, y ∈ xs → CandS y
theorem walk_both {x : D} (h : CandW x) : ∃ b, m_is_walk [x] = .ok (.bool b) ∧ m_law_is_walk [x] = .ok (.bool b) := by
  rcases h with h | ⟨xs, rfl, hx⟩
  · refine ⟨false, run_rt ?_, run_rt ?_⟩
    · show gSeq _ _ [some x, none] = _
      exact gSeq_rt ((gIf_t (orT_t (notT_ok (b := false) (asB_ok (un_ok rfl h))))).trans rfl)
    · show gSeq _ _ [some x, none] = _
      exact gSeq_rt ((gIf_t (orT_t (notT_ok (b := false) (asB_ok (un_ok rfl h))))).trans rfl)
  · have tst : (orT (notT (asB (un (rd 0) (dIsi "tuple")))) (orT (asB (bin (un (rd 0) dLen) (kc (.int 1)) dLt)) (asB (bin (un (rd 0) dLen) (kc (.int 8)) dGt)))) [some (.tuple xs), none] = .ok (decide (xs.length < 1) || decide (8 < xs.length)) := by
      refine orT_f (notT_ok (b := true) (asB_ok (un_ok rfl (isi_tuple _)))) (orT_b (asB_ok (bin_ok (un_ok rfl (len_tuple _)) rfl ?_)) (asB_ok (bin_ok (un_ok rfl (len_tuple _)) rfl ?_)))
      · rw [lt_ii]; congr 2; exact decide_eq_decide.mpr (by omega)
      · rw [gt_ii]; congr 2; exact decide_eq_decide.mpr (by omega)
    cases ht : (decide (xs.length < 1) || decide (8 < xs.length)) with
    | true =>
      rw [ht] at tst
      refine ⟨false, run_rt ?_, run_rt ?_⟩
      · show gSeq _ _ [some (.tuple xs), none] = _
        exact gSeq_rt ((gIf_t tst).trans rfl)
      · show gSeq _ _ [some (.tuple xs), none] = _
        exact gSeq_rt ((gIf_t tst).trans rfl)
    | false =>
      rw [ht] at tst
      have h8 : xs.length ≤ 8 := by
        rw [Bool.or_eq_false_iff] at ht
        have := of_decide_eq_false ht.2
        omega
      have hb : ∀ y : D, ∃ b, y ∈ xs → m_is_spread [y, .int xs.length] = .ok (.bool b) ∧ m_law_is_spread [y, .int xs.length] = .ok (.bool b) := fun y => by
        by_cases m : y ∈ xs
        · obtain ⟨b, h⟩ := spread_both (hx y m) xs.length
          exact ⟨b, fun _ => h⟩
        · exact ⟨false, fun z => absurd z m⟩
      refine ⟨xs.all fun y => (hb y).choose, run_rt ?_, run_rt ?_⟩
      · show gSeq _ _ [some (.tuple xs), none] = _
        refine (gSeq_nx (gIf_s tst)).trans ?_
        have hcm := comp_val (vs := [1]) (i := 1) (fi := itS (rd 0)) (fe := callD 2 m_is_spread (aCons (rd 1) (aCons (un (rd 0) dLen) aNil))) (ρ := [some (.tuple xs), none]) (l := xs) (fun y => .bool (hb y).choose) (itS_tuple rfl) (by omega) (fun y m => ⟨[some (.tuple xs), some y], rfl, (call2 rfl (un_ok rfl (len_tuple _))).trans ((hb y).choose_spec m).1⟩)
        refine gRet_ok (un_ok hcm ?_)
        have := all_bools0 (xs.map fun y => (hb y).choose)
        rw [List.map_map] at this
        rw [show (xs.all fun y => (hb y).choose) = (xs.map fun y => (hb y).choose).all id by rw [List.all_map]; rfl]
        exact this
      · show gSeq _ _ [some (.tuple xs), none] = _
        refine (gSeq_nx (gIf_s tst)).trans ?_
        have hcm := comp_ok (vs := [1]) (tg := .nm 1) (fi := itS (rd 0)) (ft := notT (asB (callD 2 m_law_is_spread (aCons (rd 1) (aCons (un (rd 0) dLen) aNil))))) (fe := rd 1) (ρ := [some (.tuple xs), none]) (fun y : D => y) (fun y => !(hb y).choose) (fun y => y) xs (line_small (by omega)) (by rw [List.map_id']; exact itS_tuple rfl) (fun y m => ⟨[some (.tuple xs), some y], rfl, notT_ok (asB_ok ((call2 rfl (un_ok rfl (len_tuple _))).trans ((hb y).choose_spec m).2)), fun _ => rfl⟩)
        rw [List.map_id'] at hcm
        refine gRet_ok (bin_ok hcm (mkLst_ok rfl rfl) ?_)
        have shl : Sh 7 (.list (xs.filter fun y => !(hb y).choose)) := sh_list fun d m => (hx d (List.mem_filter.mp m).1).1
        rw [dEq_list shl.shaped (by decide)]
        congr 2
        cases hf : xs.filter fun y => !(hb y).choose with
        | nil =>
          have : (xs.all fun y => (hb y).choose) = true := by
            rw [List.all_eq_true]
            intro y m
            have := List.filter_eq_nil_iff.mp hf y m
            simpa using this
          rw [this]
          simp [PyData.eqv, PyData.eqvAll]
        | cons a r =>
          have ha : a ∈ xs.filter fun y => !(hb y).choose := by rw [hf]; exact List.mem_cons_self
          obtain ⟨a1, a2⟩ := List.mem_filter.mp ha
          have : (xs.all fun y => (hb y).choose) = false := by
            rw [Bool.eq_false_iff]
            intro z
            have := List.all_eq_true.mp z a a1
            rw [this] at a2
            cases a2
          rw [this]
          simp [PyData.eqv, PyData.eqvAll]
end LW
end

section
set_option Elab.async false
set_option linter.all false
set_option maxRecDepth 100000
set_option maxHeartbeats 2000000
set_option exponentiation.threshold 100000
set_option autoImplicit false
/-! PTX: texts: what number_of, share_of, pair_of read. -/
namespace LW
open PySem hiding run
open L2 hiding bin
open DL
abbrev Cs (l : List Nat) : PySem.Str := SX.S l

/-! ### what the words write -/
def dig (c : Nat) : Bool := decide (48 ≤ c) && decide (c ≤ 57)
def numOf (l : List Nat) : Option Nat :=
  if l = [] then none else if 30 < l.length then none else if l.head? = some 48 ∧ l ≠ [48] then none else if l.all dig = true then some (NumText.digitsVal l) else none
def shareOf (l : List Nat) : Option (Nat × Nat) :=
  match TL.par [47] [] l with
  | none => (numOf l).map fun n => (n, 1)
  | some (p, q) => (numOf q).bind fun d => if d < 2 then none else (numOf p).map fun n => (n, d)
def pairOf (l : List Nat) : Option (Nat × Nat × Nat) :=
  match TL.par [62] [] l with
  | none => none
  | some (p, q) => (numOf q).bind fun r => (shareOf p).map fun s => (r, s)
abbrev noText : PySem.Str := "NoText"
def toR {α δ : Type} (f : α → δ) : Option α → Res δ
  | some a => .ok (f a)
  | none => .exc noText

theorem lit0 : ("" : PySem.Str) = Cs [] := by kernel_rfl
theorem litSl : ("/" : PySem.Str) = Cs [47] := by kernel_rfl
theorem litGt : (">" : PySem.Str) = Cs [62] := by kernel_rfl
theorem litSp : (" " : PySem.Str) = Cs [32] := by kernel_rfl
theorem litSc : (" ; " : PySem.Str) = Cs [32, 59, 32] := by kernel_rfl
theorem lit48 : ("0" : PySem.Str) = Cs [48] := by kernel_rfl
theorem litDg : ("0123456789" : PySem.Str) = Cs [48, 49, 50, 51, 52, 53, 54, 55, 56, 57] := by kernel_rfl
/-- codes of signs -/
def Low (l : List Nat) : Prop := ∀ c, c ∈ l → c < 1114112
theorem low_all {l : List Nat} (h : l.all (· < 1114112) = true) : Low l := fun c m => of_decide_eq_true (List.all_eq_true.mp h c m)
theorem sh_S {a : List Nat} (h : Low a) : SeqAt.shaped (.str (Cs a)) = true := by
  unfold SeqAt.shaped
  rw [Bool.and_eq_true]
  refine ⟨?_, decide_eq_true (by simp [PyData.depth])⟩
  simp only [PyData.canLay0, PyData.strOk]
  rw [← Array.all_toList]
  exact List.all_eq_true.mpr fun c m => decide_eq_true (h c m)
theorem eq_S {a b : List Nat} (ha : Low a) (hb : Low b) : dEq (.str (Cs a)) (.str (Cs b)) = some (.bool (decide (a = b))) := by
  have h : dEq (.str (Cs a)) (.str (Cs b)) = some (.bool (PyData.eqv (.str (Cs a)) (.str (Cs b)))) := if_pos ⟨sh_S ha, sh_S hb⟩
  rw [h, ← SX.S_beq_eq]
  simp only [PyData.eqv]
theorem ne_S {a b : List Nat} (ha : Low a) (hb : Low b) : dNe (.str (Cs a)) (.str (Cs b)) = some (.bool (!decide (a = b))) := by
  have h : dNe (.str (Cs a)) (.str (Cs b)) = some (.bool (!PyData.eqv (.str (Cs a)) (.str (Cs b)))) := if_pos ⟨sh_S ha, sh_S hb⟩
  rw [h, ← SX.S_beq_eq]
  simp only [PyData.eqv]
theorem low_nil : Low [] := fun _ m => by cases m
theorem low_append {a b : List Nat} (ha : Low a) (hb : Low b) : Low (a ++ b) := fun c m => (List.mem_append.mp m).elim (ha c) (hb c)
theorem low_cons {c : Nat} {a : List Nat} (hc : c < 1114112) (ha : Low a) : Low (c :: a) := fun x m => (List.mem_cons.mp m).elim (fun e => e ▸ hc) (ha x)
theorem len_S {l : List Nat} (h : l.length ≤ 1000000) : dLen (.str (Cs l)) = some (.int l.length) := by
  show (if (Cs l).length ≤ sizeLine then some (PyData.int (Cs l).length) else none) = _
  rw [SX.S_len, if_pos (Nat.le_trans h (by decide))]
theorem ix_S0 (c : Nat) (r : List Nat) (h : (c :: r).length ≤ 1000000) : dIx (.str (Cs (c :: r))) (.int 0) = some (.str (Cs [c])) := by
  show (if (Cs (c :: r)).length ≤ sizeLine then (atI (Cs (c :: r)).cps.toList 0).map fun c => PyData.str ⟨#[c]⟩ else none) = _
  rw [SX.S_len, if_pos (Nat.le_trans h (by decide))]
  show (atI (c :: r) 0).map _ = _
  rw [atI0]
  rfl
theorem itS_S {f : Ex} {ρ : Rho} {l : List Nat} (h : f ρ = .ok (.str (Cs l))) : itS f ρ = .ok (l.map fun c => .str (Cs [c])) := by
  unfold itS
  rw [h]
  rfl
theorem dig_mem (c : Nat) : decide (c ∈ [48, 49, 50, 51, 52, 53, 54, 55, 56, 57]) = dig c := by
  unfold dig
  rw [← Bool.decide_and]
  refine decide_eq_decide.mpr ?_
  simp only [List.mem_cons, List.not_mem_nil, or_false]
  omega
theorem notin_S (c : Nat) : dNotIn (.str (Cs [c])) (.str (Cs [48, 49, 50, 51, 52, 53, 54, 55, 56, 57])) = some (.bool (!dig c)) := by
  rw [← dig_mem, ← SX.in_one]
  rfl
theorem gRaise_ok (c : PySem.Str) (ρ : Rho) : gRaise c ρ = .exc c := rfl
abbrev gDg : Gx := gIf (asB (bin (rd 1) (kc (.str ("0123456789" : PySem.Str))) dNotIn)) (gRaise ("NoText" : PySem.Str)) gSkip
theorem dg_loop (x : D) : ∀ (l : List Nat) (y : Option D), (l.all dig = true → ∃ y', forL (.nm 1) gDg (l.map fun c => .str (Cs [c])) [some x, y] = .nx [some x, y']) ∧ (l.all dig = false → forL (.nm 1) gDg (l.map fun c => .str (Cs [c])) [some x, y] = .exc noText) := by
  intro l
  induction l with
  | nil => intro y; exact ⟨fun _ => ⟨y, rfl⟩, fun h => by cases h⟩
  | cons c l ih =>
    intro y
    have ht : ∀ b, dig c = b → asB (bin (rd 1) (kc (.str ("0123456789" : PySem.Str))) dNotIn) [some x, some (.str (Cs [c]))] = .ok (!b) := fun b e => by
      rw [litDg]
      exact asB_ok (bin_ok rfl rfl (by rw [notin_S, e]))
    cases e : dig c with
    | true =>
      have e1 : gDg [some x, some (.str (Cs [c]))] = .nx [some x, some (.str (Cs [c]))] := gIf_s (ht _ e)
      have e2 : forL (.nm 1) gDg ((c :: l).map fun c => .str (Cs [c])) [some x, y] = forL (.nm 1) gDg (l.map fun c => .str (Cs [c])) [some x, some (.str (Cs [c]))] := by
        show (match gDg [some x, some (.str (Cs [c]))] with | .nx ρ'' => forL (.nm 1) gDg (l.map fun c => .str (Cs [c])) ρ'' | o => o) = _
        rw [e1]
      rw [e2, List.all_cons, e, Bool.true_and]
      exact ih _
    | false =>
      rw [List.all_cons, e, Bool.false_and]
      exact ⟨fun z => (by cases z), fun _ => forL_exc (ρ' := [some x, some (.str (Cs [c]))]) rfl ((gIf_t (ht _ e)).trans rfl)⟩
theorem all_dig (l : List Nat) : (l.all fun c => decide (48 ≤ c) && decide (c ≤ 57)) = l.all dig := rfl
theorem number_ok {l : List Nat} (hL : Low l) (h : l.length ≤ 1000) : m_number_of [.str (Cs l)] = toR (fun n : Nat => .int n) (numOf l) := by
  unfold numOf
  by_cases h0 : l = []
  · subst h0
    rw [if_pos rfl]
    refine run_exc ?_
    show gSeq _ _ [some (.str (Cs [])), none] = _
    exact gSeq_exc ((gIf_t (orT_t (asB_ok (bin_ok rfl rfl (by rw [lit0, eq_S hL low_nil]; rfl))))).trans rfl)
  rw [if_neg h0]
  have t0 : asB (bin (rd 0) (kc (.str ("" : PySem.Str))) dEq) [some (.str (Cs l)), none] = .ok false := asB_ok (bin_ok rfl rfl (by rw [lit0, eq_S hL low_nil, decide_eq_false h0]))
  by_cases h1 : 30 < l.length
  · rw [if_pos h1]
    refine run_exc ?_
    show gSeq _ _ [some (.str (Cs l)), none] = _
    exact gSeq_exc ((gIf_t (orT_f t0 (orT_t (asB_ok (bin_ok (un_ok rfl (len_S (by omega))) rfl (by rw [gt_ii, decide_eq_true (by omega)])))))).trans rfl)
  rw [if_neg h1]
  have t1 : asB (bin (un (rd 0) dLen) (kc (.int 30)) dGt) [some (.str (Cs l)), none] = .ok false := asB_ok (bin_ok (un_ok rfl (len_S (by omega))) rfl (by rw [gt_ii, decide_eq_false (by omega)]))
  obtain ⟨c, r, rfl⟩ : ∃ c r, l = c :: r := by
    cases l with
    | nil => exact absurd rfl h0
    | cons c r => exact ⟨c, r, rfl⟩
  have t2 : asB (bin (bin (rd 0) (kc (.int 0)) dIx) (kc (.str ("0" : PySem.Str))) dEq) [some (.str (Cs (c :: r))), none] = .ok (decide (c = 48)) :=
    asB_ok (bin_ok (bin_ok rfl rfl (ix_S0 c r (by omega))) rfl (by rw [lit48, eq_S (low_cons (hL c List.mem_cons_self) low_nil) (low_cons (by decide) low_nil)]; congr 2; exact decide_eq_decide.mpr (by simp)))
  have t3 : asB (bin (rd 0) (kc (.str ("0" : PySem.Str))) dNe) [some (.str (Cs (c :: r))), none] = .ok (!decide (c :: r = [48])) := asB_ok (bin_ok rfl rfl (by rw [lit48, ne_S hL (low_cons (by decide) low_nil)]))
  by_cases h2 : (c :: r).head? = some 48 ∧ c :: r ≠ [48]
  · rw [if_pos h2]
    have hc : c = 48 := by simpa using h2.1
    refine run_exc ?_
    show gSeq _ _ [some (.str (Cs (c :: r))), none] = _
    refine gSeq_exc ((gIf_t (orT_f t0 (orT_f t1 (andT_t (by rw [t2, decide_eq_true hc]) (by rw [t3, decide_eq_false h2.2]; rfl))))).trans rfl)
  rw [if_neg h2]
  have tt : (orT (asB (bin (rd 0) (kc (.str ("" : PySem.Str))) dEq)) (orT (asB (bin (un (rd 0) dLen) (kc (.int 30)) dGt)) (andT (asB (bin (bin (rd 0) (kc (.int 0)) dIx) (kc (.str ("0" : PySem.Str))) dEq)) (asB (bin (rd 0) (kc (.str ("0" : PySem.Str))) dNe))))) [some (.str (Cs (c :: r))), none] = .ok false := by
    refine orT_f t0 (orT_f t1 ?_)
    by_cases hc : c = 48
    · refine andT_t (by rw [t2, decide_eq_true hc]) ?_
      have : c :: r = [48] := by
        by_cases z : c :: r = [48]
        · exact z
        · exact absurd ⟨by rw [hc]; rfl, z⟩ h2
      rw [t3, decide_eq_true this]
      rfl
    · exact andT_f (by rw [t2, decide_eq_false hc])
  cases ha : (c :: r).all dig with
  | true =>
    rw [if_pos rfl]
    obtain ⟨y', e⟩ := (dg_loop (.str (Cs (c :: r))) (c :: r) none).1 ha
    refine run_rt ?_
    show gSeq _ _ [some (.str (Cs (c :: r))), none] = _
    refine (gSeq_nx (gIf_s tt)).trans ((gSeq_nx (gFor_nx (itS_S rfl) e)).trans (gRet_ok (un_ok rfl ?_)))
    show (PySem.intText? (Cs (c :: r))).bind (fun n => if (Cs (c :: r)).length ≤ 640 then some (PyData.int n) else none) = _
    rw [SX.int_S ((all_dig _).trans ha) (List.cons_ne_nil _ _) (by omega)]
    show (if (Cs (c :: r)).length ≤ 640 then some (PyData.int _) else none) = _
    rw [SX.S_len, if_pos (by omega)]
  | false =>
    rw [if_neg (by decide)]
    refine run_exc ?_
    show gSeq _ _ [some (.str (Cs (c :: r))), none] = _
    exact (gSeq_nx (gIf_s tt)).trans (gSeq_exc (gFor_nx (itS_S rfl) ((dg_loop _ _ none).2 ha)))

/-! ### shares, pairs -/
theorem binS_ok {fo fe : Ex} {op : Str → D → Option D} {ρ : Rho} {x : Str} {b c : D} (ho : fo ρ = .ok (.str x)) (he : fe ρ = .ok b) (h : op x b = some c) : binS fo fe op ρ = .ok c := by
  unfold binS
  rw [ho]
  show (fe ρ).bind _ = _
  rw [he]
  show ofO (op x b) = _
  rw [h]
  rfl
theorem un_exc {f : Ex} {op : D → Option D} {ρ : Rho} {c : Str} (h : f ρ = .exc c) : un f op ρ = .exc c := by
  unfold un
  rw [h]
  rfl
theorem bin_exc1 {f g : Ex} {op : D → D → Option D} {ρ : Rho} {c : Str} (h : f ρ = .exc c) : bin f g op ρ = .exc c := by
  unfold bin
  rw [h]
  rfl
theorem aCons_exc1 {f : Ex} {g : Ax} {ρ : Rho} {c : Str} (h : f ρ = .exc c) : aCons f g ρ = .exc c := by
  unfold aCons
  rw [h]
  rfl
theorem aCons_exc2 {f : Ex} {g : Ax} {ρ : Rho} {a : D} {c : Str} (ha : f ρ = .ok a) (h : g ρ = .exc c) : aCons f g ρ = .exc c := by
  unfold aCons
  rw [ha]
  show (g ρ).bind _ = _
  rw [h]
  rfl
theorem mkTup_exc {g : Ax} {ρ : Rho} {c : Str} (h : g ρ = .exc c) : mkTup g ρ = .exc c := by
  unfold mkTup
  rw [h]
  rfl
def partD (s l : List Nat) : D := match TL.par s [] l with
  | none => .tuple [.str (Cs l), .str (Cs []), .str (Cs [])]
  | some (p, q) => .tuple [.str (Cs p), .str (Cs s), .str (Cs q)]
theorem part_ok {l s : List Nat} (hs : s ≠ []) (hl : l.length ≤ 1000000) : dPart (Cs l) (.str (Cs s)) = some (partD s l) := by
  have h1 : ((Cs s).length == 0) = false := by
    rw [SX.S_len]
    cases s with
    | nil => exact absurd rfl hs
    | cons => rfl
  show (if ((Cs s).length == 0) = false ∧ (Cs l).length ≤ sizeLine then some _ else none) = _
  rw [if_pos ⟨h1, by rw [SX.S_len]; exact Nat.le_trans hl (by decide)⟩]
  unfold partD
  cases e : TL.par s [] l with
  | none => rw [SX.partition_none hs e]
  | some pq =>
    obtain ⟨p, q⟩ := pq
    rw [SX.partition_some hs e]
theorem par_len {s : List Nat} : ∀ (l acc p q : List Nat), TL.par s acc l = some (p, q) → p.length ≤ acc.length + l.length ∧ q.length ≤ l.length := by
  intro l
  induction l with
  | nil => intro acc p q h; cases h
  | cons c r ih =>
    intro acc p q h
    cases e : TL.pre s (c :: r) with
    | true =>
      rw [TL.par_hit e] at h
      cases h
      exact ⟨by omega, by rw [List.length_drop]; omega⟩
    | false =>
      rw [TL.par_miss e] at h
      have := ih _ _ _ h
      rw [List.length_append, List.length_singleton] at this
      rw [List.length_cons]
      omega
theorem ixt2 (a b c : D) : dIx (.tuple [a, b, c]) (.int 2) = some c := rfl
theorem ixt1 (a b c : D) : dIx (.tuple [a, b, c]) (.int 1) = some b := rfl
theorem ixt0 (a b c : D) : dIx (.tuple [a, b, c]) (.int 0) = some a := rfl
abbrev shD (s : Nat × Nat) : D := .tuple [.int s.1, .int s.2]
theorem par_mem {s : List Nat} : ∀ (l acc p q : List Nat), TL.par s acc l = some (p, q) → (∀ c, c ∈ p → c ∈ acc ∨ c ∈ l) ∧ ∀ c, c ∈ q → c ∈ l := by
  intro l
  induction l with
  | nil => intro acc p q h; cases h
  | cons c r ih =>
    intro acc p q h
    cases e : TL.pre s (c :: r) with
    | true =>
      rw [TL.par_hit e] at h
      cases h
      exact ⟨fun x m => .inl m, fun x m => List.mem_of_mem_drop m⟩
    | false =>
      rw [TL.par_miss e] at h
      obtain ⟨h1, h2⟩ := ih _ _ _ h
      refine ⟨fun x m => ?_, fun x m => List.mem_cons_of_mem _ (h2 x m)⟩
      rcases h1 x m with m | m
      · rcases List.mem_append.mp m with m | m
        · exact .inl m
        · rw [List.mem_singleton.mp m]; exact .inr List.mem_cons_self
      · exact .inr (List.mem_cons_of_mem _ m)
theorem share_ok {l : List Nat} (hL : Low l) (h : l.length ≤ 1000) : m_share_of [.str (Cs l)] = toR shD (shareOf l) := by
  have hp := part_ok (l := l) (s := [47]) (by decide) (by omega)
  have e0 : binS (rd 0) (kc (.str ("/" : PySem.Str))) dPart [some (.str (Cs l)), none, none] = .ok (partD [47] l) := by rw [litSl]; exact binS_ok rfl rfl hp
  unfold shareOf
  unfold partD at e0
  cases e : TL.par [47] [] l with
  | none =>
    rw [e] at e0
    have t : asB (bin (bin (rd 1) (kc (.int 1)) dIx) (kc (.str ("" : PySem.Str))) dEq) [some (.str (Cs l)), some (.tuple [.str (Cs l), .str (Cs []), .str (Cs [])]), none] = .ok true := asB_ok (bin_ok (bin_ok rfl rfl (ixt1 _ _ _)) rfl (by rw [lit0, eq_S (by first | exact low_nil | exact low_cons (by decide) low_nil) low_nil]; rfl))
    have hn := number_ok hL h
    cases en : numOf l with
    | none =>
      rw [en] at hn
      refine run_exc ?_
      show gSeq _ _ [some (.str (Cs l)), none, none] = _
      exact (gSeq_nx (gSet_ok e0)).trans (gSeq_exc ((gIf_t t).trans (gRet_exc (mkTup_exc (aCons_exc1 ((call1 rfl).trans hn))))))
    | some n =>
      rw [en] at hn
      refine run_rt ?_
      show gSeq _ _ [some (.str (Cs l)), none, none] = _
      exact (gSeq_nx (gSet_ok e0)).trans (gSeq_rt ((gIf_t t).trans (gRet_ok (mkTup_ok (aCons_ok ((call1 rfl).trans hn) (aCons_ok rfl rfl)) rfl))))
  | some pq =>
    obtain ⟨p, q⟩ := pq
    rw [e] at e0
    obtain ⟨lp, lq⟩ := par_len _ _ _ _ e
    have hm := par_mem _ _ _ _ e
    have Lp : Low p := fun c m => hL c ((hm.1 c m).resolve_left (fun z => by cases z))
    have Lq : Low q := fun c m => hL c (hm.2 c m)
    have t : asB (bin (bin (rd 1) (kc (.int 1)) dIx) (kc (.str ("" : PySem.Str))) dEq) [some (.str (Cs l)), some (.tuple [.str (Cs p), .str (Cs [47]), .str (Cs q)]), none] = .ok false := asB_ok (bin_ok (bin_ok rfl rfl (ixt1 _ _ _)) rfl (by rw [lit0, eq_S (by first | exact low_nil | exact low_cons (by decide) low_nil) low_nil]; rfl))
    have hq := number_ok Lq (by omega)
    have hpn := number_ok Lp (by rw [List.length_nil] at lp; omega)
    have c1 : callD 1 m_number_of (aCons (bin (rd 1) (kc (.int 2)) dIx) aNil) [some (.str (Cs l)), some (.tuple [.str (Cs p), .str (Cs [47]), .str (Cs q)]), none] = toR (fun n : Nat => .int n) (numOf q) := (call1 (bin_ok rfl rfl (ixt2 _ _ _))).trans hq
    show m_share_of [.str (Cs l)] = toR shD ((numOf q).bind fun d => if d < 2 then none else (numOf p).map fun n => (n, d))
    cases eq : numOf q with
    | none =>
      rw [eq] at c1
      refine run_exc ?_
      show gSeq _ _ [some (.str (Cs l)), none, none] = _
      exact (gSeq_nx (gSet_ok e0)).trans ((gSeq_nx (gIf_s t)).trans (gSeq_exc (gSet_exc c1)))
    | some d =>
      rw [eq] at c1
      show _ = toR shD (if d < 2 then none else (numOf p).map fun n => (n, d))
      have c2 : callD 1 m_number_of (aCons (bin (rd 1) (kc (.int 0)) dIx) aNil) [some (.str (Cs l)), some (.tuple [.str (Cs p), .str (Cs [47]), .str (Cs q)]), some (.int d)] = toR (fun n : Nat => .int n) (numOf p) := (call1 (bin_ok rfl rfl (ixt0 _ _ _))).trans hpn
      by_cases h2 : d < 2
      · rw [if_pos h2]
        refine run_exc ?_
        show gSeq _ _ [some (.str (Cs l)), none, none] = _
        exact (gSeq_nx (gSet_ok e0)).trans ((gSeq_nx (gIf_s t)).trans ((gSeq_nx (gSet_ok c1)).trans (gSeq_exc ((gIf_t (asB_ok (bin_ok rfl rfl (lt_t (by omega))))).trans rfl))))
      · rw [if_neg h2]
        cases ep : numOf p with
        | none =>
          rw [ep] at c2
          refine run_exc ?_
          show gSeq _ _ [some (.str (Cs l)), none, none] = _
          exact (gSeq_nx (gSet_ok e0)).trans ((gSeq_nx (gIf_s t)).trans ((gSeq_nx (gSet_ok c1)).trans ((gSeq_nx (gIf_s (asB_ok (bin_ok rfl rfl (lt_f (by omega)))))).trans (gRet_exc (mkTup_exc (aCons_exc1 c2))))))
        | some n =>
          rw [ep] at c2
          refine run_rt ?_
          show gSeq _ _ [some (.str (Cs l)), none, none] = _
          exact (gSeq_nx (gSet_ok e0)).trans ((gSeq_nx (gIf_s t)).trans ((gSeq_nx (gSet_ok c1)).trans ((gSeq_nx (gIf_s (asB_ok (bin_ok rfl rfl (lt_f (by omega)))))).trans (gRet_ok (mkTup_ok (aCons_ok c2 (aCons_ok rfl rfl)) rfl)))))
abbrev prN (x : Nat × Nat × Nat) : D := .tuple [.int x.1, shD x.2]
theorem pair_ok {l : List Nat} (hL : Low l) (h : l.length ≤ 1000) : m_pair_of [.str (Cs l)] = toR prN (pairOf l) := by
  have hp := part_ok (l := l) (s := [62]) (by decide) (by omega)
  have e0 : binS (rd 0) (kc (.str (">" : PySem.Str))) dPart [some (.str (Cs l)), none] = .ok (partD [62] l) := by rw [litGt]; exact binS_ok rfl rfl hp
  unfold pairOf
  unfold partD at e0
  cases e : TL.par [62] [] l with
  | none =>
    rw [e] at e0
    refine run_exc ?_
    show gSeq _ _ [some (.str (Cs l)), none] = _
    exact (gSeq_nx (gSet_ok e0)).trans (gSeq_exc ((gIf_t (asB_ok (bin_ok (bin_ok rfl rfl (ixt1 _ _ _)) rfl (by rw [lit0, eq_S (by first | exact low_nil | exact low_cons (by decide) low_nil) low_nil]; rfl)))).trans rfl))
  | some pq =>
    obtain ⟨p, q⟩ := pq
    rw [e] at e0
    obtain ⟨lp, lq⟩ := par_len _ _ _ _ e
    have hm := par_mem _ _ _ _ e
    have Lp : Low p := fun c m => hL c ((hm.1 c m).resolve_left (fun z => by cases z))
    have Lq : Low q := fun c m => hL c (hm.2 c m)
    have t : asB (bin (bin (rd 1) (kc (.int 1)) dIx) (kc (.str ("" : PySem.Str))) dEq) [some (.str (Cs l)), some (.tuple [.str (Cs p), .str (Cs [62]), .str (Cs q)])] = .ok false := asB_ok (bin_ok (bin_ok rfl rfl (ixt1 _ _ _)) rfl (by rw [lit0, eq_S (by first | exact low_nil | exact low_cons (by decide) low_nil) low_nil]; rfl))
    have hq := number_ok Lq (by omega)
    have hs := share_ok Lp (by rw [List.length_nil] at lp; omega)
    have c1 : callD 1 m_number_of (aCons (bin (rd 1) (kc (.int 2)) dIx) aNil) [some (.str (Cs l)), some (.tuple [.str (Cs p), .str (Cs [62]), .str (Cs q)])] = toR (fun n : Nat => .int n) (numOf q) := (call1 (bin_ok rfl rfl (ixt2 _ _ _))).trans hq
    have c2 : callD 1 m_share_of (aCons (bin (rd 1) (kc (.int 0)) dIx) aNil) [some (.str (Cs l)), some (.tuple [.str (Cs p), .str (Cs [62]), .str (Cs q)])] = toR shD (shareOf p) := (call1 (bin_ok rfl rfl (ixt0 _ _ _))).trans hs
    show m_pair_of [.str (Cs l)] = toR prN ((numOf q).bind fun r => (shareOf p).map fun s => (r, s))
    cases eq : numOf q with
    | none =>
      rw [eq] at c1
      refine run_exc ?_
      show gSeq _ _ [some (.str (Cs l)), none] = _
      exact (gSeq_nx (gSet_ok e0)).trans ((gSeq_nx (gIf_s t)).trans (gRet_exc (mkTup_exc (aCons_exc1 c1))))
    | some r =>
      rw [eq] at c1
      cases es : shareOf p with
      | none =>
        rw [es] at c2
        refine run_exc ?_
        show gSeq _ _ [some (.str (Cs l)), none] = _
        exact (gSeq_nx (gSet_ok e0)).trans ((gSeq_nx (gIf_s t)).trans (gRet_exc (mkTup_exc (aCons_exc2 c1 (aCons_exc1 c2)))))
      | some s =>
        rw [es] at c2
        refine run_rt ?_
        show gSeq _ _ [some (.str (Cs l)), none] = _
        exact (gSeq_nx (gSet_ok e0)).trans ((gSeq_nx (gIf_s t)).trans (gRet_ok (mkTup_ok (aCons_ok c1 (aCons_ok c2 rfl)) rfl)))

/-! ### joined lists -/
theorem joinL_len (s : List Nat) (B : Nat) : ∀ parts : List (List Nat), (∀ p, p ∈ parts → p.length ≤ B) → (TL.joinL s parts).length ≤ parts.length * (B + s.length)
  | [], _ => Nat.zero_le _
  | [p], h => by
    show p.length ≤ 1 * _
    have := h p List.mem_cons_self
    omega
  | p :: q :: r, h => by
    show (p ++ (s ++ TL.joinL s (q :: r))).length ≤ (r.length + 1 + 1) * _
    have h1 := h p List.mem_cons_self
    have h2 := joinL_len s B (q :: r) fun x m => h x (List.mem_cons_of_mem _ m)
    rw [List.length_append, List.length_append]
    rw [List.length_cons] at h2
    rw [Nat.add_mul _ 1]
    omega
theorem join_ok {s : List Nat} {parts : List (List Nat)} {B : Nat} (h : ∀ p, p ∈ parts → p.length ≤ B) (hb : parts.length * (B + s.length) ≤ 1000000) : dJoin (Cs s) (.list (parts.map fun p => .str (Cs p))) = some (.str (Cs (TL.joinL s parts))) := by
  have e : parts.map (fun p => PyData.str (Cs p)) = (parts.map SX.S).map PyData.str := by rw [List.map_map]; rfl
  rw [e]
  show (allS ((parts.map SX.S).map PyData.str)).bind _ = _
  rw [allS_map]
  show (if joinFits (Cs s) (parts.map SX.S) = true then some (PyData.str (Txt.join (Cs s) (parts.map SX.S))) else none) = _
  rw [if_pos, SX.join_S]
  unfold joinFits
  refine decide_eq_true ?_
  rw [SX.lens, List.length_map, SX.S_len]
  have : ∀ l : List (List Nat), (∀ p, p ∈ l → p.length ≤ B) → (l.map (·.length)).sum ≤ l.length * B := by
    intro l
    induction l with
    | nil => intro _; exact Nat.zero_le _
    | cons a l ih =>
      intro h
      have h1 := h a List.mem_cons_self
      have h2 := ih fun p m => h p (List.mem_cons_of_mem _ m)
      rw [List.map_cons, List.sum_cons, List.length_cons, Nat.add_mul]
      omega
  have h3 := this parts h
  rw [Nat.mul_add] at hb
  omega
/-- no ; within: " ; " begins nowhere -/
theorem free_sc : ∀ {p : List Nat}, 59 ∉ p → SX.free [32, 59, 32] p = true
  | [], _ => rfl
  | c :: r, h => by
    have hr : 59 ∉ r := fun m => h (List.mem_cons_of_mem _ m)
    show (!(TL.pre [32, 59, 32] (c :: (r ++ [32, 59, 32]))) && SX.free [32, 59, 32] r) = true
    rw [Bool.and_eq_true, Bool.not_eq_true', free_sc hr]
    refine ⟨?_, rfl⟩
    cases hp : TL.pre [32, 59, 32] (c :: (r ++ [32, 59, 32])) with
    | false => rfl
    | true =>
      have e : (c :: (r ++ [32, 59, 32])).take 3 = [32, 59, 32] := eq_of_beq hp
      cases r with
      | nil => simp at e
      | cons d r =>
        have : d = 59 := by
          rw [List.cons_append, List.take_succ_cons, List.take_succ_cons] at e
          injection e with _ e
          injection e with e _
        exact (hr (by rw [this]; exact List.mem_cons_self)).elim
theorem spl_sc : ∀ {parts : List (List Nat)}, parts ≠ [] → (∀ p, p ∈ parts → 59 ∉ p) → TL.spl [32, 59, 32] 0 [] (TL.joinL [32, 59, 32] parts) = parts
  | [], h, _ => absurd rfl h
  | [p], _, hp => by
    show TL.spl [32, 59, 32] 0 [] p = [p]
    have hn := hp p List.mem_cons_self
    have := TL.spl_last (S := [32, 59, 32]) (p := p) (acc := []) fun i hi => by
      have hlt := List.drop_eq_getElem_cons hi
      rw [hlt]
      cases hq : TL.pre [32, 59, 32] (p[i] :: p.drop (i + 1)) with
      | false => rfl
      | true =>
        have e : (p[i] :: p.drop (i + 1)).take 3 = [32, 59, 32] := eq_of_beq hq
        have : 59 ∈ (p[i] :: p.drop (i + 1)).take 3 := by rw [e]; decide
        have := List.mem_of_mem_take this
        rw [← hlt] at this
        exact (hn (List.mem_of_mem_drop this)).elim
    exact this
  | p :: q :: r, _, hp => by
    show TL.spl [32, 59, 32] 0 [] (p ++ ([32, 59, 32] ++ TL.joinL [32, 59, 32] (q :: r))) = p :: q :: r
    rw [SX.spl_free _ (by decide) (free_sc (hp p List.mem_cons_self)), spl_sc (by simp) fun z hz => hp z (List.mem_cons_of_mem _ hz)]
theorem split_ok {l s : List Nat} (hs : s ≠ []) (hk : s.all (· < 256) = true) (hl : l.length ≤ 1000000) : dSplit (Cs l) (.str (Cs s)) = some (.list ((TL.spl s 0 [] l).map fun p => .str (Cs p))) := by
  have h1 : ((Cs s).length == 0) = false := by
    rw [SX.S_len]
    cases s with
    | nil => exact absurd rfl hs
    | cons => rfl
  show (if ((Cs s).length == 0) = false ∧ (Cs l).length + 2 ≤ sizeLine then some (PyData.list ((Txt.split (Cs l) (Cs s)).map PyData.str)) else none) = _
  rw [if_pos ⟨h1, by rw [SX.S_len]; exact Nat.le_trans (show l.length + 2 ≤ 1000002 by omega) (by decide)⟩, SX.split_S hs hk, List.map_map]
  rfl
end LW
end

section
set_option Elab.async false
set_option linter.all false
set_option maxRecDepth 100000
set_option maxHeartbeats 2000000
set_option exponentiation.threshold 100000
set_option autoImplicit false
/-! PTW: walks written, and read back. -/
namespace LW
open PySem hiding run
open L2 hiding bin
open DL

/-! ### what is written -/
def shareC (q : Rat) : List Nat := if q.den = 1 then TL.numL q.num.toNat else TL.numL q.num.toNat ++ (47 :: TL.numL q.den)
def pairC (p : Nat × Rat) : List Nat := shareC p.2 ++ (62 :: TL.numL p.1)
def spreadC (s : Spread) : List Nat := TL.joinL [32] (s.map pairC)
def walkC (w : Walk) : List Nat := TL.joinL [32, 59, 32] (w.map spreadC)
structure SmP (p : Nat × Rat) : Prop where
  room : p.1 < 16
  num : p.2.num = (p.2.num.toNat : Int)
  up : p.2.num.toNat < 16
  den : p.2.den < 16
theorem share_sz' {n : Nat} {s : Spread} (g : GoodSp n s) {p : Nat × Rat} (h : p ∈ s) : Sz 4 p.2 := by
  obtain ⟨d, d0, d12, hd⟩ := g.com
  have := (g.mem p h).2.1
  exact sz_unit (by omega) (show d < 2 ^ 4 by omega) (hd p h) (by grind) (g.le1 h)
theorem smP {w : Walk} (g : GoodWk w) {s : Spread} (hs : s ∈ w) {p : Nat × Rat} (hp : p ∈ s) : SmP p := by
  have gs := g.sp s hs
  have hz := share_sz' gs hp
  have h1 := hz.1
  have h2 := hz.2
  have h0 : 0 ≤ p.2.num := Rat.num_nonneg.mpr (Rat.le_of_lt (gs.mem p hp).2.1)
  have hr := (gs.mem p hp).1
  have hi := g.hi
  exact ⟨by omega, by omega, by omega, by omega⟩
theorem num2 {n : Nat} (h : n < 16) : (TL.numL n).length ≤ 2 := TL.numL_len (by decide) (by omega)
theorem shareC_len {p : Nat × Rat} (h : SmP p) : (shareC p.2).length ≤ 5 := by
  unfold shareC
  have h1 := num2 h.up
  have h2 := num2 h.den
  split
  · omega
  · rw [List.length_append, List.length_cons]; omega
theorem pairC_len {p : Nat × Rat} (h : SmP p) : (pairC p).length ≤ 8 := by
  unfold pairC
  have h1 := shareC_len h
  have h2 := num2 h.room
  rw [List.length_append, List.length_cons]; omega
theorem spreadC_len {w : Walk} (g : GoodWk w) {s : Spread} (hs : s ∈ w) : (spreadC s).length ≤ 27 := by
  have h := joinL_len [32] 8 (s.map pairC) fun p hp => by
    obtain ⟨q, hq, rfl⟩ := List.mem_map.mp hp
    exact pairC_len (smP g hs hq)
  have := (g.sp s hs).few
  rw [List.length_map] at h
  show (TL.joinL [32] (s.map pairC)).length ≤ _
  have h2 : s.length * (8 + [32].length) ≤ 3 * 9 := Nat.mul_le_mul this (Nat.le_refl _)
  omega
theorem walkC_len {w : Walk} (g : GoodWk w) : (walkC w).length ≤ 240 := by
  have h := joinL_len [32, 59, 32] 27 (w.map spreadC) fun p hp => by
    obtain ⟨q, hq, rfl⟩ := List.mem_map.mp hp
    exact spreadC_len g hq
  have := g.hi
  rw [List.length_map] at h
  show (TL.joinL [32, 59, 32] (w.map spreadC)).length ≤ _
  have h2 : w.length * (27 + [32, 59, 32].length) ≤ 8 * 30 := Nat.mul_le_mul this (Nat.le_refl _)
  omega
theorem mem_joinL {s : List Nat} {x : Nat} : ∀ {parts : List (List Nat)}, x ∈ TL.joinL s parts → x ∈ s ∨ ∃ p, p ∈ parts ∧ x ∈ p
  | [], h => by cases h
  | [p], h => .inr ⟨p, List.mem_cons_self, h⟩
  | p :: q :: r, h => by
    have h : x ∈ p ++ (s ++ TL.joinL s (q :: r)) := h
    rcases List.mem_append.mp h with h | h
    · exact .inr ⟨p, List.mem_cons_self, h⟩
    · rcases List.mem_append.mp h with h | h
      · exact .inl h
      · rcases mem_joinL h with h | ⟨y, m, h⟩
        · exact .inl h
        · exact .inr ⟨y, List.mem_cons_of_mem _ m, h⟩
theorem shareC_free {q : Rat} {x : Nat} (h : x < 48 ∨ 57 < x) (h2 : x ≠ 47) : x ∉ shareC q := by
  unfold shareC
  have := @TL.numL_free
  split
  · exact TL.numL_free h
  · intro m
    rcases List.mem_append.mp m with m | m
    · exact TL.numL_free h m
    · rcases List.mem_cons.mp m with m | m
      · exact h2 m
      · exact TL.numL_free h m
theorem pairC_free {p : Nat × Rat} {x : Nat} (h : x < 48 ∨ 57 < x) (h2 : x ≠ 47) (h3 : x ≠ 62) : x ∉ pairC p := by
  intro m
  rcases List.mem_append.mp m with m | m
  · exact shareC_free h h2 m
  · rcases List.mem_cons.mp m with m | m
    · exact h3 m
    · exact TL.numL_free h m
theorem spreadC_free (s : Spread) : 59 ∉ spreadC s := by
  intro m
  rcases mem_joinL m with m | ⟨p, hp, m⟩
  · revert m; decide
  · obtain ⟨q, _, rfl⟩ := List.mem_map.mp hp
    exact pairC_free (by decide) (by decide) (by decide) m

theorem numL_low (n : Nat) : Low (TL.numL n) := fun c m => by have := TL.numL_digits n c m; omega
theorem pairC_low {p : Nat × Rat} (h : SmP p) : Low (pairC p) := by
  unfold pairC shareC
  refine low_append ?_ (low_cons (by decide) (numL_low _))
  split
  · exact numL_low _
  · exact low_append (numL_low _) (low_cons (by decide) (numL_low _))
theorem low_join {s : List Nat} {parts : List (List Nat)} (hs : Low s) (h : ∀ p, p ∈ parts → Low p) : Low (TL.joinL s parts) := fun c m => by
  rcases mem_joinL m with m | ⟨p, hp, m⟩
  · exact hs c m
  · exact h p hp c m
theorem walkC_low {w : Walk} (g : GoodWk w) : Low (walkC w) := low_join (low_all (by decide)) fun p hp => by
  obtain ⟨s, hs, rfl⟩ := List.mem_map.mp hp
  refine low_join (low_all (by decide)) fun p hp => ?_
  obtain ⟨q, hq, rfl⟩ := List.mem_map.mp hp
  exact pairC_low (smP g hs hq)

/-! ### read back -/
theorem numOf_num : ∀ n, n < 16 → numOf (TL.numL n) = some n := by decide +kernel
theorem shareOf_C {p : Nat × Rat} (h : SmP p) : shareOf (shareC p.2) = some (p.2.num.toNat, p.2.den) := by
  unfold shareOf shareC
  have hd := p.2.den_nz
  by_cases c : p.2.den = 1
  · rw [if_pos c, SX.par_head_none (TL.numL_free (by decide)), numOf_num _ h.up, c]
    rfl
  · rw [if_neg c]
    have e : TL.par [47] [] (TL.numL p.2.num.toNat ++ (47 :: TL.numL p.2.den)) = some (TL.numL p.2.num.toNat, TL.numL p.2.den) := SX.par_head (sep := []) _ (TL.numL_free (by decide))
    rw [e]
    show (numOf (TL.numL p.2.den)).bind _ = _
    rw [numOf_num _ h.den, numOf_num _ h.up]
    show (if p.2.den < 2 then none else _) = _
    rw [if_neg (by omega)]
    rfl
theorem pairOf_C {p : Nat × Rat} (h : SmP p) : pairOf (pairC p) = some (p.1, p.2.num.toNat, p.2.den) := by
  unfold pairOf pairC
  have e : TL.par [62] [] (shareC p.2 ++ (62 :: TL.numL p.1)) = some (shareC p.2, TL.numL p.1) := SX.par_head (sep := []) _ (shareC_free (by decide) (by decide))
  rw [e]
  show (numOf (TL.numL p.1)).bind _ = _
  rw [numOf_num _ h.room, shareOf_C h]
  rfl
theorem pair_back {p : Nat × Rat} (h : SmP p) : m_pair_of [.str (Cs (pairC p))] = .ok (prD p) := by
  have hl := pairC_len h
  rw [pair_ok (pairC_low h) (by omega), pairOf_C h]
  show Res.ok (PyData.tuple [.int p.1, .tuple [.int (p.2.num.toNat : Int), .int (p.2.den : Int)]]) = .ok (.tuple [.int p.1, .tuple [.int p.2.num, .int p.2.den]])
  rw [← h.num]
theorem isi_str (x : PySem.Str) : dIsi "str" (.str x) = some (.bool true) := by kernel_rfl
theorem walk_is {w : Walk} (g : GoodWk w) : m_is_walk [walkD w] = .ok (.bool true) := by
  have lo := g.lo
  have hi := g.hi
  have hl : dLen (walkD w) = some (.int w.length) := len_walk w
  refine run_rt ?_
  show gSeq _ _ [some (walkD w), none] = _
  refine (gSeq_nx (gIf_s (orT_f (notT_ok (b := true) (asB_ok (un_ok rfl (isi_tuple _)))) (orT_f (asB_ok (bin_ok (un_ok rfl hl) rfl (lt_f (by omega)))) (asB_ok (bin_ok (un_ok rfl hl) rfl (by rw [gt_ii, decide_eq_false (by omega)]))))))).trans ?_
  have hc := comp_ok (vs := [1]) (tg := .nm 1) (fi := itS (rd 0)) (ft := yes) (fe := callD 2 m_is_spread (aCons (rd 1) (aCons (un (rd 0) dLen) aNil))) (ρ := [some (walkD w), none]) spreadD (fun _ => true) (fun _ => PyData.bool true) w (line_small (by omega)) (itS_tuple rfl) fun s hs => ⟨[some (walkD w), some (spreadD s)], rfl, rfl, fun _ => (call2 rfl (un_ok rfl hl)).trans (is_spread_ok (g.sp s hs))⟩
  rw [filter_yes] at hc
  refine gRet_ok (un_ok hc ?_)
  have := all_bools0 (w.map fun _ => true)
  rw [List.map_map] at this
  refine this.trans ?_
  congr 2
  rw [List.all_map]
  exact List.all_eq_true.mpr fun _ _ => rfl
theorem read_back {w : Walk} (g : GoodWk w) : m_read [.str (Cs (walkC w))] = .ok (walkD w) := by
  have hl := walkC_len g
  have lo := g.lo
  have hi := g.hi
  have hsp : dSplit (Cs (walkC w)) (.str (Cs [32, 59, 32])) = some (.list (w.map fun s => .str (Cs (spreadC s)))) := by
    rw [split_ok (by decide) (by decide) (by omega)]
    unfold walkC
    rw [spl_sc (by intro z; rw [List.map_eq_nil_iff.mp z] at lo; exact absurd lo (by decide)) fun p hp => by
      obtain ⟨s, _, rfl⟩ := List.mem_map.mp hp
      exact spreadC_free s]
    rw [List.map_map]
    rfl
  have hin : ∀ s, s ∈ w → un (comp [3] (.nm 3) (itS (binS (rd 2) (kc (.str (" " : PySem.Str))) dSplit)) yes (callD 1 m_pair_of (aCons (rd 3) aNil))) dTuple [some (.str (Cs (walkC w))), none, some (.str (Cs (spreadC s))), none] = .ok (spreadD s) := fun s hs => by
    have gs := g.sp s hs
    have hne : s ≠ [] := by
      intro z
      have := gs.sum
      rw [z] at this
      exact absurd this (by decide)
    have e : dSplit (Cs (spreadC s)) (.str (Cs [32])) = some (.list (s.map fun p => .str (Cs (pairC p)))) := by
      have h2 := spreadC_len g hs
      rw [split_ok (by decide) (by decide) (by omega)]
      unfold spreadC
      rw [SX.spl_join (by intro z; exact hne (List.map_eq_nil_iff.mp z)) fun p hp => by
        obtain ⟨q, _, rfl⟩ := List.mem_map.mp hp
        exact pairC_free (by decide) (by decide) (by decide)]
      rw [List.map_map]
      rfl
    have hc := comp_ok (vs := [3]) (tg := .nm 3) (fi := itS (binS (rd 2) (kc (.str (" " : PySem.Str))) dSplit)) (ft := yes) (fe := callD 1 m_pair_of (aCons (rd 3) aNil)) (ρ := [some (.str (Cs (walkC w))), none, some (.str (Cs (spreadC s))), none])
      (fun p => PyData.str (Cs (pairC p))) (fun _ => true) prD s (line_small (by have := gs.few; omega)) (itS_list (by rw [litSp]; exact binS_ok rfl rfl e))
      fun p hp => ⟨[some (.str (Cs (walkC w))), none, some (.str (Cs (spreadC s))), some (.str (Cs (pairC p)))], rfl, rfl, fun _ => (call1 rfl).trans (pair_back (smP g hs hp))⟩
    rw [filter_yes] at hc
    exact un_ok hc rfl
  have hc := comp_ok (vs := [2]) (tg := .nm 2) (fi := itS (binS (rd 0) (kc (.str (" ; " : PySem.Str))) dSplit)) (ft := yes) (fe := un (comp [3] (.nm 3) (itS (binS (rd 2) (kc (.str (" " : PySem.Str))) dSplit)) yes (callD 1 m_pair_of (aCons (rd 3) aNil))) dTuple)
    (ρ := [some (.str (Cs (walkC w))), none, none, none]) (fun s => PyData.str (Cs (spreadC s))) (fun _ => true) spreadD w (line_small (by omega)) (itS_list (by rw [litSc]; exact binS_ok rfl rfl hsp))
    fun s hs => ⟨[some (.str (Cs (walkC w))), none, some (.str (Cs (spreadC s))), none], rfl, rfl, fun _ => hin s hs⟩
  rw [filter_yes] at hc
  refine run_rt ?_
  show gSeq _ _ [some (.str (Cs (walkC w))), none, none, none] = _
  refine (gSeq_nx (gIf_s (notT_ok (b := true) (asB_ok (un_ok rfl (isi_str _)))))).trans ?_
  refine (gSeq_nx (ρ' := [some (.str (Cs (walkC w))), some (walkD w), none, none]) (gSet_ok (un_ok hc (show dTuple (.list (w.map spreadD)) = some (walkD w) from rfl)))).trans ?_
  exact (gSeq_nx (gIf_s (notT_ok (b := true) (asB_ok ((call1 rfl).trans (walk_is g)))))).trans (gRet_ok rfl)

/-! ### figures; shown -/
abbrev cFg : Tx := orT (asB (bin (rd 0) (kc (.int 0)) dGt)) (asB (bin (rd 1) (kc (.str ("" : PySem.Str))) dEq))
abbrev bFg : Gx := gSeq (gSet 1 (bin (bin (kc (.str ("0123456789" : PySem.Str))) (bin (rd 0) (kc (.int 10)) dMod) dIx) (rd 1) dAdd)) (gSet 0 (bin (rd 0) (kc (.int 10)) dDiv))
theorem figs_wh {n : Nat} (h : n < 16) : whN cFg bFg 4 [some (.int (n : Int)), some (.str ("" : PySem.Str))] = .nx [some (.int 0), some (.str (Cs (TL.numL n)))] := by
  have : n = 0 ∨ n = 1 ∨ n = 2 ∨ n = 3 ∨ n = 4 ∨ n = 5 ∨ n = 6 ∨ n = 7 ∨ n = 8 ∨ n = 9 ∨ n = 10 ∨ n = 11 ∨ n = 12 ∨ n = 13 ∨ n = 14 ∨ n = 15 := by omega
  rcases this with rfl | rfl | rfl | rfl | rfl | rfl | rfl | rfl | rfl | rfl | rfl | rfl | rfl | rfl | rfl | rfl <;> kernel_rfl
theorem figs_ok {n : Nat} (h : n < 16) : m_law_figures [.int (n : Int)] = .ok (.str (Cs (TL.numL n))) := by
  have hn := figs_wh h
  have hw : gWh cFg bFg [some (.int (n : Int)), some (.str ("" : PySem.Str))] = .nx [some (.int 0), some (.str (Cs (TL.numL n)))] := by
    rw [gWh_of (n := 4) (by rw [hn]; intro z; cases z), hn]
  refine run_rt ?_
  show gSeq _ _ [some (.int (n : Int)), none] = _
  exact (gSeq_nx (ρ' := [some (.int (n : Int)), some (.str ("" : PySem.Str))]) (gSet_ok rfl)).trans ((gSeq_nx hw).trans (gRet_ok rfl))
theorem str_ok {n : Nat} (h : n < 16) : dStr (.int (n : Int)) = some (.str (Cs (TL.numL n))) := by
  show (if ((n : Int)).natAbs.log2 < 1920 then some (PyData.str (Str.ofString (toString (n : Int)))) else none) = _
  rw [Int.natAbs_natCast, if_pos, SX.num_S]
  have := log2_lt (x := n) (n := 4) (by omega) (by decide)
  omega
theorem add_S {a b : List Nat} (h : a.length + b.length ≤ 1000000) : dAdd (.str (Cs a)) (.str (Cs b)) = some (.str (Cs (a ++ b))) := by
  show (if (Cs a).length + (Cs b).length ≤ sizeLine then some (PyData.str (Cs a ++ Cs b)) else none) = _
  rw [SX.S_len, SX.S_len, if_pos (Nat.le_trans h (by decide)), SX.S_cat]
theorem shown_pair_ok {p : Nat × Rat} (h : SmP p) : m_shown_pair [.int p.1, fr p.2] = .ok (.str (Cs (pairC p))) := by
  have l1 := num2 h.up
  have l2 := num2 h.den
  have l3 := num2 h.room
  have e0 : dIx (fr p.2) (.int 0) = some (.int (p.2.num.toNat : Int)) := by rw [ix_fr0, ← h.num]
  have hu : un (bin (rd 1) (kc (.int 0)) dIx) dStr [some (.int (p.1 : Int)), some (fr p.2)] = .ok (.str (Cs (TL.numL p.2.num.toNat))) := un_ok (bin_ok rfl rfl e0) (str_ok h.up)
  have hd : un (bin (rd 1) (kc (.int 1)) dIx) dStr [some (.int (p.1 : Int)), some (fr p.2)] = .ok (.str (Cs (TL.numL p.2.den))) := un_ok (bin_ok rfl rfl (ix_fr1 _)) (str_ok h.den)
  have hr : un (rd 0) dStr [some (.int (p.1 : Int)), some (fr p.2)] = .ok (.str (Cs (TL.numL p.1))) := un_ok rfl (str_ok h.room)
  refine run_rt ?_
  show gSeq _ _ [some (.int (p.1 : Int)), some (fr p.2)] = _
  have ht : asB (bin (bin (rd 1) (kc (.int 1)) dIx) (kc (.int 1)) dEq) [some (.int (p.1 : Int)), some (fr p.2)] = .ok (decide ((p.2.den : Int) = 1)) := asB_ok (bin_ok (bin_ok rfl rfl (ix_fr1 _)) rfl (by show some (PyData.bool ((p.2.den : Int) == 1)) = _; rfl))
  by_cases c : p.2.den = 1
  · have e : pairC p = TL.numL p.2.num.toNat ++ [62] ++ TL.numL p.1 := by unfold pairC shareC; rw [if_pos c, List.append_assoc]; rfl
    rw [e]
    refine gSeq_rt ((gIf_t (by rw [ht, decide_eq_true (by omega)])).trans (gRet_ok ?_))
    rw [litGt]
    exact bin_ok (bin_ok hu rfl (add_S (by simp only [List.length_cons, List.length_nil]; omega))) hr (add_S (by simp only [List.length_append, List.length_cons, List.length_nil]; omega))
  · have e : pairC p = TL.numL p.2.num.toNat ++ [47] ++ TL.numL p.2.den ++ [62] ++ TL.numL p.1 := by unfold pairC shareC; rw [if_neg c]; simp only [List.append_assoc, List.cons_append, List.nil_append]
    rw [e]
    refine (gSeq_nx (gIf_s (by rw [ht, decide_eq_false (by omega)]))).trans (gRet_ok ?_)
    rw [litGt, litSl]
    exact bin_ok (bin_ok (bin_ok (bin_ok hu rfl (add_S (by simp only [List.length_cons, List.length_nil]; omega))) hd (add_S (by simp only [List.length_append, List.length_cons, List.length_nil]; omega))) rfl (add_S (by simp only [List.length_append, List.length_cons, List.length_nil]; omega))) hr (add_S (by simp only [List.length_append, List.length_cons, List.length_nil]; omega))
theorem join_pairs {w : Walk} (g : GoodWk w) {s : Spread} (hs : s ∈ w) : dJoin (Cs [32]) (.list (s.map fun p => .str (Cs (pairC p)))) = some (.str (Cs (spreadC s))) := by
  have h := join_ok (s := [32]) (parts := s.map pairC) (B := 8) (fun p hp => by
    obtain ⟨q, hq, rfl⟩ := List.mem_map.mp hp
    exact pairC_len (smP g hs hq)) (by
      have := (g.sp s hs).few
      rw [List.length_map]
      have h2 : s.length * (8 + [32].length) ≤ 3 * 9 := Nat.mul_le_mul this (Nat.le_refl _)
      omega)
  rw [List.map_map] at h
  exact h
theorem join_rooms {w : Walk} (g : GoodWk w) : dJoin (Cs [32, 59, 32]) (.list (w.map fun s => .str (Cs (spreadC s)))) = some (.str (Cs (walkC w))) := by
  have h := join_ok (s := [32, 59, 32]) (parts := w.map spreadC) (B := 27) (fun p hp => by
    obtain ⟨q, hq, rfl⟩ := List.mem_map.mp hp
    exact spreadC_len g hq) (by
      have := g.hi
      rw [List.length_map]
      have h2 : w.length * (27 + [32, 59, 32].length) ≤ 8 * 30 := Nat.mul_le_mul this (Nat.le_refl _)
      omega)
  rw [List.map_map] at h
  exact h
theorem shown_ok {w : Walk} (g : GoodWk w) : m_shown [walkD w] = .ok (.str (Cs (walkC w))) := by
  have hi := g.hi
  have hin : ∀ s, s ∈ w → binS (kc (.str (" " : PySem.Str))) (comp [3, 4] (.tp [3, 4]) (itS (rd 2)) yes (callD 2 m_shown_pair (aCons (rd 3) (aCons (rd 4) aNil)))) dJoin [some (walkD w), none, some (spreadD s), none, none] = .ok (.str (Cs (spreadC s))) := fun s hs => by
    have gs := g.sp s hs
    have hc := comp_ok (vs := [3, 4]) (tg := .tp [3, 4]) (fi := itS (rd 2)) (ft := yes) (fe := callD 2 m_shown_pair (aCons (rd 3) (aCons (rd 4) aNil))) (ρ := [some (walkD w), none, some (spreadD s), none, none])
      prD (fun _ => true) (fun p => PyData.str (Cs (pairC p))) s (line_small (by have := gs.few; omega)) (itS_tuple rfl)
      fun p hp => ⟨[some (walkD w), none, some (spreadD s), some (.int p.1), some (fr p.2)], rfl, rfl, fun _ => (call2 rfl rfl).trans (shown_pair_ok (smP g hs hp))⟩
    rw [filter_yes] at hc
    rw [litSp]
    exact binS_ok rfl hc (join_pairs g hs)
  have hc := comp_ok (vs := [2]) (tg := .nm 2) (fi := itS (rd 0)) (ft := yes) (fe := binS (kc (.str (" " : PySem.Str))) (comp [3, 4] (.tp [3, 4]) (itS (rd 2)) yes (callD 2 m_shown_pair (aCons (rd 3) (aCons (rd 4) aNil)))) dJoin)
    (ρ := [some (walkD w), none, none, none, none]) spreadD (fun _ => true) (fun s => PyData.str (Cs (spreadC s))) w (line_small (by omega)) (itS_tuple rfl)
    fun s hs => ⟨[some (walkD w), none, some (spreadD s), none, none], rfl, rfl, fun _ => hin s hs⟩
  rw [filter_yes] at hc
  refine run_rt ?_
  show gSeq _ _ [some (walkD w), none, none, none, none] = _
  refine (gSeq_nx (ρ' := [some (walkD w), some (.list (w.map fun s => .str (Cs (spreadC s)))), none, none, none]) (gSet_ok hc)).trans (gRet_ok ?_)
  rw [litSc]
  exact binS_ok rfl rfl (join_rooms g)

end LW
end

section
set_option Elab.async false
set_option linter.all false
set_option maxRecDepth 100000
set_option maxHeartbeats 2000000
set_option exponentiation.threshold 100000
set_option autoImplicit false
/-! PTY: any text: how it is cut, what the law's own reading makes of its words. -/
namespace LW
open PySem hiding run
open L2 hiding bin
open DL

/-! ### cut: sizes -/
def sumLen (ps : List (List Nat)) : Nat := (ps.map (·.length)).sum
theorem sumLen_cons (p : List Nat) (ps : List (List Nat)) : sumLen (p :: ps) = p.length + sumLen ps := by
  unfold sumLen
  rw [List.map_cons, List.sum_cons]
theorem spl_total (s : List Nat) : ∀ (l : List Nat) (k : Nat) (acc : List Nat), sumLen (TL.spl s k acc l) + (TL.spl s k acc l).length ≤ acc.length + l.length + 1
  | [], k, acc => by
    rw [TL.spl_nil, sumLen_cons]
    show acc.length + 0 + 1 ≤ _
    omega
  | c :: r, 0, acc => by
    cases h : TL.pre s (c :: r) with
    | true =>
      have ih := spl_total s r (s.length - 1) []
      rw [TL.spl_hit h, sumLen_cons, List.length_cons, List.length_cons]
      rw [List.length_nil] at ih
      omega
    | false =>
      have ih := spl_total s r 0 (acc ++ [c])
      rw [TL.spl_miss h, List.length_cons]
      rw [List.length_append, List.length_singleton] at ih
      omega
  | c :: r, k + 1, acc => by
    have ih := spl_total s r k acc
    show sumLen (TL.spl s k acc r) + (TL.spl s k acc r).length ≤ _
    rw [List.length_cons]
    omega
theorem spl_pos (s : List Nat) : ∀ (l : List Nat) (k : Nat) (acc : List Nat), 1 ≤ (TL.spl s k acc l).length
  | [], k, acc => by rw [TL.spl_nil]; exact Nat.le_refl _
  | c :: r, 0, acc => by
    cases h : TL.pre s (c :: r) with
    | true => rw [TL.spl_hit h, List.length_cons]; omega
    | false => rw [TL.spl_miss h]; exact spl_pos s r 0 _
  | c :: r, k + 1, acc => spl_pos s r k acc
theorem spl_mem (s : List Nat) : ∀ (l : List Nat) (k : Nat) (acc p : List Nat), p ∈ TL.spl s k acc l → ∀ c, c ∈ p → c ∈ acc ∨ c ∈ l
  | [], k, acc, p, h, c, hc => by
    rw [TL.spl_nil] at h
    rw [List.mem_singleton.mp h] at hc
    exact .inl hc
  | d :: r, 0, acc, p, h, c, hc => by
    cases e : TL.pre s (d :: r) with
    | true =>
      rw [TL.spl_hit e] at h
      rcases List.mem_cons.mp h with h | h
      · rw [h] at hc; exact .inl hc
      · rcases spl_mem s r _ [] p h c hc with z | z
        · cases z
        · exact .inr (List.mem_cons_of_mem _ z)
    | false =>
      rw [TL.spl_miss e] at h
      rcases spl_mem s r 0 _ p h c hc with z | z
      · rcases List.mem_append.mp z with z | z
        · exact .inl z
        · rw [List.mem_singleton.mp z]; exact .inr List.mem_cons_self
      · exact .inr (List.mem_cons_of_mem _ z)
  | d :: r, k + 1, acc, p, h, c, hc => (spl_mem s r k acc p h c hc).imp id (List.mem_cons_of_mem _)
theorem len_le_sum {p : List Nat} {ps : List (List Nat)} (h : p ∈ ps) : p.length ≤ sumLen ps := by
  induction ps with
  | nil => cases h
  | cons q ps ih =>
    rw [sumLen_cons]
    rcases List.mem_cons.mp h with rfl | h
    · omega
    · have := ih h
      omega
theorem joinL_total (s : Nat) : ∀ ps : List (List Nat), ps ≠ [] → (TL.joinL [s] ps).length + 1 = sumLen ps + ps.length
  | [], h => absurd rfl h
  | [p], _ => by
    rw [sumLen_cons]
    rfl
  | p :: q :: r, _ => by
    have ih := joinL_total s (q :: r) (by simp)
    show (p ++ ([s] ++ TL.joinL [s] (q :: r))).length + 1 = _
    rw [sumLen_cons, List.length_append, List.length_append, List.length_singleton]
    rw [List.length_cons (a := p)]
    omega
theorem sumLen_set (x : List Nat) : ∀ (ps : List (List Nat)) (i : Nat), sumLen (ps.set i x) ≤ sumLen ps + x.length
  | [], _ => Nat.zero_le _
  | p :: ps, 0 => by rw [List.set_cons_zero, sumLen_cons, sumLen_cons]; omega
  | p :: ps, i + 1 => by
    have := sumLen_set x ps i
    rw [List.set_cons_succ, sumLen_cons, sumLen_cons]
    omega
theorem par_eq {c : Nat} : ∀ (l acc p q : List Nat), TL.par [c] acc l = some (p, q) → acc ++ l = p ++ c :: q
  | [], acc, p, q, h => by cases h
  | d :: r, acc, p, q, h => by
    cases e : TL.pre [c] (d :: r) with
    | true =>
      rw [TL.par_hit e] at h
      cases h
      have : (d :: r).take 1 = [c] := eq_of_beq e
      have hd : d = c := by simpa using this
      rw [hd]
      rfl
    | false =>
      rw [TL.par_miss e] at h
      have := par_eq r _ _ _ h
      rw [List.append_assoc] at this
      exact this
/-! ### find -/
theorem find_S {a b : List Nat} (hb : b ≠ []) : Txt.find (Cs a) (Cs b) = match TL.par b [] a with | some (p, _) => (p.length : Int) | none => -1 := by
  have hy : TL.tl (Cs b) ≠ [] := hb
  have hx := TL.len_tl (Cs a)
  have ha : TL.tl (Cs a) = a := rfl
  have hb' : TL.tl (Cs b) = b := rfl
  unfold Txt.find
  rcases PySem.StrLaws.occ_head (Cs a) (Cs b) 1 (Nat.le_refl 1) with ⟨h0, hn⟩ | ⟨i, r, h0, hi, hn⟩
  · have run := TL.par_run (TL.tl (Cs b)) (TL.tl (Cs a)) (TL.tl (Cs a)).length 0 [] (by omega) (fun k _ _ => TL.no_at hy (hn k))
    rw [List.drop_zero, Nat.zero_add, List.drop_length, ha, hb'] at run
    rw [h0, run]
    rfl
  · have hbd : i + (Cs b).length ≤ (Cs a).length := hi.1
    have hl := TL.len_tl (Cs b)
    have run := TL.par_run (TL.tl (Cs b)) (TL.tl (Cs a)) i 0 [] (by omega) (fun k _ k2 => TL.no_at hy (hn k (by omega)))
    rw [List.drop_zero, Nat.zero_add, TL.par_at hy ((TL.at_iff hy i).mp hi), ha, hb', List.nil_append] at run
    rw [h0, run]
    show (i : Int) = ((a.take i).length : Int)
    rw [List.length_take, Nat.min_eq_left]
    rw [hx, ha] at hbd
    omega
theorem find_ok {a b : List Nat} (hb : b ≠ []) : dFind (Cs a) (.str (Cs b)) = some (.int (match TL.par b [] a with | some (p, _) => (p.length : Int) | none => -1)) := by
  rw [← find_S hb]
  rfl
theorem find_dig (c : Nat) : dFind (Cs [48, 49, 50, 51, 52, 53, 54, 55, 56, 57]) (.str (Cs [c])) = some (.int (if dig c = true then ((c - 48 : Nat) : Int) else -1)) := by
  rw [find_ok (by simp)]
  by_cases h : dig c = true
  · rw [if_pos h]
    unfold dig at h
    rw [Bool.and_eq_true, decide_eq_true_iff, decide_eq_true_iff] at h
    have : c = 48 ∨ c = 49 ∨ c = 50 ∨ c = 51 ∨ c = 52 ∨ c = 53 ∨ c = 54 ∨ c = 55 ∨ c = 56 ∨ c = 57 := by omega
    rcases this with rfl | rfl | rfl | rfl | rfl | rfl | rfl | rfl | rfl | rfl <;> rfl
  · rw [if_neg h]
    have hn : c ∉ [48, 49, 50, 51, 52, 53, 54, 55, 56, 57] := fun m => h (by rw [← dig_mem]; exact decide_eq_true m)
    rw [SX.par_head_none hn]
/-! ### slices -/
theorem sl_to {l : List Nat} {i : Nat} (h : l.length ≤ 1000000) : dSl (.str (Cs l)) none (some (i : Int)) = some (.str (Cs (l.take i))) := by
  show (if (Cs l).length ≤ sizeLine then some (PyData.str (cutS (Cs l) none (some (i : Int)))) else none) = _
  rw [SX.S_len, if_pos (Nat.le_trans h (by decide)), C8.cutS_slice, SX.slice_to (by omega)]
  rfl
theorem sl_from {l : List Nat} {i : Nat} (h : l.length ≤ 1000000) : dSl (.str (Cs l)) (some (i : Int)) none = some (.str (Cs (l.drop i))) := by
  show (if (Cs l).length ≤ sizeLine then some (PyData.str (cutS (Cs l) (some (i : Int)) none)) else none) = _
  rw [SX.S_len, if_pos (Nat.le_trans h (by decide)), C8.cutS_slice, SX.slice_from (by omega)]
  rfl
/-! ### the law's numbers -/
def noneOr {α : Type} (f : α → D) : Option α → D
  | some a => f a
  | none => .none
abbrev gLn : Gx := gSeq (gSet 3 (binS (kc (.str ("0123456789" : PySem.Str))) (rd 2) dFind)) (gSeq (gIf (asB (bin (rd 3) (kc (.int 0)) dLt)) (gRet (kc .none)) gSkip) (gSet 1 (bin (bin (kc (.int 10)) (rd 1) dMul) (rd 3) dAdd)))
theorem digitsVal_snoc (l : List Nat) (c : Nat) : NumText.digitsVal (l ++ [c]) = NumText.digitsVal l * 10 + (c - 48) := by
  unfold NumText.digitsVal
  rw [List.foldl_append]
  rfl
theorem ln_loop (x : D) : ∀ (post pre : List Nat) (y z : Option D), (post.all dig = true → ∃ y' z', forL (.nm 2) gLn (post.map fun c => .str (Cs [c])) [some x, some (.int (NumText.digitsVal pre : Nat)), y, z] = .nx [some x, some (.int (NumText.digitsVal (pre ++ post) : Nat)), y', z']) ∧ (post.all dig = false → forL (.nm 2) gLn (post.map fun c => .str (Cs [c])) [some x, some (.int (NumText.digitsVal pre : Nat)), y, z] = .rt .none) := by
  intro post
  induction post with
  | nil => intro pre y z; rw [List.append_nil]; exact ⟨fun _ => ⟨y, z, rfl⟩, fun h => by cases h⟩
  | cons c r ih =>
    intro pre y z
    have ef : binS (kc (.str ("0123456789" : PySem.Str))) (rd 2) dFind [some x, some (.int (NumText.digitsVal pre : Nat)), some (.str (Cs [c])), z] = .ok (.int (if dig c = true then ((c - 48 : Nat) : Int) else -1)) := by
      rw [litDg]
      exact binS_ok rfl rfl (find_dig c)
    cases e : dig c with
    | true =>
      rw [e, if_pos rfl] at ef
      have e1 : gLn [some x, some (.int (NumText.digitsVal pre : Nat)), some (.str (Cs [c])), z] = .nx [some x, some (.int (NumText.digitsVal (pre ++ [c]) : Nat)), some (.str (Cs [c])), some (.int ((c - 48 : Nat) : Int))] := by
        refine (gSeq_nx (gSet_ok ef)).trans ((gSeq_nx (gIf_s (asB_ok (bin_ok rfl rfl (lt_f (by omega)))))).trans ((gSet_ok (bin_ok (bin_ok rfl rfl (mul_ok (mulOk_l (by decide)))) rfl rfl)).trans ?_))
        rw [digitsVal_snoc]
        have : (10 : Int) * (NumText.digitsVal pre : Nat) + ((c - 48 : Nat) : Int) = ((NumText.digitsVal pre * 10 + (c - 48) : Nat) : Int) := by omega
        rw [this]
        rfl
      have e2 : forL (.nm 2) gLn ((c :: r).map fun c => .str (Cs [c])) [some x, some (.int (NumText.digitsVal pre : Nat)), y, z] = forL (.nm 2) gLn (r.map fun c => .str (Cs [c])) [some x, some (.int (NumText.digitsVal (pre ++ [c]) : Nat)), some (.str (Cs [c])), some (.int ((c - 48 : Nat) : Int))] := by
        show (match forL (.nm 2) gLn _ _ with | o => o) = _
        have e3 : forL (.nm 2) gLn ((c :: r).map fun c => .str (Cs [c])) [some x, some (.int (NumText.digitsVal pre : Nat)), y, z] = (match gLn [some x, some (.int (NumText.digitsVal pre : Nat)), some (.str (Cs [c])), z] with | .nx ρ'' => forL (.nm 2) gLn (r.map fun c => .str (Cs [c])) ρ'' | o => o) := rfl
        rw [e3, e1]
      rw [e2, List.all_cons, e, Bool.true_and]
      have := ih (pre ++ [c]) (some (.str (Cs [c]))) (some (.int ((c - 48 : Nat) : Int)))
      rw [List.append_assoc] at this
      exact this
    | false =>
      rw [e, if_neg (by decide)] at ef
      rw [List.all_cons, e, Bool.false_and]
      exact ⟨fun z => (by cases z), fun _ => forL_rt (ρ' := [some x, some (.int (NumText.digitsVal pre : Nat)), some (.str (Cs [c])), z]) rfl ((gSeq_nx (gSet_ok ef)).trans (gSeq_rt ((gIf_t (asB_ok (bin_ok rfl rfl (lt_t (by decide))))).trans rfl)))⟩
theorem law_number_ok {l : List Nat} (hL : Low l) (h : l.length ≤ 1000) : m_law_number_of [.str (Cs l)] = .ok (noneOr (fun n : Nat => .int n) (numOf l)) := by
  unfold numOf
  by_cases h0 : l = []
  · subst h0
    rw [if_pos rfl]
    refine run_rt ?_
    show gSeq _ _ [some (.str (Cs [])), none, none, none] = _
    exact gSeq_rt ((gIf_t (orT_t (asB_ok (bin_ok rfl rfl (by rw [lit0, eq_S low_nil low_nil]; rfl))))).trans rfl)
  rw [if_neg h0]
  have t0 : asB (bin (rd 0) (kc (.str ("" : PySem.Str))) dEq) [some (.str (Cs l)), none, none, none] = .ok false := asB_ok (bin_ok rfl rfl (by rw [lit0, eq_S hL low_nil, decide_eq_false h0]))
  by_cases h1 : 30 < l.length
  · rw [if_pos h1]
    refine run_rt ?_
    show gSeq _ _ [some (.str (Cs l)), none, none, none] = _
    exact gSeq_rt ((gIf_t (orT_f t0 (orT_t (asB_ok (bin_ok (un_ok rfl (len_S (by omega))) rfl (by rw [gt_ii, decide_eq_true (by omega)])))))).trans rfl)
  rw [if_neg h1]
  have t1 : asB (bin (un (rd 0) dLen) (kc (.int 30)) dGt) [some (.str (Cs l)), none, none, none] = .ok false := asB_ok (bin_ok (un_ok rfl (len_S (by omega))) rfl (by rw [gt_ii, decide_eq_false (by omega)]))
  obtain ⟨c, r, rfl⟩ : ∃ c r, l = c :: r := by
    cases l with
    | nil => exact absurd rfl h0
    | cons c r => exact ⟨c, r, rfl⟩
  have t2 : asB (bin (bin (rd 0) (kc (.int 0)) dIx) (kc (.str ("0" : PySem.Str))) dEq) [some (.str (Cs (c :: r))), none, none, none] = .ok (decide (c = 48)) :=
    asB_ok (bin_ok (bin_ok rfl rfl (ix_S0 c r (by omega))) rfl (by rw [lit48, eq_S (low_cons (hL c List.mem_cons_self) low_nil) (low_cons (by decide) low_nil)]; congr 2; exact decide_eq_decide.mpr (by simp)))
  have t3 : asB (bin (rd 0) (kc (.str ("0" : PySem.Str))) dNe) [some (.str (Cs (c :: r))), none, none, none] = .ok (!decide (c :: r = [48])) := asB_ok (bin_ok rfl rfl (by rw [lit48, ne_S hL (low_cons (by decide) low_nil)]))
  by_cases h2 : (c :: r).head? = some 48 ∧ c :: r ≠ [48]
  · rw [if_pos h2]
    have hc : c = 48 := by simpa using h2.1
    refine run_rt ?_
    show gSeq _ _ [some (.str (Cs (c :: r))), none, none, none] = _
    exact gSeq_rt ((gIf_t (orT_f t0 (orT_f t1 (andT_t (by rw [t2, decide_eq_true hc]) (by rw [t3, decide_eq_false h2.2]; rfl))))).trans rfl)
  rw [if_neg h2]
  have tt : (orT (asB (bin (rd 0) (kc (.str ("" : PySem.Str))) dEq)) (orT (asB (bin (un (rd 0) dLen) (kc (.int 30)) dGt)) (andT (asB (bin (bin (rd 0) (kc (.int 0)) dIx) (kc (.str ("0" : PySem.Str))) dEq)) (asB (bin (rd 0) (kc (.str ("0" : PySem.Str))) dNe))))) [some (.str (Cs (c :: r))), none, none, none] = .ok false := by
    refine orT_f t0 (orT_f t1 ?_)
    by_cases hc : c = 48
    · refine andT_t (by rw [t2, decide_eq_true hc]) ?_
      have : c :: r = [48] := by
        by_cases z : c :: r = [48]
        · exact z
        · exact absurd ⟨by rw [hc]; rfl, z⟩ h2
      rw [t3, decide_eq_true this]
      rfl
    · exact andT_f (by rw [t2, decide_eq_false hc])
  have start : (gSet 1 (kc (.int 0))) [some (.str (Cs (c :: r))), none, none, none] = .nx [some (.str (Cs (c :: r))), some (.int (NumText.digitsVal [] : Nat)), none, none] := rfl
  obtain ⟨l1, l2⟩ := ln_loop (.str (Cs (c :: r))) (c :: r) [] none none
  refine run_rt ?_
  show gSeq _ _ [some (.str (Cs (c :: r))), none, none, none] = _
  refine (gSeq_nx (gIf_s tt)).trans ((gSeq_nx start).trans ?_)
  cases ha : (c :: r).all dig with
  | true =>
    rw [if_pos rfl]
    obtain ⟨y', z', e⟩ := l1 ha
    exact (gSeq_nx (gFor_nx (itS_S rfl) e)).trans (gRet_ok rfl)
  | false =>
    rw [if_neg (by decide)]
    exact gSeq_rt (gFor_nx (itS_S rfl) (l2 ha))
/-! ### the law's pairs -/
def okP (x : Nat × Nat × Nat) : Bool := decide (x.2.1 ≠ 0) && decide (Nat.gcd x.2.1 x.2.2 = 1)
def lawPair (l : List Nat) : Option (Nat × Nat × Nat) := (pairOf l).bind fun x => if okP x = true then some x else none
theorem is_none (d : D) (b : Bool) (h : dIs d .none = some (.bool b)) {f : Ex} {ρ : Rho} (e : f ρ = .ok d) : asB (bin f (kc .none) dIs) ρ = .ok b := asB_ok (bin_ok e rfl h)
theorem law_pair_ok {l : List Nat} (hL : Low l) (h : l.length ≤ 1000) : m_law_pair_of [.str (Cs l)] = .ok (noneOr prN (lawPair l)) := by
  have hl : l.length ≤ 1000000 := by omega
  have e0 : binS (rd 0) (kc (.str (">" : PySem.Str))) dFind [some (.str (Cs l)), none, none, none, none, none] = .ok (.int (match TL.par [62] [] l with | some (p, _) => (p.length : Int) | none => -1)) := by rw [litGt]; exact binS_ok rfl rfl (find_ok (by simp))
  unfold lawPair pairOf
  cases e : TL.par [62] [] l with
  | none =>
    rw [e] at e0
    refine run_rt ?_
    show gSeq _ _ [some (.str (Cs l)), none, none, none, none, none] = _
    exact (gSeq_nx (gSet_ok e0)).trans (gSeq_rt ((gIf_t (asB_ok (bin_ok rfl rfl (lt_t (by decide))))).trans rfl))
  | some pq =>
    obtain ⟨p, q⟩ := pq
    rw [e] at e0
    have e0 : binS (rd 0) (kc (.str (">" : PySem.Str))) dFind [some (.str (Cs l)), none, none, none, none, none] = .ok (.int (p.length : Nat)) := e0
    have hpq := par_eq _ _ _ _ e
    rw [List.nil_append] at hpq
    obtain ⟨lp, lq⟩ := par_len _ _ _ _ e
    have hm := par_mem _ _ _ _ e
    have Lp : Low p := fun c m => hL c ((hm.1 c m).resolve_left (fun z => by cases z))
    have Lq : Low q := fun c m => hL c (hm.2 c m)
    have etake : l.take p.length = p := by rw [hpq, List.take_left]
    have edrop : l.drop (p.length + 1) = q := by
      rw [hpq, ← List.drop_drop, List.drop_left]
      rfl
    rw [List.length_nil] at lp
    have hp1 : p.length ≤ 1000000 := by omega
    have es2 : slc (rd 0) pNo (pIs (rd 1)) [some (.str (Cs l)), some (.int (p.length : Nat)), none, none, none, none] = .ok (.str (Cs p)) := slc_ok rfl rfl (pIs_ok rfl) (by rw [sl_to hl, etake])
    have ec : binS (rd 2) (kc (.str ("/" : PySem.Str))) dFind [some (.str (Cs l)), some (.int (p.length : Nat)), some (.str (Cs p)), some (.int 1), none, none] = .ok (.int (match TL.par [47] [] p with | some (p, _) => (p.length : Int) | none => -1)) := by rw [litSl]; exact binS_ok rfl rfl (find_ok (by simp))
    have hq := law_number_ok Lq (by omega)
    refine run_rt ?_
    show gSeq _ _ [some (.str (Cs l)), none, none, none, none, none] = _
    refine (gSeq_nx (gSet_ok e0)).trans ((gSeq_nx (gIf_s (asB_ok (bin_ok rfl rfl (lt_f (by omega)))))).trans ?_)
    refine (gSeq_nx (gSet_ok es2)).trans ((gSeq_nx (gSet_ok rfl)).trans ((gSeq_nx (gSet_ok ec)).trans ?_))
    -- the end, from the upper and lower numbers
    have fin : ∀ (n : Option Nat) (u : List Nat) (d : Nat) (x4 : Option D), Low u → u.length ≤ 1000 → numOf u = n → 1 ≤ d →
        (gSeq (gSet 5 (mkTup (aCons (callD 1 m_law_number_of (aCons (slc (rd 0) (pIs (bin (rd 1) (kc (.int 1)) dAdd)) pNo) aNil)) (aCons (callD 1 m_law_number_of (aCons (rd 2) aNil)) aNil)))) (gSeq (gIf (orT (asB (bin (bin (rd 5) (kc (.int 0)) dIx) (kc .none) dIs)) (orT (asB (bin (bin (rd 5) (kc (.int 1)) dIx) (kc .none) dIs)) (orT (asB (bin (bin (rd 5) (kc (.int 1)) dIx) (kc (.int 0)) dEq)) (asB (bin (callD 2 m_law_divisor (aCons (bin (rd 5) (kc (.int 1)) dIx) (aCons (rd 3) aNil))) (kc (.int 1)) dNe))))) (gRet (kc .none)) gSkip) (gRet (mkTup (aCons (bin (rd 5) (kc (.int 0)) dIx) (aCons (mkTup (aCons (bin (rd 5) (kc (.int 1)) dIx) (aCons (rd 3) aNil))) aNil)))))) [some (.str (Cs l)), some (.int (p.length : Nat)), some (.str (Cs u)), some (.int (d : Nat)), x4, none]
          = .rt (noneOr prN (((numOf q).bind fun r => n.map fun n => (r, n, d)).bind fun x => if okP x = true then some x else none)) := fun n u d x4 Lu lu en hd => by
      have hu := law_number_ok Lu lu
      have e5 : mkTup (aCons (callD 1 m_law_number_of (aCons (slc (rd 0) (pIs (bin (rd 1) (kc (.int 1)) dAdd)) pNo) aNil)) (aCons (callD 1 m_law_number_of (aCons (rd 2) aNil)) aNil)) [some (.str (Cs l)), some (.int (p.length : Nat)), some (.str (Cs u)), some (.int (d : Nat)), x4, none] = .ok (.tuple [noneOr (fun n : Nat => .int n) (numOf q), noneOr (fun n : Nat => .int n) n]) := by
        refine mkTup_ok (aCons_ok ((call1 (slc_ok rfl (pIs_ok (bin_ok rfl rfl (add_ii _ _))) rfl ?_)).trans hq) (aCons_ok ((call1 rfl).trans (by rw [← en]; exact hu)) rfl)) rfl
        have : ((p.length : Nat) : Int) + 1 = ((p.length + 1 : Nat) : Int) := by omega
        rw [this, sl_from hl, edrop]
      refine (gSeq_nx (gSet_ok e5)).trans ?_
      cases eq : numOf q with
      | none => exact gSeq_rt ((gIf_t (orT_t (asB_ok (bin_ok (bin_ok rfl rfl (ix_t0 _ _)) rfl (c := .bool true) rfl)))).trans rfl)
      | some r =>
        have z0 : ∀ b : D, asB (bin (bin (rd 5) (kc (.int 0)) dIx) (kc .none) dIs) [some (.str (Cs l)), some (.int (p.length : Nat)), some (.str (Cs u)), some (.int (d : Nat)), x4, some (.tuple [.int r, b])] = .ok false := fun b => asB_ok (bin_ok (bin_ok rfl rfl (ix_t0 _ _)) rfl (c := .bool false) rfl)
        cases n with
        | none => exact gSeq_rt ((gIf_t (orT_f (z0 _) (orT_t (asB_ok (bin_ok (bin_ok rfl rfl (ix_t1 _ _)) rfl (c := .bool true) rfl))))).trans rfl)
        | some n =>
          have z1 : asB (bin (bin (rd 5) (kc (.int 1)) dIx) (kc .none) dIs) [some (.str (Cs l)), some (.int (p.length : Nat)), some (.str (Cs u)), some (.int (d : Nat)), x4, some (.tuple [.int r, .int n])] = .ok false := asB_ok (bin_ok (bin_ok rfl rfl (ix_t1 _ _)) rfl (c := .bool false) rfl)
          have z2 : asB (bin (bin (rd 5) (kc (.int 1)) dIx) (kc (.int 0)) dEq) [some (.str (Cs l)), some (.int (p.length : Nat)), some (.str (Cs u)), some (.int (d : Nat)), x4, some (.tuple [.int r, .int n])] = .ok (decide (n = 0)) := asB_ok (bin_ok (bin_ok rfl rfl (ix_t1 _ _)) rfl (by
            rw [eq_ii]
            congr 2
            rw [Bool.eq_iff_iff, beq_iff_eq, decide_eq_true_iff]
            omega))
          have z3 : asB (bin (callD 2 m_law_divisor (aCons (bin (rd 5) (kc (.int 1)) dIx) (aCons (rd 3) aNil))) (kc (.int 1)) dNe) [some (.str (Cs l)), some (.int (p.length : Nat)), some (.str (Cs u)), some (.int (d : Nat)), x4, some (.tuple [.int r, .int n])] = .ok (!decide (Nat.gcd n d = 1)) := asB_ok (bin_ok ((call2 (bin_ok rfl rfl (ix_t1 _ _)) rfl).trans (law_divisor_ok _ _)) rfl (by
            rw [ne_int]
            congr 2
            rw [Bool.not_inj_iff, Bool.eq_iff_iff, beq_iff_eq, decide_eq_true_iff]
            show ((Nat.gcd n d : Nat) : Int) = 1 ↔ _
            omega))
          show _ = Out.rt (noneOr prN (if okP (r, n, d) = true then some (r, n, d) else none))
          unfold okP
          by_cases hn : n = 0
          · rw [if_neg (by simp [hn])]
            rw [decide_eq_true hn] at z2
            exact gSeq_rt ((gIf_t (orT_f (z0 _) (orT_f z1 (orT_t z2)))).trans rfl)
          · rw [decide_eq_false hn] at z2
            by_cases hg : Nat.gcd n d = 1
            · rw [if_pos (by simp [hn, hg])]
              rw [decide_eq_true hg] at z3
              exact (gSeq_nx (gIf_s (orT_f (z0 _) (orT_f z1 (orT_f z2 z3))))).trans (gRet_ok (mkTup_ok (aCons_ok (bin_ok rfl rfl (ix_t0 _ _)) (aCons_ok (mkTup_ok (aCons_ok (bin_ok rfl rfl (ix_t1 _ _)) (aCons_ok rfl rfl)) rfl) rfl)) rfl))
            · rw [if_neg (by simp [hn, hg])]
              rw [decide_eq_false hg] at z3
              exact gSeq_rt ((gIf_t (orT_f (z0 _) (orT_f z1 (orT_f z2 z3)))).trans rfl)
    show _ = Out.rt (noneOr prN (((numOf q).bind fun r => (shareOf p).map fun s => (r, s)).bind fun x => if okP x = true then some x else none))
    unfold shareOf
    cases e2 : TL.par [47] [] p with
    | none =>
      have f1 := fin (numOf p) p 1 (some (.int (-1))) Lp (by omega) rfl (Nat.le_refl _)
      have ge : asB (bin (rd 4) (kc (.int 0)) dGe) [some (.str (Cs l)), some (.int (p.length : Nat)), some (.str (Cs p)), some (.int 1), some (.int (-1)), none] = .ok false := asB_ok (bin_ok rfl rfl (by rw [ge_ii]; rfl))
      refine (gSeq_nx (gIf_s ge)).trans (f1.trans ?_)
      cases numOf p <;> rfl
    | some uv =>
      obtain ⟨u, v⟩ := uv
      rw [e2] at ec
      have ec : binS (rd 2) (kc (.str ("/" : PySem.Str))) dFind [some (.str (Cs l)), some (.int (p.length : Nat)), some (.str (Cs p)), some (.int 1), none, none] = .ok (.int (u.length : Nat)) := ec
      show _ = Out.rt (noneOr prN (((numOf q).bind fun r => ((numOf v).bind fun d => if d < 2 then none else (numOf u).map fun n => (n, d)).map fun s => (r, s)).bind fun x => if okP x = true then some x else none))
      have huv := par_eq _ _ _ _ e2
      rw [List.nil_append] at huv
      obtain ⟨lu, lv⟩ := par_len _ _ _ _ e2
      rw [List.length_nil] at lu
      have hm2 := par_mem _ _ _ _ e2
      have Lu : Low u := fun c m => Lp c ((hm2.1 c m).resolve_left (fun z => by cases z))
      have Lv : Low v := fun c m => Lp c (hm2.2 c m)
      have etake : p.take u.length = u := by rw [huv, List.take_left]
      have edrop : p.drop (u.length + 1) = v := by
        rw [huv, ← List.drop_drop, List.drop_left]
        rfl
      have hv := law_number_ok Lv (by omega)
      have ge : asB (bin (rd 4) (kc (.int 0)) dGe) [some (.str (Cs l)), some (.int (p.length : Nat)), some (.str (Cs p)), some (.int 1), some (.int (u.length : Nat)), none] = .ok true := asB_ok (bin_ok rfl rfl (by rw [ge_ii, decide_eq_true (by omega)]))
      have s1 : gSet 3 (callD 1 m_law_number_of (aCons (slc (rd 2) (pIs (bin (rd 4) (kc (.int 1)) dAdd)) pNo) aNil)) [some (.str (Cs l)), some (.int (p.length : Nat)), some (.str (Cs p)), some (.int 1), some (.int (u.length : Nat)), none] = .nx [some (.str (Cs l)), some (.int (p.length : Nat)), some (.str (Cs p)), some (noneOr (fun n : Nat => .int n) (numOf v)), some (.int (u.length : Nat)), none] := by
        refine gSet_ok ((call1 (slc_ok rfl (pIs_ok (bin_ok rfl rfl (add_ii _ _))) rfl ?_)).trans hv)
        have : ((u.length : Nat) : Int) + 1 = ((u.length + 1 : Nat) : Int) := by omega
        rw [this, sl_from hp1, edrop]
      have s2 : ∀ x3 : D, gSet 2 (slc (rd 2) pNo (pIs (rd 4))) [some (.str (Cs l)), some (.int (p.length : Nat)), some (.str (Cs p)), some x3, some (.int (u.length : Nat)), none] = .nx [some (.str (Cs l)), some (.int (p.length : Nat)), some (.str (Cs u)), some x3, some (.int (u.length : Nat)), none] := fun x3 => gSet_ok (slc_ok rfl rfl (pIs_ok rfl) (by rw [sl_to hp1, etake]))
      cases ev : numOf v with
      | none =>
        rw [ev] at s1
        have r1 : noneOr prN (((numOf q).bind fun r => (((none : Option Nat).bind fun d => if d < 2 then none else (numOf u).map fun n => (n, d))).map fun s => (r, s)).bind fun x => if okP x = true then some x else none) = .none := by cases numOf q <;> rfl
        refine Eq.trans ?_ (congrArg Out.rt r1.symm)
        refine gSeq_rt ((gIf_t ge).trans ((gSeq_nx s1).trans ((gSeq_nx (s2 _)).trans ((gIf_t (orT_t (asB_ok (bin_ok rfl rfl (c := .bool true) rfl)))).trans rfl))))
      | some d =>
        rw [ev] at s1
        have i1 : asB (bin (rd 3) (kc .none) dIs) [some (.str (Cs l)), some (.int (p.length : Nat)), some (.str (Cs u)), some (.int (d : Nat)), some (.int (u.length : Nat)), none] = .ok false := asB_ok (bin_ok rfl rfl (c := .bool false) rfl)
        by_cases h2 : d < 2
        · have r1 : noneOr prN (((numOf q).bind fun r => (((some d).bind fun d => if d < 2 then none else (numOf u).map fun n => (n, d))).map fun s => (r, s)).bind fun x => if okP x = true then some x else none) = .none := by
            have : ((some d).bind fun d => if d < 2 then none else (numOf u).map fun n => (n, d)) = none := if_pos h2
            rw [this]
            cases numOf q <;> rfl
          refine Eq.trans ?_ (congrArg Out.rt r1.symm)
          exact gSeq_rt ((gIf_t ge).trans ((gSeq_nx s1).trans ((gSeq_nx (s2 _)).trans ((gIf_t (orT_f i1 (asB_ok (bin_ok rfl rfl (lt_t (by omega)))))).trans rfl))))
        · have r1 : ((some d).bind fun d => if d < 2 then none else (numOf u).map fun n => (n, d)) = (numOf u).map fun n => (n, d) := if_neg h2
          rw [r1]
          have f1 := fin (numOf u) u d (some (.int (u.length : Nat))) Lu (by omega) rfl (by omega)
          refine (gSeq_nx ((gIf_t ge).trans ((gSeq_nx s1).trans ((gSeq_nx (s2 _)).trans (gIf_s (orT_f i1 (asB_ok (bin_ok rfl rfl (lt_f (by omega)))))))))).trans (f1.trans ?_)
          cases numOf u <;> rfl
end LW
end

section
set_option Elab.async false
set_option linter.all false
set_option maxRecDepth 100000
set_option maxHeartbeats 2000000
set_option autoImplicit false
/-! PKI: rooms numbered by what is like them; how numberings settle. -/
namespace LW
open PySem hiding run
open L2 hiding bin
open DL
/-- the share of a spread that goes to a kind -/
def mass (s : Spread) (k : Nat → Nat) (c : Nat) : Rat := (s.map fun p => if k p.1 = c then p.2 else 0).sum
theorem mass_nil (k : Nat → Nat) (c : Nat) : mass [] k c = 0 := rfl
theorem mass_snoc (s : Spread) (p : Nat × Rat) (k : Nat → Nat) (c : Nat) : mass (s ++ [p]) k c = mass s k c + if k p.1 = c then p.2 else 0 := by
  unfold mass
  rw [List.map_append, List.sum_append, List.map_cons, List.map_nil, List.sum_cons, List.sum_nil, Rat.add_zero]
theorem mass_out {s : Spread} {k : Nat → Nat} {c : Nat} (h : ∀ p, p ∈ s → k p.1 ≠ c) : mass s k c = 0 := by
  unfold mass
  induction s with
  | nil => rfl
  | cons p s ih =>
    rw [List.map_cons, List.sum_cons, if_neg (h p List.mem_cons_self), ih fun q m => h q (List.mem_cons_of_mem _ m), Rat.add_zero]
theorem mass_ker {n : Nat} {s : Spread} {k k' : Nat → Nat} (hs : ∀ p, p ∈ s → p.1 < n) (hk : ∀ a b, a < n → b < n → (k a = k b ↔ k' a = k' b)) {b : Nat} (hb : b < n) : mass s k (k b) = mass s k' (k' b) := by
  unfold mass
  congr 1
  apply List.map_congr_left
  intro p hp
  by_cases c : k p.1 = k b
  · rw [if_pos c, if_pos ((hk _ _ (hs p hp) hb).mp c)]
  · rw [if_neg c, if_neg fun z => c ((hk _ _ (hs p hp) hb).mpr z)]
/-- like rooms, the kinds being k -/
def Lk (w : Walk) (k : Nat → Nat) (s r : Nat) : Prop := k s = k r ∧ ∀ c, mass (w.getD s []) k c = mass (w.getD r []) k c
theorem Lk_ker {n : Nat} {w : Walk} {k k' : Nat → Nat} (hw : ∀ r, r < n → ∀ p, p ∈ w.getD r [] → p.1 < n) (hk : ∀ a b, a < n → b < n → (k a = k b ↔ k' a = k' b)) {s r : Nat} (hs : s < n) (hr : r < n) (h : Lk w k s r) : Lk w k' s r := by
  refine ⟨(hk s r hs hr).mp h.1, fun c => ?_⟩
  by_cases hc : ∃ b, b < n ∧ k' b = c
  · obtain ⟨b, hb, rfl⟩ := hc
    rw [← mass_ker (hw s hs) hk hb, ← mass_ker (hw r hr) hk hb]
    exact h.2 (k b)
  · rw [mass_out fun p hp z => hc ⟨p.1, hw s hs p hp, z⟩, mass_out fun p hp z => hc ⟨p.1, hw r hr p hp, z⟩]
open Classical in
noncomputable def leastOf (n : Nat) (P : Nat → Prop) : Nat := (List.range n).findIdx fun s => decide (P s)
theorem leastOf_spec {n r : Nat} {P : Nat → Prop} (hr : r < n) (h : P r) : leastOf n P ≤ r ∧ P (leastOf n P) ∧ ∀ s, s < leastOf n P → ¬ P s := by
  unfold leastOf
  have hl : (List.range n).findIdx (fun s => @decide (P s) (Classical.propDecidable _)) < (List.range n).length := List.findIdx_lt_length_of_exists ⟨r, List.mem_range.mpr hr, @decide_eq_true _ (Classical.propDecidable _) h⟩
  have hg := List.findIdx_getElem (w := hl)
  have hne : ∀ s, s < (List.range n).findIdx (fun s => @decide (P s) (Classical.propDecidable _)) → ¬ P s := fun s hs z => by
    have := List.not_of_lt_findIdx hs
    rw [List.getElem_range] at this
    rw [@decide_eq_true _ (Classical.propDecidable _) z] at this
    cases this
  refine ⟨?_, ?_, hne⟩
  · refine Nat.le_of_not_lt fun z => ?_
    exact hne r z h
  · rw [List.getElem_range] at hg
    exact @of_decide_eq_true _ (Classical.propDecidable _) hg
theorem findIdx_cong {α : Type} {p q : α → Bool} : ∀ {l : List α}, (∀ a, a ∈ l → p a = q a) → l.findIdx p = l.findIdx q
  | [], _ => rfl
  | a :: l, h => by
    rw [List.findIdx_cons, List.findIdx_cons, h a List.mem_cons_self, findIdx_cong (l := l) fun x m => h x (List.mem_cons_of_mem _ m)]
theorem leastOf_congr {n : Nat} {P Q : Nat → Prop} (h : ∀ s, s < n → (P s ↔ Q s)) : leastOf n P = leastOf n Q := by
  unfold leastOf
  apply findIdx_cong
  intro s hs
  have := h s (List.mem_range.mp hs)
  by_cases c : P s
  · rw [@decide_eq_true _ (Classical.propDecidable _) c, @decide_eq_true _ (Classical.propDecidable _) (this.mp c)]
  · rw [@decide_eq_false _ (Classical.propDecidable _) c, @decide_eq_false _ (Classical.propDecidable _) fun z => c (this.mpr z)]
/-- one turn: for each room the least one like it -/
noncomputable def nextK (w : Walk) (n : Nat) (K : List Nat) : List Nat := (List.range n).map fun r => leastOf n fun s => Lk w (fun a => K.getD a 0) s r
/-- for each room the least one with the same mark -/
noncomputable def numK (n : Nat) (M : List Nat) : List Nat := (List.range n).map fun r => leastOf n fun s => M.getD s 0 = M.getD r 0
theorem getD_range {n r : Nat} {f : Nat → Nat} (h : r < n) : ((List.range n).map f).getD r 0 = f r := by
  rw [List.getD_eq_getElem?_getD, List.getElem?_map, List.getElem?_range h]
  rfl
theorem nextK_at {w : Walk} {n r : Nat} {K : List Nat} (h : r < n) : (nextK w n K).getD r 0 = leastOf n fun s => Lk w (fun a => K.getD a 0) s r := getD_range h
theorem nextK_spec {w : Walk} {n r : Nat} (K : List Nat) (h : r < n) : (nextK w n K).getD r 0 ≤ r ∧ Lk w (fun a => K.getD a 0) ((nextK w n K).getD r 0) r ∧ ∀ s, s < (nextK w n K).getD r 0 → ¬ Lk w (fun a => K.getD a 0) s r := by
  rw [nextK_at h]
  exact leastOf_spec h ⟨rfl, fun _ => rfl⟩
theorem numK_spec {n r : Nat} (M : List Nat) (h : r < n) : (numK n M).getD r 0 ≤ r ∧ M.getD ((numK n M).getD r 0) 0 = M.getD r 0 ∧ ∀ s, s < (numK n M).getD r 0 → ¬ M.getD s 0 = M.getD r 0 := by
  unfold numK
  rw [getD_range h]
  exact leastOf_spec (P := fun s => M.getD s 0 = M.getD r 0) h rfl
theorem Lk.symm {w : Walk} {k : Nat → Nat} {s r : Nat} (h : Lk w k s r) : Lk w k r s := ⟨h.1.symm, fun c => (h.2 c).symm⟩
theorem Lk.trans {w : Walk} {k : Nat → Nat} {s r t : Nat} (h : Lk w k s r) (h2 : Lk w k r t) : Lk w k s t := ⟨h.1.trans h2.1, fun c => (h.2 c).trans (h2.2 c)⟩
/-- a numbering: each kind by its least room -/
structure Num (n : Nat) (K : List Nat) : Prop where
  len : K.length = n
  le : ∀ r, r < n → K.getD r 0 ≤ r
  fix : ∀ r, r < n → K.getD (K.getD r 0) 0 = K.getD r 0
theorem nextK_num (w : Walk) (n : Nat) (K : List Nat) : Num n (nextK w n K) := by
  refine ⟨by unfold nextK; rw [List.length_map, List.length_range], fun r h => (nextK_spec K h).1, fun r h => ?_⟩
  obtain ⟨h1, h2, h3⟩ := nextK_spec (w := w) K h
  have hs : (nextK w n K).getD r 0 < n := Nat.lt_of_le_of_lt h1 h
  obtain ⟨g1, g2, g3⟩ := nextK_spec (w := w) K hs
  refine Nat.le_antisymm g1 (Nat.le_of_not_lt fun z => ?_)
  exact h3 _ z (g2.trans h2)
theorem numK_num (n : Nat) (M : List Nat) : Num n (numK n M) := by
  refine ⟨by unfold numK; rw [List.length_map, List.length_range], fun r h => (numK_spec M h).1, fun r h => ?_⟩
  obtain ⟨h1, h2, h3⟩ := numK_spec M h
  have hs : (numK n M).getD r 0 < n := Nat.lt_of_le_of_lt h1 h
  obtain ⟨g1, g2, g3⟩ := numK_spec M hs
  refine Nat.le_antisymm g1 (Nat.le_of_not_lt fun z => ?_)
  exact h3 _ z (g2.trans h2)
theorem numK_ker {n : Nat} (M : List Nat) {a b : Nat} (ha : a < n) (hb : b < n) : (numK n M).getD a 0 = (numK n M).getD b 0 ↔ M.getD a 0 = M.getD b 0 := by
  obtain ⟨a1, a2, a3⟩ := numK_spec M ha
  obtain ⟨b1, b2, b3⟩ := numK_spec M hb
  constructor
  · intro h
    rw [← a2, h, b2]
  · intro h
    refine Nat.le_antisymm (Nat.le_of_not_lt fun z => ?_) (Nat.le_of_not_lt fun z => ?_)
    · exact a3 _ z (by rw [b2, h])
    · exact b3 _ z (by rw [a2, h])
theorem nextK_ker {n : Nat} {w : Walk} (hw : ∀ r, r < n → ∀ p, p ∈ w.getD r [] → p.1 < n) {K K' : List Nat} (hk : ∀ a b, a < n → b < n → (K.getD a 0 = K.getD b 0 ↔ K'.getD a 0 = K'.getD b 0)) : nextK w n K = nextK w n K' := by
  unfold nextK
  apply List.map_congr_left
  intro r hr
  have hr := List.mem_range.mp hr
  exact leastOf_congr fun s hs => ⟨Lk_ker hw hk hs hr, Lk_ker hw (fun a b ha hb => (hk a b ha hb).symm) hs hr⟩
/-- how many kinds -/
def fixC (n : Nat) (K : List Nat) : Nat := ((List.range n).filter fun r => decide (K.getD r 0 = r)).length
theorem fixC_le (n : Nat) (K : List Nat) : fixC n K ≤ n := by
  have := List.length_filter_le (fun r => decide (K.getD r 0 = r)) (List.range n)
  rw [List.length_range] at this
  exact this
theorem count_lt {P Q : Nat → Bool} : ∀ {l : List Nat}, (∀ r, r ∈ l → P r = true → Q r = true) → ((l.filter P).length ≤ (l.filter Q).length) ∧ ((∃ r, r ∈ l ∧ Q r = true ∧ P r = false) → (l.filter P).length < (l.filter Q).length)
  | [], _ => ⟨Nat.le_refl _, fun ⟨r, h, _⟩ => by cases h⟩
  | a :: l, h => by
    obtain ⟨i1, i2⟩ := count_lt (P := P) (Q := Q) (l := l) fun r m => h r (List.mem_cons_of_mem _ m)
    cases hp : P a with
    | true =>
      have hq := h a List.mem_cons_self hp
      rw [List.filter_cons_of_pos hp, List.filter_cons_of_pos hq, List.length_cons, List.length_cons]
      refine ⟨by omega, fun ⟨r, m, c1, c2⟩ => ?_⟩
      rcases List.mem_cons.mp m with rfl | m
      · rw [hp] at c2; cases c2
      · have := i2 ⟨r, m, c1, c2⟩; omega
    | false =>
      rw [List.filter_cons_of_neg (by rw [hp]; decide)]
      cases hq : Q a with
      | true =>
        rw [List.filter_cons_of_pos hq, List.length_cons]
        exact ⟨by omega, fun _ => by omega⟩
      | false =>
        rw [List.filter_cons_of_neg (by rw [hq]; decide)]
        refine ⟨i1, fun ⟨r, m, c1, c2⟩ => ?_⟩
        rcases List.mem_cons.mp m with rfl | m
        · rw [hq] at c1; cases c1
        · exact i2 ⟨r, m, c1, c2⟩
theorem list_ext {n : Nat} {K K' : List Nat} (h1 : K.length = n) (h2 : K'.length = n) (h : ∀ r, r < n → K.getD r 0 = K'.getD r 0) : K = K' := by
  apply List.ext_getElem (h1.trans h2.symm)
  intro i a b
  have := h i (by omega)
  rw [List.getD_eq_getElem?_getD, List.getD_eq_getElem?_getD, List.getElem?_eq_getElem a, List.getElem?_eq_getElem b] at this
  exact this
theorem step_grows {n : Nat} {w : Walk} {K : List Nat} (hK : Num n K) (hne : nextK w n K ≠ K) : fixC n K < fixC n (nextK w n K) := by
  have hS := nextK_num w n K
  unfold fixC
  refine (count_lt (l := List.range n) fun r hr hf => ?_).2 (Classical.byContradiction fun z => ?_)
  · have hr := List.mem_range.mp hr
    have hf := of_decide_eq_true hf
    obtain ⟨h1, h2, _⟩ := nextK_spec (w := w) K hr
    have h4 : K.getD ((nextK w n K).getD r 0) 0 = K.getD r 0 := h2.1
    have h5 := hK.le _ (Nat.lt_of_le_of_lt h1 hr)
    rw [h4, hf] at h5
    exact decide_eq_true (Nat.le_antisymm h1 h5)
  · -- no new kinds: nothing has changed
    refine hne (list_ext hS.len hK.len fun r hr => ?_)
    obtain ⟨h1, h2, _⟩ := nextK_spec (w := w) K hr
    have hs : (nextK w n K).getD r 0 < n := Nat.lt_of_le_of_lt h1 hr
    have h3 := hS.fix r hr
    have h4 : K.getD ((nextK w n K).getD r 0) 0 = (nextK w n K).getD r 0 := Classical.byContradiction fun y => z ⟨_, List.mem_range.mpr hs, decide_eq_true h3, decide_eq_false y⟩
    have h5 : K.getD ((nextK w n K).getD r 0) 0 = K.getD r 0 := h2.1
    rw [h4] at h5
    exact h5
/-- the turns -/
noncomputable def turnK (w : Walk) (n : Nat) (K : List Nat) : Nat → List Nat
  | 0 => K
  | t + 1 => nextK w n (turnK w n K t)
theorem turnK_num {w : Walk} {n : Nat} {M : List Nat} (t : Nat) : Num n (turnK w n (numK n M) t) := by
  cases t with
  | zero => exact numK_num n M
  | succ t => exact nextK_num _ _ _
theorem turnK_law {w : Walk} {n : Nat} (hw : ∀ r, r < n → ∀ p, p ∈ w.getD r [] → p.1 < n) (M : List Nat) : ∀ t, turnK w n M (t + 1) = turnK w n (numK n M) (t + 1)
  | 0 => (nextK_ker hw fun a b ha hb => numK_ker M ha hb).symm
  | t + 1 => by
    show nextK w n (turnK w n M (t + 1)) = nextK w n (turnK w n (numK n M) (t + 1))
    rw [turnK_law hw M t]
theorem fix_pos {n : Nat} {K : List Nat} (hK : Num n K) (h : 1 ≤ n) : 1 ≤ fixC n K := by
  have h0 := hK.le 0 (by omega)
  have : 0 ∈ (List.range n).filter fun r => decide (K.getD r 0 = r) := List.mem_filter.mpr ⟨List.mem_range.mpr (by omega), decide_eq_true (by omega)⟩
  unfold fixC
  exact List.length_pos_of_mem this
/-- settled: all turns from there on are the same -/
theorem turnK_stay {w : Walk} {n : Nat} {K : List Nat} {t : Nat} (h : turnK w n K (t + 1) = turnK w n K t) : ∀ j, turnK w n K (t + j) = turnK w n K t
  | 0 => rfl
  | j + 1 => by
    show nextK w n (turnK w n K (t + j)) = _
    rw [turnK_stay h j]
    exact h
theorem settled {w : Walk} {n : Nat} {M : List Nat} (hw : ∀ r, r < n → ∀ p, p ∈ w.getD r [] → p.1 < n) (hn : 1 ≤ n) {t : Nat} (h : turnK w n (numK n M) (t + 1) = turnK w n (numK n M) t) (hc : t + 1 ≤ fixC n (turnK w n (numK n M) t)) :
    turnK w n M n = turnK w n (numK n M) (t + 1) := by
  have h1 := fixC_le n (turnK w n (numK n M) t)
  obtain ⟨m, rfl⟩ : ∃ m, n = m + 1 := ⟨n - 1, by omega⟩
  rw [turnK_law hw, h]
  have := turnK_stay h (m + 1 - t)
  rw [show t + (m + 1 - t) = m + 1 by omega] at this
  exact this
end LW
end

section
set_option Elab.async false
set_option linter.all false
set_option maxRecDepth 100000
set_option maxHeartbeats 2000000
set_option exponentiation.threshold 100000
set_option autoImplicit false
/-! PLK: numbered, shares_to, likeness. -/
namespace LW
open PySem hiding run
open L2 hiding bin
open DL
/-- a spread, of up to six rooms -/
structure GSp (n : Nat) (s : Spread) : Prop where
  mem : ∀ p, p ∈ s → p.1 < n ∧ 0 < p.2 ∧ Dn 55440 p.2
  sum : (s.map (·.2)).sum = 1
  few : s.length ≤ 6
structure GWk (w : Walk) : Prop where
  lo : 1 ≤ w.length
  hi : w.length ≤ 8
  sp : ∀ s, s ∈ w → GSp w.length s
theorem sub_sum {l m : List Rat} (h : l.Sublist m) (hm : ∀ q, q ∈ m → 0 ≤ q) : 0 ≤ l.sum ∧ l.sum ≤ m.sum := by
  induction h with
  | slnil => exact ⟨Rat.le_refl, Rat.le_refl⟩
  | cons a h ih =>
    obtain ⟨i1, i2⟩ := ih fun q z => hm q (List.mem_cons_of_mem _ z)
    have := hm a List.mem_cons_self
    rw [List.sum_cons]
    exact ⟨i1, by grind⟩
  | cons_cons a h ih =>
    obtain ⟨i1, i2⟩ := ih fun q z => hm q (List.mem_cons_of_mem _ z)
    have := hm a List.mem_cons_self
    rw [List.sum_cons, List.sum_cons]
    exact ⟨by grind, by grind⟩
theorem sum_dn {N : Nat} : ∀ {l : List Rat}, (∀ q, q ∈ l → Dn N q) → Dn N l.sum
  | [], _ => Dn.zero N
  | q :: l, h => by
    rw [List.sum_cons]
    exact (h q List.mem_cons_self).add (sum_dn fun x m => h x (List.mem_cons_of_mem _ m))
theorem GSp.sub {n : Nat} {s : Spread} (g : GSp n s) {l : List Rat} (h : l.Sublist (s.map (·.2))) : 0 ≤ l.sum ∧ l.sum ≤ 1 ∧ Dn 55440 l.sum ∧ Sz 16 l.sum := by
  have hm : ∀ q, q ∈ s.map (·.2) → 0 ≤ q ∧ Dn 55440 q := fun q hq => by
    obtain ⟨p, hp, rfl⟩ := List.mem_map.mp hq
    obtain ⟨_, h1, h2⟩ := g.mem p hp
    exact ⟨by grind, h2⟩
  obtain ⟨h1, h2⟩ := sub_sum h fun q hq => (hm q hq).1
  rw [g.sum] at h2
  have h3 : Dn 55440 l.sum := sum_dn fun q hq => (hm q (h.subset hq)).2
  exact ⟨h1, h2, h3, sz_unit (by decide) (by decide) h3 h1 h2⟩
theorem GSp.one {n : Nat} {s : Spread} (g : GSp n s) {p : Nat × Rat} (h : p ∈ s) : Sz 16 p.2 := by
  have := (g.sub (l := [p.2]) (List.singleton_sublist.mpr (List.mem_map.mpr ⟨p, h, rfl⟩))).2.2.2
  rw [List.sum_cons, List.sum_nil, Rat.add_zero] at this
  exact this
theorem mass_filter (s : Spread) (k : Nat → Nat) (c : Nat) : mass s k c = ((s.filter fun p => decide (k p.1 = c)).map (·.2)).sum := by
  unfold mass
  induction s with
  | nil => rfl
  | cons p s ih =>
    rw [List.map_cons, List.sum_cons, ih]
    by_cases h : k p.1 = c
    · rw [if_pos h, List.filter_cons_of_pos (p := fun p : Nat × Rat => decide (k p.1 = c)) (decide_eq_true h), List.map_cons, List.sum_cons]
    · rw [if_neg h, List.filter_cons_of_neg (p := fun p : Nat × Rat => decide (k p.1 = c)) (by rw [decide_eq_true_iff]; exact h), Rat.zero_add]
theorem mass_sz {n : Nat} {s : Spread} (g : GSp n s) {pre : Spread} (hp : pre.Sublist s) (k : Nat → Nat) (c : Nat) : Sz 16 (mass pre k c) := by
  rw [mass_filter]
  exact (g.sub ((List.filter_sublist.trans hp).map _)).2.2.2
theorem mass_pos {n : Nat} {s : Spread} (g : GSp n s) {k : Nat → Nat} {p : Nat × Rat} (h : p ∈ s) : mass s k (k p.1) ≠ 0 := by
  rw [mass_filter]
  have hp : p.2 ∈ (s.filter fun q => decide (k q.1 = k p.1)).map (·.2) := List.mem_map.mpr ⟨p, List.mem_filter.mpr ⟨h, decide_eq_true rfl⟩, rfl⟩
  have h1 := sub_sum (l := [p.2]) (List.singleton_sublist.mpr hp) fun q hq => by
    obtain ⟨x, hx, rfl⟩ := List.mem_map.mp hq
    have := (g.mem x (List.mem_filter.mp hx).1).2.1
    grind
  have h2 := (g.mem p h).2.1
  rw [List.sum_cons, List.sum_nil, Rat.add_zero] at h1
  intro z
  rw [z] at h1
  grind
/-! ### numbered -/
theorem findIdx_least {α : Type} [DecidableEq α] {enc : α → D} (heq : ∀ a b, PyData.eqv (enc a) (enc b) = decide (a = b)) {n r : Nat} (f : Nat → α) (hr : r < n) : ((List.range n).map fun s => enc (f s)).findIdx? (fun z => PyData.eqv z (enc (f r))) = some (leastOf n fun s => f s = f r) := by
  rw [List.findIdx?_map, List.findIdx?_eq_some_iff_findIdx_eq]
  have e : leastOf n (fun s => f s = f r) = (List.range n).findIdx ((fun z => PyData.eqv z (enc (f r))) ∘ fun s => enc (f s)) := by
    unfold leastOf
    apply findIdx_cong
    intro s _
    show _ = PyData.eqv (enc (f s)) (enc (f r))
    rw [heq]
    by_cases h : f s = f r
    · rw [decide_eq_true h, @decide_eq_true _ (Classical.propDecidable _) h]
    · rw [decide_eq_false h, @decide_eq_false _ (Classical.propDecidable _) h]
  refine ⟨?_, e.symm⟩
  rw [List.length_range]
  exact Nat.lt_of_le_of_lt (leastOf_spec (P := fun s => f s = f r) hr rfl).1 hr
theorem numbered_ok {α : Type} [DecidableEq α] {enc : α → D} {m : Nat} (hm : m ≤ 62) (heq : ∀ a b, PyData.eqv (enc a) (enc b) = decide (a = b)) (sh : ∀ a, Sh m (enc a)) {n : Nat} (hn : n ≤ 8) (f : Nat → α) :
    m_numbered [.list ((List.range n).map fun s => enc (f s))] = .ok (intsD ((List.range n).map fun r => leastOf n fun s => f s = f r)) := by
  have hsl : SeqAt.shaped (.list ((List.range n).map fun s => enc (f s))) = true := by
    have h1 : Sh (m + 1) (.list ((List.range n).map fun s => enc (f s))) := sh_map (fun s => sh (f s)) _
    show (PyData.canLay0 _ && decide (PyData.depth _ ≤ 64)) = true
    rw [h1.1, decide_eq_true (by have := h1.2; omega)]
    rfl
  refine run_rt (gRet_ok ?_)
  have hc := comp_ok (vs := [1]) (tg := .nm 1) (fi := itS (rd 0)) (ft := yes) (fe := idx (rd 0) (rd 1)) (ρ := [some (.list ((List.range n).map fun s => enc (f s))), none]) (fun s => enc (f s)) (fun _ => true) (fun r => PyData.int ((leastOf n fun s => f s = f r : Nat) : Int)) (List.range n) (line_small (by rw [List.length_range]; omega))
    (itS_list rfl) fun r hr => ⟨[some (.list ((List.range n).map fun s => enc (f s))), some (enc (f r))], rfl, rfl, fun _ => by
      have hr := List.mem_range.mp hr
      have hsr : SeqAt.shaped (enc (f r)) = true := by
        have h1 := sh (f r)
        show (PyData.canLay0 _ && decide (PyData.depth _ ≤ 64)) = true
        rw [h1.1, decide_eq_true (by have := h1.2; omega)]
        rfl
      show ofO (dIndex (.list ((List.range n).map fun s => enc (f s))) (enc (f r))) = _
      have : dIndex (.list ((List.range n).map fun s => enc (f s))) (enc (f r)) = some (.int ((leastOf n fun s => f s = f r : Nat) : Int)) := by
        show (if SeqAt.shaped (enc (f r)) = true ∧ SeqAt.shaped (.list ((List.range n).map fun s => enc (f s))) = true then (((List.range n).map fun s => enc (f s)).findIdx? fun z => PyData.eqv z (enc (f r))).map (fun j => PyData.int (j : Nat)) else none) = _
        rw [if_pos ⟨hsr, hsl⟩, findIdx_least heq f hr]
        rfl
      rw [this]
      rfl⟩
  rw [filter_yes] at hc
  refine hc.trans ?_
  unfold intsD
  rw [List.map_map]
  rfl
/-! ### the shares to each kind -/
/-- the kinds, in order -/
def kindsN (K : List Nat) : List Nat := (setI (K.map fun k : Nat => (k : Int))).map Int.toNat
theorem kindsN_int (K : List Nat) : setI (K.map fun k : Nat => (k : Int)) = (kindsN K).map fun k : Nat => (k : Int) := by
  unfold kindsN
  rw [List.map_map]
  symm
  have : ∀ k, k ∈ setI (K.map fun k : Nat => (k : Int)) → ((fun k : Nat => (k : Int)) ∘ Int.toNat) k = k := fun k hk => by
    obtain ⟨j, _, rfl⟩ := List.mem_map.mp (mem_setI.mp hk)
    show ((Int.toNat (j : Int) : Nat) : Int) = j
    omega
  rw [List.map_congr_left this, List.map_id']
theorem mem_kindsN {K : List Nat} {c : Nat} : c ∈ kindsN K ↔ c ∈ K := by
  have h := mem_setI (k := (c : Int)) (l := K.map fun k : Nat => (k : Int))
  rw [kindsN_int] at h
  constructor
  · intro z
    obtain ⟨j, hj, e⟩ := List.mem_map.mp (h.mp (List.mem_map.mpr ⟨c, z, rfl⟩))
    have : j = c := by omega
    exact this ▸ hj
  · intro z
    obtain ⟨j, hj, e⟩ := List.mem_map.mp (h.mpr (List.mem_map.mpr ⟨c, z, rfl⟩))
    have : j = c := by omega
    exact this ▸ hj
theorem sortedSet_ints {K : List Nat} (h : K.length < 64) : dSortedSet (intsD K) = some (intsD (kindsN K)) := by
  show (allI (K.map fun k : Nat => PyData.int k)).bind _ = _
  have e : (K.map fun k : Nat => PyData.int k) = (K.map fun k : Nat => (k : Int)).map PyData.int := by rw [List.map_map]; rfl
  rw [e, allI_map]
  show (if (K.map fun k : Nat => (k : Int)).length < 64 then some (PyData.list ((setI (K.map fun k : Nat => (k : Int))).map .int)) else none) = _
  rw [if_pos (by rw [List.length_map]; exact h), kindsN_int, List.map_map]
  rfl
theorem eq_iff_int (a b : Nat) : dEq (.int (a : Nat)) (.int (b : Nat)) = some (.bool (decide (a = b))) := by
  show some (PyData.bool ((a : Int) == (b : Int))) = _
  congr 2
  by_cases h : a = b
  · subst h; simp
  · rw [decide_eq_false h]; exact beq_eq_false_iff_ne.mpr (by omega)
theorem shares_to_ok {n : Nat} {s : Spread} (g : GSp n s) {K : List Nat} (hK : K.length = n) (hn : n ≤ 8) : m_shares_to [spreadD s, intsD K] = .ok (vecD ((kindsN K).map (mass s fun a => K.getD a 0))) := by
  have few := g.few
  have one : ∀ c, callD 1 m_summed (aCons (comp [4, 5] (.tp [4, 5]) (itS (rd 0)) (asB (bin (bin (rd 1) (rd 4) dIx) (rd 3) dEq)) (rd 5)) aNil) = callD 1 m_summed (aCons (comp [4, 5] (.tp [4, 5]) (itS (rd 0)) (asB (bin (bin (rd 1) (rd 4) dIx) (rd 3) dEq)) (rd 5)) aNil) ∧ ∀ x : Option D, callD 1 m_summed (aCons (comp [4, 5] (.tp [4, 5]) (itS (rd 0)) (asB (bin (bin (rd 1) (rd 4) dIx) (rd 3) dEq)) (rd 5)) aNil) [some (spreadD s), some (intsD K), x, some (.int (c : Nat)), none, none] = .ok (fr (mass s (fun a => K.getD a 0) c)) := fun c => ⟨rfl, fun x => by
    have hc := comp_ok (vs := [4, 5]) (tg := .tp [4, 5]) (fi := itS (rd 0)) (ft := asB (bin (bin (rd 1) (rd 4) dIx) (rd 3) dEq)) (fe := rd 5) (ρ := [some (spreadD s), some (intsD K), x, some (.int (c : Nat)), none, none]) prD (fun p => decide (K.getD p.1 0 = c)) (fun p => fr p.2) s (line_small (by omega)) (itS_tuple rfl) fun p hp => ⟨[some (spreadD s), some (intsD K), x, some (.int (c : Nat)), some (.int p.1), some (fr p.2)], rfl, by
        have hp1 : p.1 < K.length := by rw [hK]; exact (g.mem p hp).1
        have hix : K[p.1]? = some (K.getD p.1 0) := by rw [List.getD_eq_getElem?_getD, List.getElem?_eq_getElem hp1]; rfl
        exact asB_ok (bin_ok (bin_ok rfl rfl (ix_ints hix)) rfl (eq_iff_int _ _)), fun _ => rfl⟩
    have e : PyData.list ((s.filter fun p => decide (K.getD p.1 0 = c)).map fun p => fr p.2) = vecD ((s.filter fun p => decide (K.getD p.1 0 = c)).map (·.2)) := by
      unfold vecD
      rw [List.map_map]
      rfl
    rw [e] at hc
    refine (call1 hc).trans ((summed_ok fun pre y post e => ?_).trans (by rw [mass_filter]))
    have hsub : ((s.filter fun p => decide (K.getD p.1 0 = c)).map (·.2)).Sublist (s.map (·.2)) := List.filter_sublist.map _
    rw [e] at hsub
    refine ⟨(g.sub ((List.sublist_append_left _ _).trans hsub)).2.2.2.mono (by omega), ?_⟩
    have := (g.sub (l := [y]) ((List.singleton_sublist.mpr (List.mem_append_right _ List.mem_cons_self)).trans hsub)).2.2.2
    rw [List.sum_cons, List.sum_nil, Rat.add_zero] at this
    exact this.mono (by omega)⟩
  have hkl : (kindsN K).length ≤ 1000 := by
    have hnd : (kindsN K).Nodup := by
      have h1 : ((kindsN K).map fun k : Nat => (k : Int)).Pairwise (· < ·) := by rw [← kindsN_int]; exact inc_setI _
      exact (List.pairwise_map.mp h1).imp fun h z => by omega
    have := hnd.length_le_of_subset (l₂ := K) fun a m => mem_kindsN.mp m
    omega
  refine run_rt ?_
  show gSeq _ _ [some (spreadD s), some (intsD K), none, none, none, none] = _
  refine (gSeq_nx (gSet_ok (d := .list []) rfl)).trans ?_
  obtain ⟨ρ1, e1, c3, h1⟩ := forL_pre (tg := .nm 3) (g := gApp 2 (callD 1 m_summed (aCons (comp [4, 5] (.tp [4, 5]) (itS (rd 0)) (asB (bin (bin (rd 1) (rd 4) dIx) (rd 3) dEq)) (rd 5)) aNil))) (fun k : Nat => PyData.int k)
    (fun pre ρ => ∃ c3, ρ = [some (spreadD s), some (intsD K), some (vecD (pre.map (mass s fun a => K.getD a 0))), c3, none, none]) (kindsN K) (fun pre c post ρ e hp => by
      obtain ⟨c3, rfl⟩ := hp
      refine ⟨[some (spreadD s), some (intsD K), some (vecD (pre.map (mass s fun a => K.getD a 0))), some (.int c), none, none], _, rfl, (gApp_ok ((one c).2 _) rfl ?_).trans ?_, some (.int c), rfl⟩
      · rw [List.length_map, List.length_map]
        have := congrArg List.length e
        rw [List.length_append] at this
        omega
      · show Out.nx [some (spreadD s), some (intsD K), some (.list ((pre.map (mass s fun a => K.getD a 0)).map fr ++ [fr (mass s (fun a => K.getD a 0) c)])), some (.int c), none, none] = _
        unfold vecD
        rw [List.map_append (f := mass s fun a => K.getD a 0), List.map_append (f := fr)]
        rfl)
    (ρ := [some (spreadD s), some (intsD K), some (vecD (([] : List Nat).map (mass s fun a => K.getD a 0))), none, none, none]) ⟨none, rfl⟩
  refine (gSeq_nx (gFor_nx (itS_list (un_ok rfl (sortedSet_ints (by omega)))) e1)).trans ?_
  subst h1
  exact gRet_ok rfl
end LW
end

section
set_option Elab.async false
set_option linter.all false
set_option maxRecDepth 100000
set_option maxHeartbeats 2000000
set_option exponentiation.threshold 100000
set_option autoImplicit false
/-! PTV: any text: the law's reading of the whole, and the program's word on what is read. -/
namespace LW
open PySem hiding run
open L2 hiding bin
open DL
abbrev Raw := Nat × Nat × Nat

/-! ### all, or none -/
def optAll {α β : Type} (f : α → Option β) : List α → Option (List β)
  | [] => some []
  | x :: l => (f x).bind fun b => (optAll f l).map (b :: ·)
theorem optAll_cons {α β : Type} (f : α → Option β) (x : α) (l : List α) : optAll f (x :: l) = (f x).bind fun b => (optAll f l).map (b :: ·) := rfl
theorem optAll_len {α β : Type} {f : α → Option β} : ∀ {l : List α} {bs : List β}, optAll f l = some bs → bs.length = l.length
  | [], bs, h => by cases h; rfl
  | x :: l, bs, h => by
    rw [optAll_cons] at h
    obtain ⟨b, _, h⟩ := Option.bind_eq_some_iff.mp h
    obtain ⟨cs, h2, rfl⟩ := Option.map_eq_some_iff.mp h
    rw [List.length_cons, List.length_cons, optAll_len h2]
theorem optAll_mem {α β : Type} {f : α → Option β} : ∀ {l : List α} {bs : List β}, optAll f l = some bs → ∀ b, b ∈ bs → ∃ x, x ∈ l ∧ f x = some b
  | [], bs, h, b, m => by cases h; cases m
  | x :: l, bs, h, b, m => by
    rw [optAll_cons] at h
    obtain ⟨c, hc, h⟩ := Option.bind_eq_some_iff.mp h
    obtain ⟨cs, h2, rfl⟩ := Option.map_eq_some_iff.mp h
    rcases List.mem_cons.mp m with rfl | m
    · exact ⟨x, List.mem_cons_self, hc⟩
    · obtain ⟨y, hy, e⟩ := optAll_mem h2 b m
      exact ⟨y, List.mem_cons_of_mem _ hy, e⟩
theorem optAll_guard {α β : Type} (f : α → Option β) (g : β → Bool) : ∀ l : List α, optAll (fun x => (f x).bind fun b => if g b = true then some b else none) l = (optAll f l).bind fun bs => if bs.all g = true then some bs else none
  | [] => rfl
  | x :: l => by
    rw [optAll_cons, optAll_cons, optAll_guard f g l]
    cases f x with
    | none => rfl
    | some b =>
      show (if g b = true then some b else none).bind _ = ((optAll f l).map (b :: ·)).bind _
      cases optAll f l with
      | none => cases g b <;> rfl
      | some bs =>
        show _ = if (b :: bs).all g = true then some (b :: bs) else none
        rw [List.all_cons]
        cases g b with
        | false => rfl
        | true =>
          rw [Bool.true_and]
          show Option.map (b :: ·) (if bs.all g = true then some bs else none) = _
          cases bs.all g <;> rfl
theorem optAll_congr {α β : Type} {f g : α → Option β} : ∀ {l : List α}, (∀ x, x ∈ l → f x = g x) → optAll f l = optAll g l
  | [], _ => rfl
  | x :: l, h => by rw [optAll_cons, optAll_cons, h x List.mem_cons_self, optAll_congr fun y m => h y (List.mem_cons_of_mem _ m)]
theorem optAll_take {α β : Type} {f : α → Option β} : ∀ {pre post : List β} {l : List α}, optAll f l = some (pre ++ post) → ∃ l1 l2, l = l1 ++ l2 ∧ optAll f l1 = some pre
  | [], post, l, h => ⟨[], l, rfl, rfl⟩
  | b :: pre, post, [], h => by cases h
  | b :: pre, post, x :: l, h => by
    rw [optAll_cons] at h
    obtain ⟨c, hc, h⟩ := Option.bind_eq_some_iff.mp h
    obtain ⟨cs, h, e⟩ := Option.map_eq_some_iff.mp h
    rw [List.cons_append] at e
    injection e with e1 e2
    subst e1 e2
    obtain ⟨l1, l2, e3, e4⟩ := optAll_take h
    exact ⟨x :: l1, l2, by rw [e3]; rfl, by rw [optAll_cons, hc, e4]; rfl⟩
theorem compX_toR {α β : Type} {tg : Tgt} {ft : Tx} {fe : Ex} {ρ : Rho} (enc : α → D) (f : α → Option β) (val : β → D) : ∀ (l : List α), (∀ x, x ∈ l → ∃ ρ', tg.put (enc x) ρ = some ρ' ∧ ft ρ' = .ok true ∧ fe ρ' = toR val (f x)) → compLX tg ft fe ρ (l.map enc) = toR (fun bs : List β => bs.map val) (optAll f l)
  | [], _ => rfl
  | x :: l, h => by
    obtain ⟨ρ', e1, e2, e3⟩ := h x List.mem_cons_self
    have ih := compX_toR enc f val l fun y m => h y (List.mem_cons_of_mem _ m)
    show (match tg.put (enc x) ρ with | none => (Res.bad : Res (List D)) | some ρ' => _) = _
    rw [e1]
    show ((ft ρ').calm.bind fun b => if b = true then (fe ρ').bind fun x => (compLX tg ft fe ρ (l.map enc)).bind fun xs => .ok (x :: xs) else compLX tg ft fe ρ (l.map enc)) = _
    rw [e2]
    show ((fe ρ').bind fun x => (compLX tg ft fe ρ (l.map enc)).bind fun xs => .ok (x :: xs)) = _
    rw [e3, ih, optAll_cons]
    cases f x with
    | none => rfl
    | some b => cases optAll f l <;> rfl

/-! ### what is read, raw -/
def spD (S : List Raw) : D := .tuple (S.map prN)
def wkD (W : List (List Raw)) : D := .tuple (W.map spD)
def qq (x : Raw) : Rat := Rat.divInt (x.2.1 : Int) (x.2.2 : Int)
def sumQ (S : List Raw) : Rat := (S.map qq).sum
theorem qq_num {x : Raw} (h : Nat.gcd x.2.1 x.2.2 = 1) (hd : 1 ≤ x.2.2) : (qq x).num = (x.2.1 : Int) ∧ (qq x).den = x.2.2 := by
  have red : ((x.2.1 : Int)).natAbs.Coprime x.2.2 := h
  have e : qq x = ⟨(x.2.1 : Int), x.2.2, by omega, red⟩ := (Rat.mk_eq_divInt ..).symm
  rw [e]
  exact ⟨rfl, rfl⟩
theorem okP_iff {x : Raw} : okP x = true ↔ x.2.1 ≠ 0 ∧ Nat.gcd x.2.1 x.2.2 = 1 := by
  unfold okP
  rw [Bool.and_eq_true, decide_eq_true_iff, decide_eq_true_iff]
theorem fr_qq {x : Raw} (h : Nat.gcd x.2.1 x.2.2 = 1) (hd : 1 ≤ x.2.2) : fr (qq x) = shD x.2 := by
  obtain ⟨a, b⟩ := qq_num h hd
  unfold fr
  rw [a, b]
theorem dv_lt : ∀ (l : List Nat) (a : Nat), l.all dig = true → l.foldl (fun acc c => acc * 10 + (c - 48)) a < (a + 1) * 10 ^ l.length
  | [], a, _ => by simp
  | c :: l, a, h => by
    rw [List.all_cons, Bool.and_eq_true] at h
    have hc : c ≤ 57 := by
      have := h.1
      unfold dig at this
      rw [Bool.and_eq_true, decide_eq_true_iff, decide_eq_true_iff] at this
      exact this.2
    have ih := dv_lt l (a * 10 + (c - 48)) h.2
    show l.foldl _ (a * 10 + (c - 48)) < _
    refine Nat.lt_of_lt_of_le ih ?_
    rw [List.length_cons, Nat.pow_succ, Nat.mul_comm (10 ^ l.length) 10, ← Nat.mul_assoc]
    exact Nat.mul_le_mul_right _ (by omega)
theorem numOf_lt {l : List Nat} {n : Nat} (h : numOf l = some n) : n < 10 ^ l.length ∧ 1 ≤ l.length := by
  unfold numOf at h
  split at h
  · cases h
  · rename_i h0
    split at h
    · cases h
    · split at h
      · cases h
      · split at h
        · rename_i h3
          cases h
          have := dv_lt l 0 h3
          refine ⟨by simpa [NumText.digitsVal] using this, ?_⟩
          cases l with
          | nil => exact absurd rfl h0
          | cons c r => rw [List.length_cons]; omega
        · cases h
theorem pow10_le {a b : Nat} (h : a ≤ b) : 10 ^ a ≤ 10 ^ b := Nat.pow_le_pow_right (by decide) h
theorem pairOf_lt {l : List Nat} {x : Raw} (h : pairOf l = some x) : x.2.1 < 10 ^ l.length ∧ x.2.2 < 10 ^ l.length ∧ 1 ≤ x.2.2 ∧ 3 ≤ l.length := by
  unfold pairOf at h
  cases e : TL.par [62] [] l with
  | none => rw [e] at h; cases h
  | some pq =>
    obtain ⟨p, q⟩ := pq
    rw [e] at h
    have hl := congrArg List.length (par_eq _ _ _ _ e)
    rw [List.nil_append, List.length_append, List.length_cons] at hl
    obtain ⟨r, hr, h⟩ := Option.bind_eq_some_iff.mp h
    obtain ⟨s, hs, rfl⟩ := Option.map_eq_some_iff.mp h
    have hq := numOf_lt hr
    have key : s.1 < 10 ^ p.length ∧ s.2 < 10 ^ (p.length + 1) ∧ 1 ≤ s.2 ∧ 1 ≤ p.length := by
      unfold shareOf at hs
      cases e2 : TL.par [47] [] p with
      | none =>
        rw [e2] at hs
        obtain ⟨n, hn, rfl⟩ := Option.map_eq_some_iff.mp hs
        have := numOf_lt hn
        exact ⟨this.1, Nat.one_lt_pow (by omega) (by decide), Nat.le_refl _, this.2⟩
      | some uv =>
        obtain ⟨u, v⟩ := uv
        rw [e2] at hs
        have hl2 := congrArg List.length (par_eq _ _ _ _ e2)
        rw [List.nil_append, List.length_append, List.length_cons] at hl2
        obtain ⟨d, hd, hs⟩ := Option.bind_eq_some_iff.mp hs
        split at hs
        · cases hs
        · obtain ⟨n, hn, rfl⟩ := Option.map_eq_some_iff.mp hs
          have h1 := numOf_lt hn
          have h2 := numOf_lt hd
          exact ⟨Nat.lt_of_lt_of_le h1.1 (pow10_le (by omega)), Nat.lt_of_lt_of_le h2.1 (pow10_le (by omega)), by show 1 ≤ d; omega, by omega⟩
    exact ⟨Nat.lt_of_lt_of_le key.1 (pow10_le (by omega)), Nat.lt_of_lt_of_le key.2.1 (pow10_le (by omega)), key.2.2.1, by omega⟩
theorem ten_two (m : Nat) : 10 ^ m ≤ 2 ^ (4 * m) := by
  rw [Nat.pow_mul]
  exact Nat.pow_le_pow_left (by decide) m
theorem qq_sz {l : List Nat} {x : Raw} (h : pairOf l = some x) (hk : okP x = true) : Sz (4 * l.length) (qq x) := by
  obtain ⟨h1, h2, h3, h4⟩ := pairOf_lt h
  obtain ⟨k1, k2⟩ := okP_iff.mp hk
  obtain ⟨a, b⟩ := qq_num k2 h3
  have := ten_two l.length
  refine ⟨?_, ?_⟩
  · rw [a, Int.natAbs_natCast]; omega
  · rw [b]; omega
theorem sum_sz : ∀ {ws : List (List Nat)} {S : List Raw}, optAll pairOf ws = some S → (∀ x, x ∈ S → okP x = true) → Sz (1 + 4 * sumLen ws + ws.length) (sumQ S)
  | [], S, h, _ => by
    cases h
    exact Sz.zero (by omega)
  | w :: ws, S, h, hk => by
    rw [optAll_cons] at h
    obtain ⟨x, hx, h⟩ := Option.bind_eq_some_iff.mp h
    obtain ⟨T, h2, rfl⟩ := Option.map_eq_some_iff.mp h
    have ih := sum_sz h2 fun y m => hk y (List.mem_cons_of_mem _ m)
    have hq := qq_sz hx (hk x List.mem_cons_self)
    have e : sumQ (x :: T) = qq x + sumQ T := by
      unfold sumQ
      rw [List.map_cons, List.sum_cons]
    rw [e, sumLen_cons, List.length_cons]
    exact (hq.add ih).mono (by omega)
/-- few signs: few bits -/
theorem parts_sz {ws : List (List Nat)} {S : List Raw} (h : optAll pairOf ws = some S) (hw : sumLen ws + ws.length ≤ 246) (hk : ∀ x, x ∈ S → okP x = true) : ∀ pre y post, S = pre ++ y :: post → Sz 1000 (sumQ pre) ∧ Sz 1000 (qq y) := fun pre y post e => by
  rw [e] at h
  obtain ⟨w1, w2, e1, h1⟩ := optAll_take h
  have hs : sumLen w1 + w1.length ≤ 246 := by
    have a1 : sumLen ws = sumLen w1 + sumLen w2 := by
      rw [e1]
      unfold sumLen
      rw [List.map_append, List.sum_append_nat]
    have a2 : ws.length = w1.length + w2.length := by rw [e1, List.length_append]
    omega
  refine ⟨(sum_sz h1 fun x m => hk x (by rw [e]; exact List.mem_append_left _ m)).mono (by omega), ?_⟩
  obtain ⟨w, hm, hwp⟩ := optAll_mem h y (List.mem_append_right _ List.mem_cons_self)
  have := len_le_sum hm
  exact (qq_sz hwp (hk y (by rw [e]; exact List.mem_append_right _ List.mem_cons_self))).mono (by omega)

/-! ### is_spread, raw -/
def chkN (many : Nat) : Int → List Raw → Bool
  | _, [] => true
  | last, x :: S => decide (Nat.gcd x.2.1 x.2.2 = 1) && (decide (last < x.1) && (decide (x.1 < many) && (decide (x.2.1 ≠ 0) && chkN many x.1 S)))
theorem chkN_iff {many : Nat} : ∀ {S : List Raw} {last : Int}, chkN many last S = true ↔ (∀ x, x ∈ S → okP x = true) ∧ (S.map (·.1)).Pairwise (· < ·) ∧ (∀ x, x ∈ S → last < x.1) ∧ ∀ x, x ∈ S → x.1 < many
  | [], last => by
    constructor
    · intro _
      exact ⟨fun x m => (by cases m), List.Pairwise.nil, fun x m => (by cases m), fun x m => by cases m⟩
    · intro _; rfl
  | x :: S, last => by
    have ih := chkN_iff (many := many) (S := S) (last := (x.1 : Int))
    unfold chkN
    rw [Bool.and_eq_true, Bool.and_eq_true, Bool.and_eq_true, Bool.and_eq_true, decide_eq_true_iff, decide_eq_true_iff, decide_eq_true_iff, decide_eq_true_iff, ih, List.map_cons, List.pairwise_cons]
    constructor
    · rintro ⟨h1, h2, h3, h4, h5, h6, h7, h8⟩
      refine ⟨fun y m => ?_, ⟨fun b m => ?_, h6⟩, fun y m => ?_, fun y m => ?_⟩
      · rcases List.mem_cons.mp m with rfl | m
        · exact okP_iff.mpr ⟨h4, h1⟩
        · exact h5 y m
      · obtain ⟨y, hy, rfl⟩ := List.mem_map.mp m
        have := h7 y hy
        omega
      · rcases List.mem_cons.mp m with rfl | m
        · exact h2
        · have := h7 y m
          omega
      · rcases List.mem_cons.mp m with rfl | m
        · exact h3
        · exact h8 y m
    · rintro ⟨h1, ⟨h2, h3⟩, h4, h5⟩
      obtain ⟨k1, k2⟩ := okP_iff.mp (h1 x List.mem_cons_self)
      refine ⟨k2, h4 x List.mem_cons_self, h5 x List.mem_cons_self, k1, fun y m => h1 y (List.mem_cons_of_mem _ m), h3, fun y m => ?_, fun y m => h5 y (List.mem_cons_of_mem _ m)⟩
      have := h2 y.1 (List.mem_map.mpr ⟨y, m, rfl⟩)
      omega
def goodS (many : Nat) (S : List Raw) : Bool := chkN many (-1) S && decide (sumQ S = 1)
theorem pN0 (x : Raw) : dIx (prN x) (.int 0) = some (.int x.1) := ix_t0 _ _
theorem pN1 (x : Raw) : dIx (prN x) (.int 1) = some (shD x.2) := ix_t1 _ _
theorem tP_raw (x : Raw) (hd : 1 ≤ x.2.2) {ρ : Rho} (h : rd 3 ρ = .ok (prN x)) : tP ρ = .ok (!decide (Nat.gcd x.2.1 x.2.2 = 1)) := by
  have hf : m_is_fraction [shD x.2] = .ok (.bool (decide (Nat.gcd x.2.1 x.2.2 = 1))) := by
    have := is_fraction_ii (x.2.1 : Int) (x.2.2 : Int)
    rw [decide_eq_true (show (0 : Int) ≤ (x.2.1 : Int) by omega), decide_eq_true (show (1 : Int) ≤ (x.2.2 : Int) by omega), Bool.true_and, Bool.true_and] at this
    exact this
  exact orT_f (notT_ok (b := true) (asB_ok (un_ok h (isi_tuple _)))) (orT_f (asB_ok (bin_ok (un_ok h (len_two _ _)) rfl rfl)) (orT_f (notT_ok (b := true) (asB_ok ((call1 (bin_ok h rfl (pN0 x))).trans (is_whole_ok _)))) (notT_ok (asB_ok ((call1 (bin_ok h rfl (pN1 x))).trans hf)))))
theorem uP_raw (x : Raw) (hd : 1 ≤ x.2.2) (hg : Nat.gcd x.2.1 x.2.2 = 1) {ρ : Rho} {many : Nat} {last : Int} (h3 : rd 3 ρ = .ok (prN x)) (h2 : rd 2 ρ = .ok (.int last)) (h1 : rd 1 ρ = .ok (.int (many : Nat))) : uP ρ = .ok (!(decide (last < x.1) && (decide (x.1 < many) && decide (x.2.1 ≠ 0)))) := by
  have hq : decide (qq x = 0) = decide (x.2.1 = 0) := by
    refine decide_eq_decide.mpr ?_
    rw [← Rat.num_eq_zero, (qq_num hg hd).1]
    omega
  have e : uP ρ = .ok (decide ((x.1 : Int) ≤ last) || (decide ((many : Int) ≤ x.1) || decide (qq x = 0))) := orT_b (asB_ok (bin_ok (bin_ok h3 rfl (pN0 x)) h2 (le_ii _ _))) (orT_b (asB_ok (bin_ok (bin_ok h3 rfl (pN0 x)) h1 (ge_ii _ _))) (asB_ok (bin_ok (bin_ok h3 rfl (pN1 x)) rfl (by rw [← fr_qq hg hd]; exact eq_nought _))))
  rw [e, hq]
  congr 1
  rw [Bool.eq_iff_iff]
  simp only [Bool.or_eq_true, decide_eq_true_eq, Bool.not_eq_true', Bool.and_eq_false_iff, decide_eq_false_iff_not]
  omega
noncomputable abbrev gSp : Gx := gSeq (gIf tP (gRet (kc (.bool false))) gSkip) (gSeq (gIf uP (gRet (kc (.bool false))) gSkip) (gSet 2 (bin (rd 3) (kc (.int 0)) dIx)))
theorem loop_raw (z : D) (many : Nat) : ∀ (S : List Raw), (∀ x, x ∈ S → 1 ≤ x.2.2) → ∀ (last : Int) (c : Option D),
    (chkN many last S = false → forL (.nm 3) gSp (S.map prN) [some z, some (.int (many : Nat)), some (.int last), c] = .rt (.bool false)) ∧
    (chkN many last S = true → ∃ last' c', forL (.nm 3) gSp (S.map prN) [some z, some (.int (many : Nat)), some (.int last), c] = .nx [some z, some (.int (many : Nat)), some (.int last'), c'])
  | [], _, last, c => ⟨fun h => (by cases h), fun _ => ⟨last, c, rfl⟩⟩
  | x :: S, hd, last, c => by
    have hx := hd x List.mem_cons_self
    have e1 := tP_raw x hx (ρ := [some z, some (.int (many : Nat)), some (.int last), some (prN x)]) rfl
    unfold chkN
    by_cases hg : Nat.gcd x.2.1 x.2.2 = 1
    · rw [decide_eq_true hg] at e1
      rw [decide_eq_true hg, Bool.true_and]
      have e2 := uP_raw x hx hg (ρ := [some z, some (.int (many : Nat)), some (.int last), some (prN x)]) (many := many) (last := last) rfl rfl rfl
      cases hk : (decide (last < x.1) && (decide (x.1 < many) && decide (x.2.1 ≠ 0))) with
      | false =>
        rw [hk] at e2
        have hf : (decide (last < x.1) && (decide (x.1 < many) && (decide (x.2.1 ≠ 0) && chkN many x.1 S))) = false := by
          rw [← Bool.and_assoc (decide (x.1 < many)), ← Bool.and_assoc, hk, Bool.false_and]
        rw [hf]
        exact ⟨fun _ => forL_rt (ρ' := [some z, some (.int (many : Nat)), some (.int last), some (prN x)]) rfl ((gSeq_nx (gIf_s e1)).trans (gSeq_rt ((gIf_t e2).trans rfl))), fun h => by cases h⟩
      | true =>
        rw [hk] at e2
        have hf : (decide (last < x.1) && (decide (x.1 < many) && (decide (x.2.1 ≠ 0) && chkN many x.1 S))) = chkN many x.1 S := by
          rw [← Bool.and_assoc (decide (x.1 < many)), ← Bool.and_assoc, hk, Bool.true_and]
        rw [hf]
        have st : gSp [some z, some (.int (many : Nat)), some (.int last), some (prN x)] = .nx [some z, some (.int (many : Nat)), some (.int (x.1 : Int)), some (prN x)] := (gSeq_nx (gIf_s e1)).trans ((gSeq_nx (gIf_s e2)).trans (gSet_ok (bin_ok rfl rfl (pN0 x))))
        have e3 : forL (.nm 3) gSp ((x :: S).map prN) [some z, some (.int (many : Nat)), some (.int last), c] = forL (.nm 3) gSp (S.map prN) [some z, some (.int (many : Nat)), some (.int (x.1 : Int)), some (prN x)] := by
          show (match gSp [some z, some (.int (many : Nat)), some (.int last), some (prN x)] with | .nx ρ'' => forL (.nm 3) gSp (S.map prN) ρ'' | o => o) = _
          rw [st]
        rw [e3]
        exact loop_raw z many S (fun y m => hd y (List.mem_cons_of_mem _ m)) x.1 (some (prN x))
    · rw [decide_eq_false hg] at e1
      rw [decide_eq_false hg, Bool.false_and]
      exact ⟨fun _ => forL_rt (ρ' := [some z, some (.int (many : Nat)), some (.int last), some (prN x)]) rfl (gSeq_rt ((gIf_t e1).trans rfl)), fun h => by cases h⟩
theorem spread_raw (many : Nat) {S : List Raw} (hne : S ≠ []) (hd : ∀ x, x ∈ S → 1 ≤ x.2.2) (hk : S.length ≤ 1000) (hz : (∀ x, x ∈ S → okP x = true) → ∀ pre y post, S = pre ++ y :: post → Sz 1000 (sumQ pre) ∧ Sz 1000 (qq y)) : m_is_spread [spD S, .int (many : Nat)] = .ok (.bool (goodS many S)) := by
  have hlen : dEq (.int ((S.map prN).length : Nat)) (.int 0) = some (.bool false) := by
    rw [eq_ii, List.length_map]
    congr 2
    cases S with
    | nil => exact absurd rfl hne
    | cons x S => rfl
  obtain ⟨l1, l2⟩ := loop_raw (spD S) many S hd (-1) none
  refine run_rt ?_
  show gSeq _ _ [some (spD S), some (.int (many : Nat)), none, none] = _
  refine (gSeq_nx (gIf_s (orT_f (notT_ok (b := true) (asB_ok (un_ok rfl (isi_tuple _)))) (asB_ok (bin_ok (un_ok rfl (len_tuple _)) rfl hlen))))).trans ?_
  refine (gSeq_nx (ρ' := [some (spD S), some (.int (many : Nat)), some (.int (-1)), none]) (gSet_ok (neg1 _))).trans ?_
  unfold goodS
  cases hc : chkN many (-1) S with
  | false =>
    rw [Bool.false_and]
    exact gSeq_rt (gFor_nx (itS_tuple rfl) (l1 hc))
  | true =>
    rw [Bool.true_and]
    obtain ⟨last', c', e⟩ := l2 hc
    refine (gSeq_nx (gFor_nx (itS_tuple rfl) e)).trans ?_
    have hok := (chkN_iff.mp hc).1
    have hcm := comp_ok (vs := [3]) (tg := .nm 3) (fi := itS (rd 0)) (ft := yes) (fe := bin (rd 3) (kc (.int 1)) dIx) (ρ := [some (spD S), some (.int (many : Nat)), some (.int last'), c']) prN (fun _ => true) (fun x => fr (qq x)) S (line_small hk) (itS_tuple rfl) (fun x hx => ⟨[some (spD S), some (.int (many : Nat)), some (.int last'), some (prN x)], rfl, rfl, fun _ => bin_ok rfl rfl (by rw [fr_qq (okP_iff.mp (hok x hx)).2 (hd x hx)]; exact pN1 x)⟩)
    rw [filter_yes] at hcm
    have hs := summed_ok (v := S.map qq) fun pre y post e => by
      obtain ⟨p1, p2, hs, e1, e2⟩ := List.map_eq_append_iff.mp e
      obtain ⟨a, p3, hs2, e3, e4⟩ := List.map_eq_cons_iff.mp e2
      subst e1 e3
      obtain ⟨z1, z2⟩ := hz hok p1 a p3 (by rw [hs, hs2])
      exact ⟨z1.mono (by decide), z2.mono (by decide)⟩
    unfold vecD at hs
    rw [List.map_map] at hs
    exact gRet_ok (bin_ok ((call1 hcm).trans hs) rfl (eq_one _))
def goodW (W : List (List Raw)) : Bool := decide (1 ≤ W.length) && (decide (W.length ≤ 8) && W.all (goodS W.length))
/-- what is read is no longer than this -/
structure Fits (W : List (List Raw)) : Prop where
  len : W.length ≤ 1000
  ne : ∀ S, S ∈ W → S ≠ []
  dn : ∀ S, S ∈ W → ∀ x, x ∈ S → 1 ≤ x.2.2
  few : ∀ S, S ∈ W → S.length ≤ 1000
  sz : ∀ S, S ∈ W → (∀ x, x ∈ S → okP x = true) → ∀ pre y post, S = pre ++ y :: post → Sz 1000 (sumQ pre) ∧ Sz 1000 (qq y)
theorem walk_raw {W : List (List Raw)} (f : Fits W) : m_is_walk [wkD W] = .ok (.bool (goodW W)) := by
  have hl : dLen (wkD W) = some (.int W.length) := by
    show dLen (.tuple (W.map spD)) = _
    rw [len_tuple, List.length_map]
  have tst : (orT (notT (asB (un (rd 0) (dIsi "tuple")))) (orT (asB (bin (un (rd 0) dLen) (kc (.int 1)) dLt)) (asB (bin (un (rd 0) dLen) (kc (.int 8)) dGt)))) [some (wkD W), none] = .ok (!(decide (1 ≤ W.length) && decide (W.length ≤ 8))) := by
    have e : (orT (notT (asB (un (rd 0) (dIsi "tuple")))) (orT (asB (bin (un (rd 0) dLen) (kc (.int 1)) dLt)) (asB (bin (un (rd 0) dLen) (kc (.int 8)) dGt)))) [some (wkD W), none] = .ok (decide ((W.length : Int) < 1) || decide ((8 : Int) < W.length)) := orT_f (notT_ok (b := true) (asB_ok (un_ok rfl (isi_tuple _)))) (orT_b (asB_ok (bin_ok (un_ok rfl hl) rfl (lt_ii _ _))) (asB_ok (bin_ok (un_ok rfl hl) rfl (gt_ii _ _))))
    rw [e]
    congr 1
    rw [Bool.eq_iff_iff]
    simp only [Bool.or_eq_true, decide_eq_true_eq, Bool.not_eq_true', Bool.and_eq_false_iff, decide_eq_false_iff_not]
    omega
  unfold goodW
  rw [← Bool.and_assoc]
  refine run_rt ?_
  show gSeq _ _ [some (wkD W), none] = _
  cases hc : (decide (1 ≤ W.length) && decide (W.length ≤ 8)) with
  | false =>
    rw [hc] at tst
    rw [Bool.false_and]
    exact gSeq_rt ((gIf_t tst).trans rfl)
  | true =>
    rw [hc] at tst
    rw [Bool.true_and]
    refine (gSeq_nx (gIf_s tst)).trans ?_
    have hcm := comp_ok (vs := [1]) (tg := .nm 1) (fi := itS (rd 0)) (ft := yes) (fe := callD 2 m_is_spread (aCons (rd 1) (aCons (un (rd 0) dLen) aNil))) (ρ := [some (wkD W), none]) spD (fun _ => true) (fun S => PyData.bool (goodS W.length S)) W (line_small f.len) (itS_tuple rfl) fun S hS => ⟨[some (wkD W), some (spD S)], rfl, rfl, fun _ => (call2 rfl (un_ok rfl hl)).trans (spread_raw W.length (f.ne S hS) (f.dn S hS) (f.few S hS) (f.sz S hS))⟩
    rw [filter_yes] at hcm
    refine gRet_ok (un_ok hcm ?_)
    have := all_bools0 (W.map (goodS W.length))
    rw [List.map_map, List.all_map] at this
    exact this
end LW
end

section
set_option Elab.async false
set_option linter.all false
set_option maxRecDepth 100000
set_option maxHeartbeats 2000000
set_option exponentiation.threshold 100000
set_option autoImplicit false
/-! PG: means that stay through the steps. -/
namespace LW
open PySem hiding run
open L2 hiding bin
open DL

theorem due_ok {n s : Nat} {fe : Ex} {ρ : Rho} {i : Nat} {vs : List Nat} {fi : Ax} (hi : fi ρ = .ok ((List.range n).map fun k : Nat => PyData.int k)) (hn : n ≤ 1000)
    (he : ∀ k : Nat, k < n → ∃ ρ', Tgt.put (.nm i) (.int k) (wipeR ρ vs) = some ρ' ∧ fe ρ' = .ok (.tuple [.int (if (k : Int) == (s : Int) then 1 else 0), .int 1])) : comp vs (.nm i) fi yes fe ρ = .ok (vecD (unit n s)) := by
  rw [comp_ok (fun k : Nat => PyData.int k) (fun _ => true) (fun k => fr (if k = s then 1 else 0)) (List.range n) (by rw [List.length_range]; exact line_small hn) hi fun k hk => ?_]
  · rw [filter_yes]
    unfold vecD unit
    rw [List.map_map]
    rfl
  · obtain ⟨ρ', a, b⟩ := he k (List.mem_range.mp hk)
    refine ⟨ρ', a, rfl, fun _ => b.trans ?_⟩
    by_cases c : k = s
    · subst c
      rw [if_pos rfl, beq_self_eq_true, if_pos rfl]
      rfl
    · have : ((k : Int) == (s : Int)) = false := by
        rw [beq_eq_false_iff_ne]
        omega
      rw [this, if_neg c]
      rfl
/-- the mean of f by the shares -/
def E (n : Nat) (v : List Rat) (f : Nat → Rat) : Rat := S n (fun b => v.getD b 0 * f b)
theorem E_set {n : Nat} {m : List Rat} (hl : m.length = n) {k : Nat} (hk : k < n) (d : Rat) (f : Nat → Rat) : E n (m.set k (m.getD k 0 + d)) f = E n m f + d * f k := by
  unfold E
  have e : S n (fun b => (m.set k (m.getD k 0 + d)).getD b 0 * f b) = S n (fun b => m.getD b 0 * f b + (if b = k then d * f k else 0)) := S_congr fun b hb => by
    by_cases c : b = k
    · subst c
      rw [if_pos rfl, List.getD_eq_getElem?_getD, List.getElem?_set_self (by omega)]
      show (m.getD b 0 + d) * f b = _
      grind
    · rw [if_neg c, List.getD_eq_getElem?_getD, List.getElem?_set_ne (fun z => c z.symm), ← List.getD_eq_getElem?_getD, Rat.add_zero]
  rw [e, S_add, S_one (i := k) hk (fun j _ c => if_neg c), if_pos rfl]
theorem pour_len (x : Rat) : ∀ (s : Spread) (m : List Rat), (pour x m s).length = m.length
  | [], _ => rfl
  | q :: r, m => (pour_len x r _).trans List.length_set
theorem E_pour {n : Nat} (x : Rat) (f : Nat → Rat) : ∀ (s : Spread) (m : List Rat), m.length = n → (∀ q, q ∈ s → q.1 < n) → E n (pour x m s) f = E n m f + x * wsum s f
  | [], m, _, _ => by
    show E n m f = E n m f + x * 0
    rw [Rat.mul_zero, Rat.add_zero]
  | q :: r, m, hl, hq => by
    have h1 := E_pour x f r (m.set q.1 (m.getD q.1 0 + x * q.2)) (by rw [List.length_set]; exact hl) fun y hy => hq y (List.mem_cons_of_mem _ hy)
    have h2 := E_set hl (hq q List.mem_cons_self) (x * q.2) f
    have e : wsum (q :: r) f = q.2 * f q.1 + wsum r f := by
      unfold wsum
      rw [List.map_cons, List.sum_cons]
    show E n (pour x (m.set q.1 (m.getD q.1 0 + x * q.2)) r) f = _
    rw [h1, h2, e]
    grind
theorem E_step {w : Walk} (gw : GoodWk w) (v : List Rat) (f : Nat → Rat) : E w.length (step w v) f = S w.length (fun r => v.getD r 0 * wsum (w.getD r []) f) := by
  have key : ∀ k, k ≤ w.length → (stepK w v (List.range k)).length = w.length ∧ E w.length (stepK w v (List.range k)) f = S k (fun r => v.getD r 0 * wsum (w.getD r []) f) := by
    intro k
    induction k with
    | zero =>
      intro _
      refine ⟨List.length_replicate, S_zero fun j hj => ?_⟩
      have : (List.replicate w.length (0 : Rat)).getD j 0 = 0 := by
        rw [List.getD_eq_getElem?_getD, List.getElem?_replicate, if_pos hj]
        rfl
      show (List.replicate w.length (0 : Rat)).getD j 0 * f j = 0
      rw [this, Rat.zero_mul]
    | succ k ih =>
      intro hk
      obtain ⟨h1, h2⟩ := ih (by omega)
      have gs := (good_at gw (r := k) (by omega)).2
      rw [List.range_succ, stepK_snoc]
      refine ⟨(pour_len _ _ _).trans h1, ?_⟩
      rw [E_pour _ _ _ _ h1 (fun q hq => (gs.mem q hq).1), h2]
      rfl
  exact (key w.length (Nat.le_refl _)).2
theorem E_same {w : Walk} (gw : GoodWk w) {f : Nat → Rat} (hf : ∀ r, r < w.length → wsum (w.getD r []) f = f r) (v : List Rat) : ∀ k, E w.length (stepN w v k) f = E w.length v f
  | 0 => rfl
  | k + 1 => by
    show E w.length (step w (stepN w v k)) f = _
    rw [E_step gw, ← E_same gw hf v k]
    exact S_congr fun r hr => by rw [hf r hr]
theorem E_unit {n s : Nat} (h : s < n) (f : Nat → Rat) : E n (unit n s) f = f s := by
  have e : ∀ b, b < n → (unit n s).getD b 0 = if b = s then 1 else 0 := fun b hb => by
    unfold unit
    rw [List.getD_eq_getElem?_getD, List.getElem?_map, List.getElem?_range hb]
    rfl
  unfold E
  rw [S_one (i := s) h (fun j hj c => by rw [e j hj, if_neg c, Rat.zero_mul]), e s h, if_pos rfl, Rat.one_mul]
/-! chances lie between nought and one -/
theorem Chances.bounds {w : Walk} {G : List Nat} {v : List Rat} (hv : Chances w G v) (gw : GoodWk w) (hGn : ∀ g, g ∈ G → g < w.length) : ∀ b, 0 ≤ v.getD b 0 ∧ v.getD b 0 ≤ 1 := by
  open Classical in
  let R := (List.range w.length).filter fun a => decide (Come w G a) && !decide (a ∈ G)
  have hRm : ∀ a, a ∈ R ↔ a < w.length ∧ Come w G a ∧ a ∉ G := fun a => by
    show a ∈ (List.range w.length).filter _ ↔ _
    rw [List.mem_filter, List.mem_range]
    simp
  have lv : Leaves w R := fun r hr => by
    obtain ⟨h1, ⟨g, hg, p⟩, _⟩ := (hRm r).mp hr
    exact ⟨h1, g, fun z => ((hRm g).mp z).2.2 hg, p⟩
  have hout : ∀ b, b ∉ R → v.getD b 0 = 0 ∨ v.getD b 0 = 1 := fun b hb => by
    by_cases c : b ∈ G
    · exact .inr (hv.goal b c)
    · by_cases d : Come w G b
      · have : ¬ b < w.length := fun z => hb ((hRm b).mpr ⟨z, d, c⟩)
        obtain ⟨g, hg, p⟩ := d
        cases p with
        | refl _ => exact absurd (hGn _ hg) this
        | step e _ => exact absurd (edge_lt gw e).1 this
      · exact .inl (hv.lost b d)
  have hm : ∀ r, r ∈ R → v.getD r 0 = wsum (w.getD r []) (fun a => v.getD a 0) := fun r hr => by
    obtain ⟨h1, h2, h3⟩ := (hRm r).mp hr
    exact hv.mean r h1 h3 h2
  have u1 := rim gw lv (f := fun b => -1 * v.getD b 0) (fun r hr => by rw [wsum_mul, ← hm r hr]; exact Rat.le_refl) (fun b hb => by
    show -1 * v.getD b 0 ≤ 0
    rcases hout b hb with z | z <;> grind)
  have u2 := rim gw lv (f := fun b => v.getD b 0 + -1) (fun r hr => by
    have gs := (good_at gw (lv r hr).1).2
    rw [wsum_add, wsum_const, gs.sum, ← hm r hr, Rat.one_mul]
    exact Rat.le_refl) (fun b hb => by
    show v.getD b 0 + -1 ≤ 0
    rcases hout b hb with z | z <;> grind)
  intro b
  have h1 := u1 b
  have h2 := u2 b
  exact ⟨by grind, by grind⟩
theorem Chances.harm {w : Walk} {G : List Nat} {v : List Rat} (hv : Chances w G v) (gw : GoodWk w) {r : Nat} (hr : r < w.length) (hg : r ∉ G) : wsum (w.getD r []) (fun a => v.getD a 0) = v.getD r 0 := by
  by_cases c : Come w G r
  · exact (hv.mean r hr hg c).symm
  · rw [hv.lost r c]
    have : wsum (w.getD r []) (fun a => v.getD a 0) = wsum (w.getD r []) (fun _ => 0) := wsum_congr _ fun q hq => hv.lost q.1 fun ⟨g, hg2, p⟩ => c ⟨g, hg2, .step ⟨q, hq, rfl⟩ p⟩
    rw [this, wsum_const, Rat.mul_zero]
end LW
end

section
set_option Elab.async false
set_option linter.all false
set_option maxRecDepth 100000
set_option maxHeartbeats 2000000
set_option exponentiation.threshold 100000
set_option autoImplicit false
/-! PH: ahead_of and ends. -/
namespace LW
open PySem hiding run
open L2 hiding bin
open DL

theorem sorted_eq : ∀ {a b : List Nat}, a.Pairwise (· < ·) → b.Pairwise (· < ·) → (∀ x, x ∈ a ↔ x ∈ b) → a = b
  | [], [], _, _, _ => rfl
  | [], y :: b, _, _, h => absurd ((h y).mpr List.mem_cons_self) (by simp)
  | x :: a, [], _, _, h => absurd ((h x).mp List.mem_cons_self) (by simp)
  | x :: a, y :: b, ha, hb, h => by
    have ha' := List.pairwise_cons.mp ha
    have hb' := List.pairwise_cons.mp hb
    have e : x = y := by
      rcases List.mem_cons.mp ((h x).mp List.mem_cons_self) with e | m
      · exact e
      · rcases List.mem_cons.mp ((h y).mpr List.mem_cons_self) with e | m2
        · exact e.symm
        · have h1 := ha'.1 y m2
          have h2 := hb'.1 x m
          omega
    subst e
    congr 1
    refine sorted_eq ha'.2 hb'.2 fun z => ⟨fun m => ?_, fun m => ?_⟩
    · rcases List.mem_cons.mp ((h z).mp (List.mem_cons_of_mem _ m)) with e | m2
      · have := ha'.1 z m
        omega
      · exact m2
    · rcases List.mem_cons.mp ((h z).mpr (List.mem_cons_of_mem _ m)) with e | m2
      · have := hb'.1 z m
        omega
      · exact m2
/-- the rooms that can be come to from r -/
noncomputable def ahd (w : Walk) (r : Nat) : List Nat := (List.range w.length).filter fun o => @decide (Path w r o) (Classical.propDecidable _)
theorem ahd_lt (w : Walk) (r : Nat) : (ahd w r).Pairwise (· < ·) := (List.pairwise_lt_range).filter _
theorem ahd_mem {w : Walk} {r o : Nat} : o ∈ ahd w r ↔ o < w.length ∧ Path w r o := by
  unfold ahd
  rw [List.mem_filter, List.mem_range, @decide_eq_true_iff _ (Classical.propDecidable _)]
theorem ahd_path {w : Walk} (gw : GoodWk w) {r o : Nat} (hr : r < w.length) : o ∈ ahd w r ↔ Path w r o := by
  rw [ahd_mem]
  exact ⟨fun h => h.2, fun h => ⟨path_lt gw h hr, h⟩⟩
theorem ahd_len (w : Walk) (r : Nat) : (ahd w r).length ≤ w.length := by
  have h := List.length_filter_le (fun o => @decide (Path w r o) (Classical.propDecidable _)) (List.range w.length)
  rw [List.length_range] at h
  exact h
theorem law_ahead_eq {w : Walk} (gw : GoodWk w) {r : Nat} (hr : r < w.length) : m_law_ahead [walkD w, .int r] = .ok (intsD (ahd w r)) := by
  obtain ⟨A, hA, hm, e⟩ := law_ahead_ok gw hr
  rw [e, sorted_eq hA (ahd_lt w r) fun x => by rw [hm, ahd_path gw hr]]
theorem ahead_of_ok {w : Walk} (gw : GoodWk w) {r : Nat} (hr : r < w.length) : m_ahead_of [walkD w, .int r] = .ok (intsD (ahd w r)) := by
  have hw8 := gw.hi
  refine run_rt (gRet_ok ?_)
  show comp _ _ _ _ _ [some (walkD w), some (.int r), none] = _
  have e := comp_ok (vs := [2]) (tg := .nm 2) (fi := itR1 (un (rd 0) dLen)) (ft := asB (bin (rd 1) (callD 2 m_can_come (aCons (rd 0) (aCons (mkLst (aCons (rd 2) aNil)) aNil))) dIn)) (fe := rd 2) (ρ := [some (walkD w), some (.int r), none])
    (fun k : Nat => PyData.int k) (fun o => @decide (Path w r o) (Classical.propDecidable _)) (fun k : Nat => PyData.int k) (List.range w.length) (by rw [List.length_range]; exact line_small (by omega)) (itR1_nat (un_ok rfl (len_walk w)) (by omega)) (fun o ho => by
      have ho := List.mem_range.mp ho
      obtain ⟨C, hC, hCm, eC⟩ := can_come_ok (G := [o]) gw (by simp) (fun g m => by
        rcases List.mem_cons.mp m with rfl | m
        · exact ho
        · cases m)
      refine ⟨[some (walkD w), some (.int r), some (.int o)], rfl, asB_ok (bin_ok rfl ((call2 rfl (mkLst_ok (aCons_ok rfl rfl) rfl)).trans eC) ?_), fun _ => rfl⟩
      rw [in_ints]
      have hiff : r ∈ C ↔ Path w r o := by
        rw [hCm]
        constructor
        · rintro ⟨_, g, hg, p⟩
          rcases List.mem_cons.mp hg with rfl | m
          · exact p
          · cases m
        · intro p
          exact ⟨hr, o, List.mem_cons_self, p⟩
      congr 2
      by_cases c : Path w r o
      · rw [decide_eq_true (hiff.mpr c), @decide_eq_true _ (Classical.propDecidable _) c]
      · rw [decide_eq_false fun z => c (hiff.mp z), @decide_eq_false _ (Classical.propDecidable _) c])
  exact e
def listsD (l : List (List Nat)) : D := .list (l.map intsD)
open Classical in
/-- r is the least room of an end -/
noncomputable def endAt (w : Walk) (r : Nat) : Bool := decide ((∀ o, o ∈ ahd w r → r ∈ ahd w o) ∧ (ahd w r)[0]? = some r)
noncomputable def endsOf (w : Walk) : List (List Nat) := ((List.range w.length).filter (endAt w)).map (ahd w)
theorem all_bools (bs : List Bool) : dAll (.list (bs.map .bool)) = some (.bool (bs.all id)) := by
  show (allB (bs.map .bool)).map _ = _
  rw [allB_map]
  rfl
theorem ends_ok {w : Walk} (gw : GoodWk w) : m_ends [walkD w] = .ok (listsD (endsOf w)) := by
  have hw8 := gw.hi
  obtain ⟨ρ1, e1, c2, c3, h1⟩ := forL_pre (tg := .nm 2) (g := gSeq (gSet 3 (callD 2 m_ahead_of (aCons (rd 0) (aCons (rd 2) aNil)))) (gIf (andT (asB (un (comp [4] (.nm 4) (itS (rd 3)) yes (bin (rd 2) (callD 2 m_ahead_of (aCons (rd 0) (aCons (rd 4) aNil))) dIn)) dAll)) (asB (bin (bin (rd 3) (kc (.int 0)) dIx) (rd 2) dEq))) (gApp 1 (rd 3)) gSkip))
    (fun k : Nat => PyData.int k) (fun pre ρ => ∃ c2 c3, ρ = [some (walkD w), some (listsD ((pre.filter (endAt w)).map (ahd w))), c2, c3, none]) (List.range w.length) (fun pre r post ρ e hp => by
      obtain ⟨c2, c3, rfl⟩ := hp
      have hr : r < w.length := by have : r ∈ List.range w.length := (by rw [e]; exact List.mem_append_right _ List.mem_cons_self); exact List.mem_range.mp this
      have hpre : pre.length < 1000 := by
        have := congrArg List.length e
        rw [List.length_range, List.length_append] at this
        omega
      have hself : r ∈ ahd w r := ahd_mem.mpr ⟨hr, .refl r⟩
      obtain ⟨h0, eh0⟩ : ∃ h0, (ahd w r)[0]? = some h0 := by
        cases hA : ahd w r with
        | nil => rw [hA] at hself; cases hself
        | cons a t => exact ⟨a, rfl⟩
      have e5 := comp_ok (vs := [4]) (tg := .nm 4) (fi := itS (rd 3)) (ft := yes) (fe := bin (rd 2) (callD 2 m_ahead_of (aCons (rd 0) (aCons (rd 4) aNil))) dIn) (ρ := [some (walkD w), some (listsD ((pre.filter (endAt w)).map (ahd w))), some (.int r), some (intsD (ahd w r)), none])
        (fun k : Nat => PyData.int k) (fun _ => true) (fun o => PyData.bool (decide (r ∈ ahd w o))) (ahd w r) (line_small (by have := ahd_len w r; omega)) (itS_list rfl) (fun o ho => ⟨[some (walkD w), some (listsD ((pre.filter (endAt w)).map (ahd w))), some (.int r), some (intsD (ahd w r)), some (.int o)], rfl, rfl, fun _ => bin_ok rfl ((call2 rfl rfl).trans (ahead_of_ok gw (ahd_mem.mp ho).1)) (in_ints _ _)⟩)
      rw [filter_yes] at e5
      have e6 : dAll (.list ((ahd w r).map fun o => PyData.bool (decide (r ∈ ahd w o)))) = some (.bool ((ahd w r).all fun o => decide (r ∈ ahd w o))) := by
        have := all_bools ((ahd w r).map fun o => decide (r ∈ ahd w o))
        rw [List.map_map, List.all_map] at this
        exact this
      have e7 : bin (bin (rd 3) (kc (.int 0)) dIx) (rd 2) dEq [some (walkD w), some (listsD ((pre.filter (endAt w)).map (ahd w))), some (.int r), some (intsD (ahd w r)), none] = .ok (.bool ((h0 : Int) == (r : Int))) := bin_ok (bin_ok rfl rfl (ix_ints (i := 0) eh0)) rfl (eq_ii _ _)
      have hb : endAt w r = (((ahd w r).all fun o => decide (r ∈ ahd w o)) && ((h0 : Int) == (r : Int))) := by
        rw [Bool.eq_iff_iff, Bool.and_eq_true, List.all_eq_true]
        unfold endAt
        rw [decide_eq_true_iff, eh0]
        constructor
        · rintro ⟨h1, h2⟩
          exact ⟨fun o ho => decide_eq_true (h1 o ho), by rw [Option.some.inj h2]; exact beq_self_eq_true _⟩
        · rintro ⟨h1, h2⟩
          refine ⟨fun o ho => of_decide_eq_true (h1 o ho), ?_⟩
          have := eq_of_beq h2
          congr 1
          omega
      have e8 : andT (asB (un (comp [4] (.nm 4) (itS (rd 3)) yes (bin (rd 2) (callD 2 m_ahead_of (aCons (rd 0) (aCons (rd 4) aNil))) dIn)) dAll)) (asB (bin (bin (rd 3) (kc (.int 0)) dIx) (rd 2) dEq)) [some (walkD w), some (listsD ((pre.filter (endAt w)).map (ahd w))), some (.int r), some (intsD (ahd w r)), none] = .ok (endAt w r) := by
        rw [hb]
        cases hall : ((ahd w r).all fun o => decide (r ∈ ahd w o)) with
        | false => exact andT_f (asB_ok (un_ok e5 (by rw [e6, hall])))
        | true => exact andT_t (asB_ok (un_ok e5 (by rw [e6, hall]))) (asB_ok e7)
      refine ⟨[some (walkD w), some (listsD ((pre.filter (endAt w)).map (ahd w))), some (.int r), c3, none], [some (walkD w), some (listsD (((pre ++ [r]).filter (endAt w)).map (ahd w))), some (.int r), some (intsD (ahd w r)), none], rfl, (gSeq_nx (gSet_ok ((call2 rfl rfl).trans (ahead_of_ok gw hr)))).trans ?_, _, _, rfl⟩
      rw [List.filter_append]
      cases c : endAt w r with
      | false =>
        rw [List.filter_cons_of_neg (by rw [c]; decide), List.filter_nil, List.append_nil]
        exact gIf_s (e8.trans (by rw [c]))
      | true =>
        rw [List.filter_cons_of_pos c, List.filter_nil, List.map_append]
        refine (gIf_t (e8.trans (by rw [c]))).trans ((gApp_ok (l := ((pre.filter (endAt w)).map (ahd w)).map intsD) rfl rfl ?_).trans ?_)
        · rw [List.length_map, List.length_map]
          have := List.length_filter_le (endAt w) pre
          omega
        · unfold listsD
          rw [List.map_append (f := intsD)]
          rfl)
    (ρ := [some (walkD w), some (.list []), none, none, none]) ⟨_, _, rfl⟩
  refine run_rt ?_
  show gSeq _ _ [some (walkD w), none, none, none, none] = _
  refine (gSeq_nx (gSet_ok (mkLst_ok rfl rfl))).trans ?_
  refine (gSeq_nx (gFor_nx (itR1_nat (un_ok rfl (len_walk w)) (by omega)) e1)).trans ?_
  subst h1
  exact gRet_ok rfl
end LW
end

section
set_option Elab.async false
set_option linter.all false
set_option maxRecDepth 100000
set_option maxHeartbeats 2000000
set_option exponentiation.threshold 100000
set_option autoImplicit false
/-! PTU: any text: the law's reading of the whole; it is the program's. -/
namespace LW
open PySem hiding run
open L2 hiding bin
open DL

abbrev wordsOf (p : List Nat) : List (List Nat) := TL.spl [32] 0 [] p
abbrev piecesOf (l : List Nat) : List (List Nat) := TL.spl [32, 59, 32] 0 [] l
def lawOk (many : Nat) (S : List Raw) : Bool := decide (S.map (·.1) = kindsN (S.map (·.1))) && (decide ((S.map (·.1)).getD ((S.map (·.1)).length - 1) 0 < many) && decide (sumQ S = 1))
def lawPiece (many : Nat) (ws : List (List Nat)) : Option (List Raw) := (optAll lawPair ws).bind fun S => if lawOk many S = true then some S else none
def lawWalk (l : List Nat) : Option (List (List Raw)) := (optAll (fun p => lawPiece (piecesOf l).length (wordsOf p)) (piecesOf l)).bind fun W => if 8 < W.length then none else some W
def readOf (l : List Nat) : Option (List (List Raw)) := optAll (fun p => optAll pairOf (wordsOf p)) (piecesOf l)

/-! ### they are the same -/
theorem kinds_inc {R : List Nat} : R = kindsN R ↔ R.Pairwise (· < ·) := by
  have h1 : (kindsN R).Pairwise (· < ·) := by
    have h1 : ((kindsN R).map fun k : Nat => (k : Int)).Pairwise (· < ·) := by rw [← kindsN_int]; exact inc_setI _
    rw [List.pairwise_map] at h1
    exact h1.imp fun h => by omega
  constructor
  · intro h
    rw [h]
    exact h1
  · intro h
    exact sorted_eq h h1 fun x => mem_kindsN.symm
theorem last_lt {R : List Nat} (hne : R ≠ []) (h : R.Pairwise (· < ·)) (many : Nat) : R.getD (R.length - 1) 0 < many ↔ ∀ r, r ∈ R → r < many := by
  have hl : R.length - 1 < R.length := by
    have := List.length_pos_iff.mpr hne
    omega
  have e : R.getD (R.length - 1) 0 = R[R.length - 1] := by rw [List.getD_eq_getElem?_getD, List.getElem?_eq_getElem hl]; rfl
  rw [e]
  constructor
  · intro hm r hr
    obtain ⟨i, hi, rfl⟩ := List.mem_iff_getElem.mp hr
    by_cases c : i = R.length - 1
    · subst c; exact hm
    · have := List.pairwise_iff_getElem.mp h i (R.length - 1) hi hl (by omega)
      omega
  · intro hm
    exact hm _ (List.getElem_mem hl)
theorem law_good (many : Nat) {S : List Raw} (hne : S ≠ []) : (S.all okP && lawOk many S) = goodS many S := by
  have hR : S.map (·.1) ≠ [] := fun z => hne (List.map_eq_nil_iff.mp z)
  unfold lawOk goodS
  rw [Bool.eq_iff_iff, Bool.and_eq_true, Bool.and_eq_true, Bool.and_eq_true, Bool.and_eq_true, decide_eq_true_iff, decide_eq_true_iff, decide_eq_true_iff, chkN_iff, kinds_inc, List.all_eq_true]
  constructor
  · rintro ⟨h1, h2, h3, h4⟩
    refine ⟨⟨h1, h2, fun x _ => by omega, fun x hx => (last_lt hR h2 many).mp h3 _ (List.mem_map.mpr ⟨x, hx, rfl⟩)⟩, h4⟩
  · rintro ⟨⟨h1, h2, h3, h4⟩, h5⟩
    refine ⟨h1, h2, (last_lt hR h2 many).mpr fun r hr => ?_, h5⟩
    obtain ⟨x, hx, rfl⟩ := List.mem_map.mp hr
    exact h4 x hx
theorem lawPiece_eq (many : Nat) {ws : List (List Nat)} (hne : 1 ≤ ws.length) : lawPiece many ws = (optAll pairOf ws).bind fun S => if goodS many S = true then some S else none := by
  unfold lawPiece
  have e : optAll lawPair ws = (optAll pairOf ws).bind fun S => if S.all okP = true then some S else none := optAll_guard pairOf okP ws
  rw [e]
  cases h : optAll pairOf ws with
  | none => rfl
  | some S =>
    have hl := optAll_len h
    have hS : S ≠ [] := fun z => by rw [z] at hl; rw [List.length_nil] at hl; omega
    show (if S.all okP = true then some S else none).bind _ = if goodS many S = true then some S else none
    rw [← law_good many hS]
    cases S.all okP with
    | false => rfl
    | true => rfl
theorem walk_same (l : List Nat) : lawWalk l = (readOf l).bind fun W => if goodW W = true then some W else none := by
  unfold lawWalk readOf
  rw [optAll_congr (g := fun p => (optAll pairOf (wordsOf p)).bind fun S => if goodS (piecesOf l).length S = true then some S else none) fun p _ => lawPiece_eq _ (spl_pos _ _ _ _), optAll_guard]
  cases h : optAll (fun p => optAll pairOf (wordsOf p)) (piecesOf l) with
  | none => rfl
  | some W =>
    have hl := optAll_len h
    have h1 : 1 ≤ (piecesOf l).length := spl_pos [32, 59, 32] l 0 []
    show (if W.all (goodS (piecesOf l).length) = true then some W else none).bind _ = if goodW W = true then some W else none
    unfold goodW
    rw [← hl, decide_eq_true (show 1 ≤ W.length by omega), Bool.true_and]
    cases W.all (goodS W.length) with
    | false => rw [Bool.and_false]; rfl
    | true =>
      rw [Bool.and_true]
      show (if 8 < W.length then none else some W) = _
      by_cases c : W.length ≤ 8
      · rw [decide_eq_true c, if_neg (by omega), if_pos rfl]
      · rw [decide_eq_false c, if_pos (by omega), if_neg (by decide)]
/-! ### what is read fits -/
theorem read_fits {l : List Nat} (hl : l.length ≤ 245) {W : List (List Raw)} (h : readOf l = some W) : Fits W := by
  have h0 := spl_total [32, 59, 32] l 0 []
  rw [List.length_nil] at h0
  have hlen := optAll_len h
  have key : ∀ S, S ∈ W → ∃ p, p ∈ piecesOf l ∧ optAll pairOf (wordsOf p) = some S := fun S hS => optAll_mem h S hS
  have hp : ∀ p, p ∈ piecesOf l → sumLen (wordsOf p) + (wordsOf p).length ≤ 246 := fun p hp => by
    have h1 := spl_total [32] p 0 []
    have h2 := len_le_sum hp
    rw [List.length_nil] at h1
    show sumLen (TL.spl [32] 0 [] p) + (TL.spl [32] 0 [] p).length ≤ 246
    have h3 : p.length ≤ sumLen (TL.spl [32, 59, 32] 0 [] l) := h2
    have h4 := spl_pos [32, 59, 32] l 0 []
    omega
  refine ⟨?_, fun S hS => ?_, fun S hS x hx => ?_, fun S hS => ?_, fun S hS hk => ?_⟩
  · have : W.length = (TL.spl [32, 59, 32] 0 [] l).length := hlen
    omega
  · obtain ⟨p, hp1, e⟩ := key S hS
    have h1 := optAll_len e
    have h2 := spl_pos [32] p 0 []
    intro z
    rw [z] at h1
    have h1 : 0 = (TL.spl [32] 0 [] p).length := h1
    omega
  · obtain ⟨p, hp1, e⟩ := key S hS
    obtain ⟨w, _, ew⟩ := optAll_mem e x hx
    exact (pairOf_lt ew).2.2.1
  · obtain ⟨p, hp1, e⟩ := key S hS
    have h1 := optAll_len e
    have h2 := hp p hp1
    have h1 : S.length = (wordsOf p).length := h1
    omega
  · obtain ⟨p, hp1, e⟩ := key S hS
    exact parts_sz e (hp p hp1) hk
/-! ### the law's reading -/
theorem sh_noneOr (n : Nat) (x : Option Raw) : Sh 2 (noneOr prN x) := by
  have hn : Sh 0 (PyData.none) := ⟨by simp only [PyData.canLay0], by simp only [PyData.depth]; omega⟩
  cases x with
  | none => exact hn.mono (by omega)
  | some x =>
    refine sh_tuple fun d m => ?_
    rcases List.mem_cons.mp m with rfl | m
    · exact (sh_int _).mono (by omega)
    · rcases List.mem_cons.mp m with rfl | m
      · exact sh_tuple fun d m => by
          rcases List.mem_cons.mp m with rfl | m
          · exact sh_int _
          · rcases List.mem_cons.mp m with rfl | m
            · exact sh_int _
            · cases m
      · cases m
theorem eqv_noneOr (x : Option Raw) : PyData.eqv (noneOr prN x) .none = x.isNone := by
  cases x with
  | none => rfl
  | some x => rfl
theorem none_in {ws : List (List Nat)} : dIn .none (.list (ws.map fun w => noneOr prN (lawPair w))) = some (.bool (optAll lawPair ws).isNone) := by
  have hn : SeqAt.shaped (PyData.none) = true := shaped_none
  have hs : SeqAt.shaped (.list (ws.map fun w => noneOr prN (lawPair w))) = true := (sh_map (fun w => sh_noneOr 0 (lawPair w)) ws).shaped
  have e : dHas .none (.list (ws.map fun w => noneOr prN (lawPair w))) = some ((ws.map fun w => noneOr prN (lawPair w)).any fun z => PyData.eqv z .none) := if_pos ⟨hn, hs⟩
  show (dHas .none (.list (ws.map fun w => noneOr prN (lawPair w)))).map PyData.bool = _
  rw [e]
  show some (PyData.bool _) = _
  congr 2
  clear e hs hn
  induction ws with
  | nil => rfl
  | cons w ws ih =>
    rw [List.map_cons, List.any_cons, ih, eqv_noneOr, optAll_cons]
    cases lawPair w with
    | none => rfl
    | some x => cases optAll lawPair ws <;> rfl
theorem some_map {ws : List (List Nat)} {S : List Raw} (h : optAll lawPair ws = some S) : ws.map (fun w => noneOr prN (lawPair w)) = S.map prN := by
  induction ws generalizing S with
  | nil => cases h; rfl
  | cons w ws ih =>
    rw [optAll_cons] at h
    obtain ⟨x, hx, h⟩ := Option.bind_eq_some_iff.mp h
    obtain ⟨T, h2, rfl⟩ := Option.map_eq_some_iff.mp h
    rw [List.map_cons, List.map_cons, ih h2, hx]
    rfl
theorem lawPair_pair {w : List Nat} {x : Raw} (h : lawPair w = some x) : pairOf w = some x ∧ okP x = true := by
  unfold lawPair at h
  obtain ⟨y, hy, h⟩ := Option.bind_eq_some_iff.mp h
  split at h
  · rename_i k
    cases h
    exact ⟨hy, k⟩
  · cases h
theorem law_pairs {ws : List (List Nat)} {S : List Raw} (h : optAll lawPair ws = some S) : optAll pairOf ws = some S ∧ ∀ x, x ∈ S → okP x = true := by
  induction ws generalizing S with
  | nil => cases h; exact ⟨rfl, fun x m => by cases m⟩
  | cons w ws ih =>
    rw [optAll_cons] at h
    obtain ⟨x, hx, h⟩ := Option.bind_eq_some_iff.mp h
    obtain ⟨T, h2, rfl⟩ := Option.map_eq_some_iff.mp h
    obtain ⟨i1, i2⟩ := ih h2
    obtain ⟨j1, j2⟩ := lawPair_pair hx
    refine ⟨by rw [optAll_cons, j1, i1]; rfl, fun y m => ?_⟩
    rcases List.mem_cons.mp m with rfl | m
    · exact j2
    · exact i2 y m
theorem few_words {ws : List (List Nat)} {S : List Raw} (h : optAll pairOf ws = some S) : 3 * ws.length ≤ sumLen ws := by
  induction ws generalizing S with
  | nil => exact Nat.zero_le _
  | cons w ws ih =>
    rw [optAll_cons] at h
    obtain ⟨x, hx, h⟩ := Option.bind_eq_some_iff.mp h
    obtain ⟨T, h2, rfl⟩ := Option.map_eq_some_iff.mp h
    have i1 := ih h2
    have := (pairOf_lt hx).2.2.2
    rw [sumLen_cons, List.length_cons]
    omega
noncomputable abbrev gPc : Gx := gSeq (gSet 4 (comp [8] (.nm 8) (itS (binS (rd 3) (kc (.str (" " : PySem.Str))) dSplit)) yes (callD 1 m_law_pair_of (aCons (rd 8) aNil)))) (gSeq (gIf (asB (bin (kc .none) (rd 4) dIn)) (gRet (kc .none)) gSkip) (gSeq (gSet 5 (comp [7] (.nm 7) (itS (rd 4)) yes (bin (rd 7) (kc (.int 0)) dIx))) (gSeq (gIf (orT (asB (bin (rd 5) (un (rd 5) dSortedSet) dNe)) (asB (bin (bin (rd 5) (un (kc (.int 1)) dNeg) dIx) (un (rd 1) dLen) dGe))) (gRet (kc .none)) gSkip) (gSeq (gSet 6 (mkTup (aCons (kc (.int 0)) (aCons (kc (.int 1)) aNil)))) (gSeq (gFor (.nm 7) (itS (rd 4)) (gSet 6 (callD 3 m_law_add (aCons (rd 6) (aCons (bin (rd 7) (kc (.int 1)) dIx) (aCons (mkTup (aCons (kc (.int 1)) (aCons (kc (.int 1)) aNil))) aNil)))))) (gSeq (gIf (asB (bin (rd 6) (mkTup (aCons (kc (.int 1)) (aCons (kc (.int 1)) aNil))) dNe)) (gRet (kc .none)) gSkip) (gApp 2 (un (rd 4) dTuple))))))))
theorem piece_turn {p : List Nat} (hL : Low p) (hp : p.length ≤ 245) {a : D} {ps : List D} {made : List D} (hm : made.length < 1000) {y4 y5 y6 y7 : Option D} :
    (lawPiece ps.length (wordsOf p) = none → gPc [some a, some (.list ps), some (.list made), some (.str (Cs p)), y4, y5, y6, y7, none] = .rt .none) ∧
    (∀ S, lawPiece ps.length (wordsOf p) = some S → ∃ z4 z5 z6 z7, gPc [some a, some (.list ps), some (.list made), some (.str (Cs p)), y4, y5, y6, y7, none] = .nx [some a, some (.list ps), some (.list (made ++ [spD S])), some (.str (Cs p)), z4, z5, z6, z7, none]) := by
  have h0 := spl_total [32] p 0 []
  rw [List.length_nil] at h0
  have h0 : sumLen (wordsOf p) + (wordsOf p).length ≤ 246 := by
    show sumLen (TL.spl [32] 0 [] p) + (TL.spl [32] 0 [] p).length ≤ 246
    omega
  have hmem : ∀ w, w ∈ wordsOf p → Low w ∧ w.length ≤ 1000 := fun w hw => ⟨fun c hc => hL c ((spl_mem [32] p 0 [] w hw c hc).resolve_left fun z => by cases z), by
    have := len_le_sum hw
    omega⟩
  have hc := comp_ok (vs := [8]) (tg := .nm 8) (fi := itS (binS (rd 3) (kc (.str (" " : PySem.Str))) dSplit)) (ft := yes) (fe := callD 1 m_law_pair_of (aCons (rd 8) aNil)) (ρ := [some a, some (.list ps), some (.list made), some (.str (Cs p)), y4, y5, y6, y7, none])
    (fun w => PyData.str (Cs w)) (fun _ => true) (fun w => noneOr prN (lawPair w)) (wordsOf p) (line_small (by omega)) (itS_list (by rw [litSp]; exact binS_ok rfl rfl (split_ok (by decide) (by decide) (by omega))))
    fun w hw => ⟨[some a, some (.list ps), some (.list made), some (.str (Cs p)), y4, y5, y6, y7, some (.str (Cs w))], rfl, rfl, fun _ => (call1 rfl).trans (law_pair_ok (hmem w hw).1 (hmem w hw).2)⟩
  rw [filter_yes] at hc
  have s4 := gSet_ok (i := 4) hc
  have tin : asB (bin (kc .none) (rd 4) dIn) [some a, some (.list ps), some (.list made), some (.str (Cs p)), some (.list ((wordsOf p).map fun w => noneOr prN (lawPair w))), y5, y6, y7, none] = .ok (optAll lawPair (wordsOf p)).isNone := asB_ok (bin_ok rfl rfl none_in)
  unfold lawPiece
  cases hS : optAll lawPair (wordsOf p) with
  | none =>
    rw [hS] at tin
    exact ⟨fun _ => (gSeq_nx s4).trans (gSeq_rt ((gIf_t tin).trans rfl)), fun S h => by cases h⟩
  | some S =>
    rw [hS] at tin
    rw [some_map hS] at s4 tin
    obtain ⟨hPr, hok⟩ := law_pairs hS
    have hlen := optAll_len hPr
    have hfew := few_words hPr
    have hpos := spl_pos [32] p 0 []
    have hlen : S.length = (wordsOf p).length := hlen
    have hpos : 1 ≤ (wordsOf p).length := hpos
    have hR : S.map (·.1) ≠ [] := fun z => by
      have := congrArg List.length z
      rw [List.length_map] at this
      rw [List.length_nil] at this
      omega
    have hd : ∀ x, x ∈ S → 1 ≤ x.2.2 := fun x hx => by
      obtain ⟨w, _, ew⟩ := optAll_mem hPr x hx
      exact (pairOf_lt ew).2.2.1
    have hcr := comp_ok (vs := [7]) (tg := .nm 7) (fi := itS (rd 4)) (ft := yes) (fe := bin (rd 7) (kc (.int 0)) dIx) (ρ := [some a, some (.list ps), some (.list made), some (.str (Cs p)), some (.list (S.map prN)), y5, y6, y7, none])
      prN (fun _ => true) (fun x => PyData.int (x.1 : Nat)) S (line_small (by omega)) (itS_list rfl) fun x hx => ⟨[some a, some (.list ps), some (.list made), some (.str (Cs p)), some (.list (S.map prN)), y5, y6, some (prN x), none], rfl, rfl, fun _ => bin_ok rfl rfl (pN0 x)⟩
    rw [filter_yes] at hcr
    have e5 : (.list (S.map fun x => PyData.int (x.1 : Nat)) : D) = intsD (S.map (·.1)) := by
      unfold intsD
      rw [List.map_map]
      rfl
    rw [e5] at hcr
    have s5 := gSet_ok (i := 5) hcr
    have hRl : (S.map (·.1)).length = S.length := List.length_map ..
    have t1 : asB (bin (rd 5) (un (rd 5) dSortedSet) dNe) [some a, some (.list ps), some (.list made), some (.str (Cs p)), some (.list (S.map prN)), some (intsD (S.map (·.1))), y6, y7, none] = .ok (!decide (S.map (·.1) = kindsN (S.map (·.1)))) := asB_ok (bin_ok rfl (un_ok rfl (sortedSet_ints (by rw [hRl]; omega))) (ne_ints _ _))
    have hlast : dIx (intsD (S.map (·.1))) (.int (-1)) = some (.int ((S.map (·.1)).getD ((S.map (·.1)).length - 1) 0 : Nat)) := ix_last (by
      rw [List.length_map, List.getElem?_map, List.getD_eq_getElem?_getD]
      have hlt : (S.map (·.1)).length - 1 < (S.map (·.1)).length := by rw [hRl]; omega
      rw [List.getElem?_eq_getElem hlt]
      rfl) (by rw [List.length_map, hRl]; omega)
    have t2 : asB (bin (bin (rd 5) (un (kc (.int 1)) dNeg) dIx) (un (rd 1) dLen) dGe) [some a, some (.list ps), some (.list made), some (.str (Cs p)), some (.list (S.map prN)), some (intsD (S.map (·.1))), y6, y7, none] = .ok (!decide ((S.map (·.1)).getD ((S.map (·.1)).length - 1) 0 < ps.length)) := asB_ok (bin_ok (bin_ok rfl (neg1 _) hlast) (un_ok rfl (len_list ps)) (by
      rw [ge_ii]
      congr 2
      rw [Bool.eq_iff_iff, decide_eq_true_iff, Bool.not_eq_true', decide_eq_false_iff_not]
      omega))
    have t12 := orT_b t1 t2
    -- the sum
    obtain ⟨ρ1, e6, z7, h1⟩ := forL_pre (tg := .nm 7) (g := gSet 6 (callD 3 m_law_add (aCons (rd 6) (aCons (bin (rd 7) (kc (.int 1)) dIx) (aCons (mkTup (aCons (kc (.int 1)) (aCons (kc (.int 1)) aNil))) aNil))))) prN
      (fun pre ρ => ∃ z7, ρ = [some a, some (.list ps), some (.list made), some (.str (Cs p)), some (.list (S.map prN)), some (intsD (S.map (·.1))), some (fr (sumQ pre)), z7, none]) S (fun pre x post ρ e hp => by
        obtain ⟨z7, rfl⟩ := hp
        have hx : x ∈ S := by rw [e]; exact List.mem_append_right _ List.mem_cons_self
        obtain ⟨b1, b2⟩ := parts_sz hPr h0 hok pre x post e
        have e1 : callD 3 m_law_add (aCons (rd 6) (aCons (bin (rd 7) (kc (.int 1)) dIx) (aCons (mkTup (aCons (kc (.int 1)) (aCons (kc (.int 1)) aNil))) aNil))) [some a, some (.list ps), some (.list made), some (.str (Cs p)), some (.list (S.map prN)), some (intsD (S.map (·.1))), some (fr (sumQ pre)), some (prN x), none] = .ok (fr (sumQ pre + 1 * qq x)) := (call3 (b := fr (qq x)) (c := fr 1) rfl (bin_ok rfl rfl (by rw [fr_qq (okP_iff.mp (hok x hx)).2 (hd x hx)]; exact pN1 x)) (mkTup_ok (l := [.int 1, .int 1]) (aCons_ok rfl (aCons_ok rfl rfl)) rfl)).trans (law_add_ok (b1.mono (by decide)) (b2.mono (by decide)) (Sz.one (by decide)))
        refine ⟨[some a, some (.list ps), some (.list made), some (.str (Cs p)), some (.list (S.map prN)), some (intsD (S.map (·.1))), some (fr (sumQ pre)), some (prN x), none], _, rfl, gSet_ok e1, some (prN x), ?_⟩
        have : sumQ (pre ++ [x]) = sumQ pre + 1 * qq x := by
          unfold sumQ
          rw [rsum_snoc, Rat.one_mul]
        rw [this]
        rfl) (ρ := [some a, some (.list ps), some (.list made), some (.str (Cs p)), some (.list (S.map prN)), some (intsD (S.map (·.1))), some (fr 0), y7, none]) ⟨y7, rfl⟩
    subst h1
    have t6 : asB (bin (rd 6) (mkTup (aCons (kc (.int 1)) (aCons (kc (.int 1)) aNil))) dNe) [some a, some (.list ps), some (.list made), some (.str (Cs p)), some (.list (S.map prN)), some (intsD (S.map (·.1))), some (fr (sumQ S)), z7, none] = .ok (!decide (sumQ S = 1)) := asB_ok (bin_ok rfl (mkTup_ok (l := [.int 1, .int 1]) (aCons_ok rfl (aCons_ok rfl rfl)) rfl) (ne_fr (sumQ S) 1))
    have st : gPc [some a, some (.list ps), some (.list made), some (.str (Cs p)), y4, y5, y6, y7, none] = gSeq (gIf (orT (asB (bin (rd 5) (un (rd 5) dSortedSet) dNe)) (asB (bin (bin (rd 5) (un (kc (.int 1)) dNeg) dIx) (un (rd 1) dLen) dGe))) (gRet (kc .none)) gSkip) (gSeq (gSet 6 (mkTup (aCons (kc (.int 0)) (aCons (kc (.int 1)) aNil)))) (gSeq (gFor (.nm 7) (itS (rd 4)) (gSet 6 (callD 3 m_law_add (aCons (rd 6) (aCons (bin (rd 7) (kc (.int 1)) dIx) (aCons (mkTup (aCons (kc (.int 1)) (aCons (kc (.int 1)) aNil))) aNil)))))) (gSeq (gIf (asB (bin (rd 6) (mkTup (aCons (kc (.int 1)) (aCons (kc (.int 1)) aNil))) dNe)) (gRet (kc .none)) gSkip) (gApp 2 (un (rd 4) dTuple))))) [some a, some (.list ps), some (.list made), some (.str (Cs p)), some (.list (S.map prN)), some (intsD (S.map (·.1))), y6, y7, none] :=
      (gSeq_nx s4).trans ((gSeq_nx (gIf_s tin)).trans (gSeq_nx s5))
    show ((if lawOk ps.length S = true then some S else none) = none → _) ∧ ∀ S', (if lawOk ps.length S = true then some S else none) = some S' → _
    rw [st]
    unfold lawOk
    cases c1 : decide (S.map (·.1) = kindsN (S.map (·.1))) with
    | false =>
      rw [c1] at t12
      rw [Bool.false_and, if_neg (by decide)]
      exact ⟨fun _ => gSeq_rt ((gIf_t t12).trans rfl), fun S' h => by cases h⟩
    | true =>
      rw [c1] at t12
      cases c2 : decide ((S.map (·.1)).getD ((S.map (·.1)).length - 1) 0 < ps.length) with
      | false =>
        rw [c2] at t12
        rw [Bool.false_and, Bool.and_false, if_neg (by decide)]
        exact ⟨fun _ => gSeq_rt ((gIf_t t12).trans rfl), fun S' h => by cases h⟩
      | true =>
        rw [c2] at t12
        rw [Bool.true_and, Bool.true_and]
        have st2 := (gSeq_nx (h := gSeq (gSet 6 (mkTup (aCons (kc (.int 0)) (aCons (kc (.int 1)) aNil)))) (gSeq (gFor (.nm 7) (itS (rd 4)) (gSet 6 (callD 3 m_law_add (aCons (rd 6) (aCons (bin (rd 7) (kc (.int 1)) dIx) (aCons (mkTup (aCons (kc (.int 1)) (aCons (kc (.int 1)) aNil))) aNil)))))) (gSeq (gIf (asB (bin (rd 6) (mkTup (aCons (kc (.int 1)) (aCons (kc (.int 1)) aNil))) dNe)) (gRet (kc .none)) gSkip) (gApp 2 (un (rd 4) dTuple))))) (gIf_s (g := gRet (kc .none)) t12)).trans ((gSeq_nx (ρ' := [some a, some (.list ps), some (.list made), some (.str (Cs p)), some (.list (S.map prN)), some (intsD (S.map (·.1))), some (fr 0), y7, none]) (gSet_ok (mkTup_ok (l := [.int 0, .int 1]) (aCons_ok rfl (aCons_ok rfl rfl)) rfl))).trans (gSeq_nx (gFor_nx (itS_list rfl) e6)))
        rw [st2]
        cases c3 : decide (sumQ S = 1) with
        | false =>
          rw [c3] at t6
          rw [if_neg (by decide)]
          exact ⟨fun _ => gSeq_rt ((gIf_t t6).trans rfl), fun S' h => by cases h⟩
        | true =>
          rw [c3] at t6
          rw [if_pos rfl]
          refine ⟨(fun h => by cases h), fun S' h => ?_⟩
          cases h
          exact ⟨_, _, _, _, (gSeq_nx (gIf_s t6)).trans (gApp_ok (d := spD S) (un_ok rfl rfl) rfl (by omega))⟩
theorem law_walk_of_ok {l : List Nat} (hL : Low l) (hl : l.length ≤ 245) : m_law_walk_of [.str (Cs l)] = .ok (noneOr wkD (lawWalk l)) := by
  have h0 := spl_total [32, 59, 32] l 0 []
  rw [List.length_nil] at h0
  have hcount : (piecesOf l).length ≤ 246 := by
    show (TL.spl [32, 59, 32] 0 [] l).length ≤ 246
    omega
  have hmem : ∀ p, p ∈ piecesOf l → Low p ∧ p.length ≤ 245 := fun p hp => ⟨fun c hc => hL c ((spl_mem [32, 59, 32] l 0 [] p hp c hc).resolve_left fun z => by cases z), by
    have h1 := len_le_sum hp
    have h2 := spl_pos [32, 59, 32] l 0 []
    have h1 : p.length ≤ sumLen (TL.spl [32, 59, 32] 0 [] l) := h1
    omega⟩
  generalize hps : (piecesOf l).map (fun p => PyData.str (Cs p)) = ps
  have hpl : ps.length = (piecesOf l).length := by rw [← hps, List.length_map]
  have loop : ∀ (post : List (List Nat)) (made : List (List Raw)) (y3 y4 y5 y6 y7 : Option D), (∀ p, p ∈ post → p ∈ piecesOf l) → made.length + post.length ≤ 246 →
      (optAll (fun p => lawPiece (piecesOf l).length (wordsOf p)) post = none → forL (.nm 3) gPc (post.map fun p => .str (Cs p)) [some (.str (Cs l)), some (.list ps), some (.list (made.map spD)), y3, y4, y5, y6, y7, none] = .rt .none) ∧
      (∀ W, optAll (fun p => lawPiece (piecesOf l).length (wordsOf p)) post = some W → ∃ z3 z4 z5 z6 z7, forL (.nm 3) gPc (post.map fun p => .str (Cs p)) [some (.str (Cs l)), some (.list ps), some (.list (made.map spD)), y3, y4, y5, y6, y7, none] = .nx [some (.str (Cs l)), some (.list ps), some (.list ((made ++ W).map spD)), z3, z4, z5, z6, z7, none]) := by
    intro post
    induction post with
    | nil =>
      intro made y3 y4 y5 y6 y7 _ _
      refine ⟨(fun h => by cases h), fun W h => ?_⟩
      cases h
      rw [List.append_nil]
      exact ⟨_, _, _, _, _, rfl⟩
    | cons p post ih =>
      intro made y3 y4 y5 y6 y7 hin hb
      rw [List.length_cons] at hb
      obtain ⟨m1, m2⟩ := hmem p (hin p List.mem_cons_self)
      obtain ⟨t1, t2⟩ := piece_turn m1 m2 (a := .str (Cs l)) (ps := ps) (made := made.map spD) (by rw [List.length_map]; omega) (y4 := y4) (y5 := y5) (y6 := y6) (y7 := y7)
      rw [hpl] at t1 t2
      have e0 : forL (.nm 3) gPc ((p :: post).map fun p => .str (Cs p)) [some (.str (Cs l)), some (.list ps), some (.list (made.map spD)), y3, y4, y5, y6, y7, none] = (match gPc [some (.str (Cs l)), some (.list ps), some (.list (made.map spD)), some (.str (Cs p)), y4, y5, y6, y7, none] with | .nx ρ'' => forL (.nm 3) gPc (post.map fun p => .str (Cs p)) ρ'' | o => o) := rfl
      rw [e0, optAll_cons]
      cases hS : lawPiece (piecesOf l).length (wordsOf p) with
      | none =>
        rw [t1 hS]
        exact ⟨fun _ => rfl, fun W h => by cases h⟩
      | some S =>
        obtain ⟨z4, z5, z6, z7, e1⟩ := t2 S hS
        rw [e1]
        have e2 : made.map spD ++ [spD S] = (made ++ [S]).map spD := by rw [List.map_append]; rfl
        obtain ⟨i1, i2⟩ := ih (made ++ [S]) (some (.str (Cs p))) z4 z5 z6 z7 (fun q m => hin q (List.mem_cons_of_mem _ m)) (by rw [List.length_append, List.length_singleton]; omega)
        rw [← e2] at i1 i2
        refine ⟨fun h => i1 ?_, fun W h => ?_⟩
        · cases hr : optAll (fun p => lawPiece (piecesOf l).length (wordsOf p)) post with
          | none => rfl
          | some T => rw [hr] at h; cases h
        · obtain ⟨T, hT, e3⟩ := Option.map_eq_some_iff.mp (show (optAll (fun p => lawPiece (piecesOf l).length (wordsOf p)) post).map (S :: ·) = some W from h)
          subst e3
          have := i2 T hT
          rw [List.append_assoc] at this
          exact this
  have esp : binS (rd 0) (kc (.str (" ; " : PySem.Str))) dSplit [some (.str (Cs l)), none, none, none, none, none, none, none, none] = .ok (.list ps) := by
    rw [litSc, ← hps]
    exact binS_ok rfl rfl (split_ok (by decide) (by decide) (by omega))
  obtain ⟨l1, l2⟩ := loop (piecesOf l) [] none none none none none (fun p m => m) (by rw [List.length_nil]; omega)
  rw [hps] at l1 l2
  refine run_rt ?_
  show gSeq _ _ [some (.str (Cs l)), none, none, none, none, none, none, none, none] = _
  refine (gSeq_nx (gSet_ok esp)).trans ((gSeq_nx (ρ' := [some (.str (Cs l)), some (.list ps), some (.list (([] : List (List Raw)).map spD)), none, none, none, none, none, none]) rfl).trans ?_)
  unfold lawWalk
  cases hW : optAll (fun p => lawPiece (piecesOf l).length (wordsOf p)) (piecesOf l) with
  | none => exact gSeq_rt (gFor_nx (itS_list rfl) (l1 hW))
  | some W =>
    obtain ⟨z3, z4, z5, z6, z7, e⟩ := l2 W hW
    rw [List.nil_append] at e
    refine (gSeq_nx (gFor_nx (itS_list rfl) e)).trans ?_
    have hlen : dLen (.list (W.map spD)) = some (.int W.length) := by rw [len_list, List.length_map]
    show _ = Out.rt (noneOr wkD (if 8 < W.length then none else some W))
    by_cases c : 8 < W.length
    · rw [if_pos c]
      exact gSeq_rt ((gIf_t (asB_ok (bin_ok (un_ok rfl hlen) rfl (by rw [gt_ii, decide_eq_true (by omega)])))).trans rfl)
    · rw [if_neg c]
      exact (gSeq_nx (gIf_s (asB_ok (bin_ok (un_ok rfl hlen) rfl (by rw [gt_ii, decide_eq_false (by omega)]))))).trans (gRet_ok (un_ok rfl rfl))
end LW
end

section
set_option Elab.async false
set_option linter.all false
set_option maxRecDepth 100000
namespace LW
open PySem L2 DL

noncomputable def g_c_read : Gx :=
  (gSeq (gIf (notT (asB (un (rd 0) (dIsi "str")))) (gRaise ("NoText" : PySem.Str)) gSkip) (gSeq (gSet 1 (un (compX [2] (.nm 2) (itS (binS (rd 0) (kc (.str (" ; " : PySem.Str))) dSplit)) yes (un (compX [3] (.nm 3) (itS (binS (rd 2) (kc (.str (" " : PySem.Str))) dSplit)) yes (callD 1 m_pair_of (aCons (rd 3) aNil))) dTuple)) dTuple)) (gSeq (gIf (notT (asB (callD 1 m_is_walk (aCons (rd 1) aNil)))) (gRaise ("NoText" : PySem.Str)) gSkip) (gRet (rd 1)))))
noncomputable def m_c_read : List D → Res D := run 4 g_c_read

noncomputable def g_law_spoilt : Gx :=
  (gSeq (gSet 3 (bin (rd 2) (bin (un (rd 0) dLen) (kc (.int 1)) dAdd) dMod)) (gSeq (gIf (asB (bin (rd 1) (kc (.int 2)) dLt)) (gRet (bin (bin (slc (rd 0) pNo (pIs (rd 3))) (bin (mkLst (aCons (kc (.str (" " : PySem.Str))) (aCons (kc (.str (";" : PySem.Str))) (aCons (kc (.str ("/" : PySem.Str))) (aCons (kc (.str (">" : PySem.Str))) (aCons (kc (.str ("-" : PySem.Str))) (aCons (kc (.str ("0" : PySem.Str))) (aCons (kc (.str ("1" : PySem.Str))) (aCons (kc (.str ("a" : PySem.Str))) (aCons (kc (.str ("_" : PySem.Str))) (aCons (kc (.str ("\n" : PySem.Str))) aNil))))))))))) (bin (bin (rd 2) (kc (.int 7)) dDiv) (kc (.int 10)) dMod) dIx) dAdd) (slc (rd 0) (pIs (rd 3)) pNo) dAdd)) gSkip) (gSeq (gIf (asB (bin (rd 1) (kc (.int 4)) dLt)) (gRet (bin (slc (rd 0) pNo (pIs (rd 3))) (slc (rd 0) (pIs (bin (rd 3) (kc (.int 1)) dAdd)) pNo) dAdd)) gSkip) (gSeq (gSet 4 (binS (rd 0) (kc (.str (" " : PySem.Str))) dSplit)) (gSeq (gSet 5 (mkLst (aCons (kc (.str ("1>0" : PySem.Str))) (aCons (kc (.str ("0>0" : PySem.Str))) (aCons (kc (.str ("1/1>0" : PySem.Str))) (aCons (kc (.str ("2/4>0" : PySem.Str))) (aCons (kc (.str ("01>0" : PySem.Str))) (aCons (kc (.str ("1>00" : PySem.Str))) (aCons (kc (.str ("1/2" : PySem.Str))) (aCons (kc (.str ("" : PySem.Str))) (aCons (kc (.str (";" : PySem.Str))) (aCons (kc (.str ("1/2>0" : PySem.Str))) (aCons (kc (.str (">0" : PySem.Str))) (aCons (kc (.str ("1>" : PySem.Str))) aNil)))))))))))))) (gSeq (gPutL 4 (bin (bin (rd 2) (kc (.int 13)) dDiv) (un (rd 4) dLen) dMod) (bin (rd 5) (bin (rd 2) (kc (.int 12)) dMod) dIx)) (gRet (binS (kc (.str (" " : PySem.Str))) (rd 4) dJoin))))))))
noncomputable def m_law_spoilt : List D → Res D := run 6 g_law_spoilt

noncomputable def g_c_law_refused : Gx :=
  (gSeq (gSet 1 (kc (.int 0))) (gSeq (gTryM [("ChanceError" : PySem.Str), ("NoWalk" : PySem.Str), ("NoRooms" : PySem.Str), ("NoMarks" : PySem.Str), ("NoChoice" : PySem.Str), ("NoPicks" : PySem.Str), ("NoCosts" : PySem.Str), ("NoBegin" : PySem.Str), ("NoText" : PySem.Str)] (bCall 1 m_c_read (aCons (rd 0) aNil)) ((("NoText" : PySem.Str), (gSet 1 (bin (rd 1) (kc (.int 1)) dAdd))) :: [])) (gSeq (gTryE [("ChanceError" : PySem.Str), ("NoWalk" : PySem.Str), ("NoRooms" : PySem.Str), ("NoMarks" : PySem.Str), ("NoChoice" : PySem.Str), ("NoPicks" : PySem.Str), ("NoCosts" : PySem.Str), ("NoBegin" : PySem.Str), ("NoText" : PySem.Str)] (bCall 1 m_c_read (aCons (rd 0) aNil)) ("ChanceError" : PySem.Str) 2 (fun c => (gSeq (gSet 3 (kc (.bool (([("NoWalk" : PySem.Str), ("NoRooms" : PySem.Str), ("NoMarks" : PySem.Str), ("NoChoice" : PySem.Str), ("NoPicks" : PySem.Str), ("NoCosts" : PySem.Str), ("NoBegin" : PySem.Str)] : List PySem.Str).any fun y => upB c y)))) (gSet 1 (bin (rd 1) (un (andV (kc (.bool true)) (notV (rd 3))) dInt) dAdd))))) (gRet (bin (rd 1) (kc (.int 2)) dEq)))))
noncomputable def m_c_law_refused : List D → Res D := run 4 g_c_law_refused

noncomputable def g_law : Gx :=
  (gSeq (gSet 1 (callD 3 m_law_mixed (aCons (rd 0) (aCons (kc (.int 70)) (aCons (kc (.int 7)) aNil))))) (gSeq (gSet 2 (callD 3 m_law_mixed (aCons (rd 0) (aCons (kc (.int 71)) (aCons (bin (kc (.int 10)) (kc (.int 6)) dPow) aNil))))) (gSeq (gIf (asB (bin (rd 1) (kc (.int 6)) dEq)) (gRet (callD 1 m_c_law_refused (aCons (bin (mkLst (aCons (kc .none) (aCons (kc (.int 1)) (aCons (mkLst (aCons (kc (.str ("1>0" : PySem.Str))) aNil)) (aCons (mkTup (aCons (mkTup (aCons (mkTup (aCons (kc (.int 0)) (aCons (mkTup (aCons (kc (.int 1)) (aCons (kc (.int 1)) aNil))) aNil))) aNil)) aNil)) (aCons (kc (.bool true)) aNil)))))) (bin (rd 2) (kc (.int 5)) dMod) dIx) aNil))) gSkip) (gSeq (gSet 3 (callD 3 m_law_spoilt (aCons (callD 1 m_law_written (aCons (callD 2 m_law_walk (aCons (rd 0) (aCons (kc (.int 0)) aNil))) aNil)) (aCons (rd 1) (aCons (rd 2) aNil))))) (gSeq (gSet 4 (callD 1 m_law_walk_of (aCons (rd 3) aNil))) (gSeq (gIf (asB (bin (rd 4) (kc .none) dIs)) (gRet (callD 1 m_c_law_refused (aCons (rd 3) aNil))) gSkip) (gRet (bin (callD 1 m_c_read (aCons (rd 3) aNil)) (rd 4) dEq))))))))
noncomputable def m_law : List D → Res D := run 5 g_law

end LW
end

section
set_option Elab.async false
set_option linter.all false
set_option maxRecDepth 100000
set_option maxHeartbeats 2000000
set_option exponentiation.threshold 100000
set_option autoImplicit false
/-! P19: the plain law of k19. -/
namespace LW
open PySem hiding run
open L2 hiding bin
open DL

/-! ### read -/
theorem compX_ok {α β : Type} {vs : List Nat} {tg : Tgt} {fi : Ax} {ft : Tx} {fe : Ex} {ρ : Rho} (enc : α → D) (f : α → Option β) (val : β → D) (l : List α) (hl : l.length ≤ sizeLine) (hi : fi ρ = .ok (l.map enc))
    (h : ∀ x, x ∈ l → ∃ ρ', tg.put (enc x) (wipeR ρ vs) = some ρ' ∧ ft ρ' = .ok true ∧ fe ρ' = toR val (f x)) : compX vs tg fi ft fe ρ = toR (fun bs : List β => PyData.list (bs.map val)) (optAll f l) := by
  unfold compX
  rw [hi]
  show (if (l.map enc).length ≤ sizeLine then _ else _) = _
  rw [List.length_map, if_pos hl, compX_toR enc f val l h]
  cases optAll f l <;> rfl
theorem un_toR {α : Type} {f : Ex} {op : D → Option D} {ρ : Rho} {o : Option α} {g h : α → D} (e : f ρ = toR g o) (k : ∀ a, op (g a) = some (h a)) : un f op ρ = toR h o := by
  cases o with
  | none => exact un_exc e
  | some a => exact un_ok e (k a)
theorem c_read_ok {l : List Nat} (hL : Low l) (hl : l.length ≤ 245) : m_c_read [.str (Cs l)] = toR wkD (lawWalk l) := by
  have h0 := spl_total [32, 59, 32] l 0 []
  rw [List.length_nil] at h0
  have h1 := spl_pos [32, 59, 32] l 0 []
  have hcount : (piecesOf l).length ≤ 246 := by
    show (TL.spl [32, 59, 32] 0 [] l).length ≤ 246
    omega
  have hmem : ∀ p, p ∈ piecesOf l → Low p ∧ p.length ≤ 245 := fun p hp => ⟨fun c hc => hL c ((spl_mem [32, 59, 32] l 0 [] p hp c hc).resolve_left fun z => by cases z), by
    have h2 := len_le_sum hp
    have h2 : p.length ≤ sumLen (TL.spl [32, 59, 32] 0 [] l) := h2
    omega⟩
  have inner : ∀ p, p ∈ piecesOf l → un (compX [3] (.nm 3) (itS (binS (rd 2) (kc (.str (" " : PySem.Str))) dSplit)) yes (callD 1 m_pair_of (aCons (rd 3) aNil))) dTuple [some (.str (Cs l)), none, some (.str (Cs p)), none] = toR spD (optAll pairOf (wordsOf p)) := fun p hp => by
    obtain ⟨Lp, lp⟩ := hmem p hp
    have k0 := spl_total [32] p 0 []
    rw [List.length_nil] at k0
    have k0 : sumLen (wordsOf p) + (wordsOf p).length ≤ 246 := by
      show sumLen (TL.spl [32] 0 [] p) + (TL.spl [32] 0 [] p).length ≤ 246
      omega
    refine un_toR (compX_ok (fun w => PyData.str (Cs w)) pairOf prN (wordsOf p) (line_small (by omega)) (itS_list (by rw [litSp]; exact binS_ok rfl rfl (split_ok (by decide) (by decide) (by omega)))) fun w hw => ⟨[some (.str (Cs l)), none, some (.str (Cs p)), some (.str (Cs w))], rfl, rfl, (call1 rfl).trans (pair_ok (fun c hc => Lp c ((spl_mem [32] p 0 [] w hw c hc).resolve_left fun z => by cases z)) (by
      have := len_le_sum hw
      omega))⟩) fun S => rfl
  have outer : un (compX [2] (.nm 2) (itS (binS (rd 0) (kc (.str (" ; " : PySem.Str))) dSplit)) yes (un (compX [3] (.nm 3) (itS (binS (rd 2) (kc (.str (" " : PySem.Str))) dSplit)) yes (callD 1 m_pair_of (aCons (rd 3) aNil))) dTuple)) dTuple [some (.str (Cs l)), none, none, none] = toR wkD (readOf l) :=
    un_toR (compX_ok (fun p => PyData.str (Cs p)) (fun p => optAll pairOf (wordsOf p)) spD (piecesOf l) (line_small (by omega)) (itS_list (by rw [litSc]; exact binS_ok rfl rfl (split_ok (by decide) (by decide) (by omega)))) fun p hp => ⟨[some (.str (Cs l)), none, some (.str (Cs p)), none], rfl, rfl, inner p hp⟩) fun W => rfl
  rw [walk_same]
  have hstr : ∀ y, gIf (notT (asB (un (rd 0) (dIsi "str")))) (gRaise ("NoText" : PySem.Str)) gSkip [some (.str (Cs l)), none, none, y] = .nx [some (.str (Cs l)), none, none, y] := fun y => gIf_s (notT_ok (b := true) (asB_ok (un_ok rfl (isi_str _))))
  cases hW : readOf l with
  | none =>
    rw [hW] at outer
    refine run_exc ?_
    show gSeq _ _ [some (.str (Cs l)), none, none, none] = _
    exact (gSeq_nx (hstr none)).trans (gSeq_exc (gSet_exc outer))
  | some W =>
    rw [hW] at outer
    have hg := walk_raw (read_fits hl hW)
    show _ = toR wkD (if goodW W = true then some W else none)
    cases hb : goodW W with
    | false =>
      rw [hb] at hg
      refine run_exc ?_
      show gSeq _ _ [some (.str (Cs l)), none, none, none] = _
      exact (gSeq_nx (hstr none)).trans ((gSeq_nx (gSet_ok (d := wkD W) outer)).trans (gSeq_exc ((gIf_t (notT_ok (b := false) (asB_ok ((call1 rfl).trans hg)))).trans rfl)))
    | true =>
      rw [hb] at hg
      refine run_rt ?_
      show gSeq _ _ [some (.str (Cs l)), none, none, none] = _
      exact (gSeq_nx (hstr none)).trans ((gSeq_nx (gSet_ok (d := wkD W) outer)).trans ((gSeq_nx (gIf_s (notT_ok (b := true) (asB_ok ((call1 rfl).trans hg))))).trans (gRet_ok rfl)))
theorem read_none {x : D} (h : dIsi "str" x = some (.bool false)) : m_c_read [x] = .exc noText := by
  refine run_exc ?_
  show gSeq _ _ [some x, none, none, none] = _
  exact gSeq_exc ((gIf_t (notT_ok (b := false) (asB_ok (un_ok rfl h)))).trans rfl)
theorem refused_ok {x : D} (hc : m_c_read [x] = .exc noText) : m_c_law_refused [x] = .ok (.bool true) := by
  refine run_rt ?_
  show gSeq _ _ [some x, none, none, none] = _
  refine (gSeq_nx (gSet_ok rfl)).trans ?_
  refine (gSeq_nx (ρ' := [some x, some (.int 1), none, none]) ((tryM_exc (bCall_exc rfl rfl hc) (by decide)).trans (by kernel_rfl))).trans ?_
  refine (gSeq_nx (ρ' := [some x, some (.int 2), none, some (.bool false)]) ((tryE_exc (bCall_exc rfl rfl hc) ⟨by decide, by decide, by show 2 < 4; decide⟩).trans (by kernel_rfl))).trans ?_
  exact gRet_ok (by kernel_rfl)
/-! ### written -/
noncomputable abbrev gWp : Gx := gApp 3 (bin (bin (bin (mkLst (aCons (bin (bin (un (bin (rd 5) (kc (.int 0)) dIx) dStr) (kc (.str ("/" : PySem.Str))) dAdd) (un (bin (rd 5) (kc (.int 1)) dIx) dStr) dAdd) (aCons (un (bin (rd 5) (kc (.int 0)) dIx) dStr) aNil))) (un (bin (bin (rd 5) (kc (.int 1)) dIx) (kc (.int 1)) dEq) dInt) dIx) (kc (.str (">" : PySem.Str))) dAdd) (un (rd 4) dStr) dAdd)
theorem wp_turn {p : Nat × Rat} (h : SmP p) {a b c : D} {l : List D} (hl : l.length < 1000) : gWp [some a, some b, some c, some (.list l), some (.int p.1), some (fr p.2)] = .nx [some a, some b, some c, some (.list (l ++ [.str (Cs (pairC p))])), some (.int p.1), some (fr p.2)] := by
  have l1 := num2 h.up
  have l2 := num2 h.den
  have l3 := num2 h.room
  have e0 : dIx (fr p.2) (.int 0) = some (.int (p.2.num.toNat : Int)) := by rw [ix_fr0, ← h.num]
  have hu : un (bin (rd 5) (kc (.int 0)) dIx) dStr [some a, some b, some c, some (.list l), some (.int (p.1 : Nat)), some (fr p.2)] = .ok (.str (Cs (TL.numL p.2.num.toNat))) := un_ok (bin_ok rfl rfl e0) (str_ok h.up)
  have hd : un (bin (rd 5) (kc (.int 1)) dIx) dStr [some a, some b, some c, some (.list l), some (.int (p.1 : Nat)), some (fr p.2)] = .ok (.str (Cs (TL.numL p.2.den))) := un_ok (bin_ok rfl rfl (ix_fr1 _)) (str_ok h.den)
  have hr : un (rd 4) dStr [some a, some b, some c, some (.list l), some (.int (p.1 : Nat)), some (fr p.2)] = .ok (.str (Cs (TL.numL p.1))) := un_ok rfl (str_ok h.room)
  have hi : un (bin (bin (rd 5) (kc (.int 1)) dIx) (kc (.int 1)) dEq) dInt [some a, some b, some c, some (.list l), some (.int (p.1 : Nat)), some (fr p.2)] = .ok (.int (if p.2.den = 1 then 1 else 0)) := by
    refine un_ok (a := .bool (decide (p.2.den = 1))) (bin_ok (bin_ok rfl rfl (ix_fr1 _)) rfl (by
      rw [eq_ii]
      congr 2
      rw [Bool.eq_iff_iff, beq_iff_eq, decide_eq_true_iff]
      omega)) ?_
    by_cases d : p.2.den = 1
    · rw [decide_eq_true d, if_pos d]; rfl
    · rw [decide_eq_false d, if_neg d]; rfl
  have hA : bin (bin (un (bin (rd 5) (kc (.int 0)) dIx) dStr) (kc (.str ("/" : PySem.Str))) dAdd) (un (bin (rd 5) (kc (.int 1)) dIx) dStr) dAdd [some a, some b, some c, some (.list l), some (.int (p.1 : Nat)), some (fr p.2)] = .ok (.str (Cs (TL.numL p.2.num.toNat ++ [47] ++ TL.numL p.2.den))) := by
    rw [litSl]
    exact bin_ok (bin_ok hu rfl (add_S (by simp only [List.length_cons, List.length_nil]; omega))) hd (add_S (by simp only [List.length_append, List.length_cons, List.length_nil]; omega))
  have hsh : bin (mkLst (aCons (bin (bin (un (bin (rd 5) (kc (.int 0)) dIx) dStr) (kc (.str ("/" : PySem.Str))) dAdd) (un (bin (rd 5) (kc (.int 1)) dIx) dStr) dAdd) (aCons (un (bin (rd 5) (kc (.int 0)) dIx) dStr) aNil))) (un (bin (bin (rd 5) (kc (.int 1)) dIx) (kc (.int 1)) dEq) dInt) dIx [some a, some b, some c, some (.list l), some (.int (p.1 : Nat)), some (fr p.2)] = .ok (.str (Cs (shareC p.2))) := by
    refine bin_ok (mkLst_ok (aCons_ok hA (aCons_ok hu rfl)) rfl) hi ?_
    unfold shareC
    by_cases d : p.2.den = 1
    · rw [if_pos d, if_pos d]
      exact atI1 _ _ _
    · rw [if_neg d, if_neg d]
      have e : TL.numL p.2.num.toNat ++ [47] ++ TL.numL p.2.den = TL.numL p.2.num.toNat ++ (47 :: TL.numL p.2.den) := by rw [List.append_assoc]; rfl
      rw [← e]
      exact atI0 _ _
  have l4 := shareC_len h
  have e : pairC p = shareC p.2 ++ [62] ++ TL.numL p.1 := by unfold pairC; rw [List.append_assoc]; rfl
  rw [e]
  refine gApp_ok ?_ rfl (by omega)
  rw [litGt]
  exact bin_ok (bin_ok hsh rfl (add_S (by simp only [List.length_cons, List.length_nil]; omega))) hr (add_S (by simp only [List.length_append, List.length_cons, List.length_nil]; omega))
noncomputable abbrev gWr : Gx := gSeq (gSet 3 (mkLst aNil)) (gSeq (gFor (.tp [4, 5]) (itS (rd 2)) gWp) (gApp 1 (binS (kc (.str (" " : PySem.Str))) (rd 3) dJoin)))
theorem wr_turn {w : Walk} (g : GoodWk w) {s : Spread} (hs : s ∈ w) {a : D} {l : List D} (hl : l.length < 1000) {x3 x4 x5 : Option D} : ∃ y3 y4 y5, gWr [some a, some (.list l), some (spreadD s), x3, x4, x5] = .nx [some a, some (.list (l ++ [.str (Cs (spreadC s))])), some (spreadD s), y3, y4, y5] := by
  have gs := g.sp s hs
  have hf := gs.few
  obtain ⟨ρ', e, y4, y5, hρ⟩ := forL_pre (tg := .tp [4, 5]) (g := gWp) prD (fun pre ρ => ∃ y4 y5, ρ = [some a, some (.list l), some (spreadD s), some (.list (pre.map fun p => .str (Cs (pairC p)))), y4, y5]) s
    (fun pre p post ρ es hp => by
      obtain ⟨y4, y5, rfl⟩ := hp
      have hp : p ∈ s := by rw [es]; exact List.mem_append_right _ List.mem_cons_self
      have hlen : pre.length ≤ s.length := by rw [es, List.length_append]; omega
      refine ⟨[some a, some (.list l), some (spreadD s), some (.list (pre.map fun p => .str (Cs (pairC p)))), some (.int p.1), some (fr p.2)], _, rfl, wp_turn (smP g hs hp) (by rw [List.length_map]; omega), ?_⟩
      rw [List.map_append]
      exact ⟨_, _, rfl⟩) (ρ := [some a, some (.list l), some (spreadD s), some (.list []), x4, x5]) ⟨_, _, rfl⟩
  subst hρ
  refine ⟨_, y4, y5, (gSeq_nx (ρ' := [some a, some (.list l), some (spreadD s), some (.list []), x4, x5]) (gSet_ok rfl)).trans ((gSeq_nx (gFor_nx (itS_tuple rfl) e)).trans (gApp_ok ?_ rfl (by omega)))⟩
  rw [litSp]
  exact binS_ok rfl rfl (join_pairs g hs)
theorem written_ok {w : Walk} (g : GoodWk w) : m_law_written [walkD w] = .ok (.str (Cs (walkC w))) := by
  have hi := g.hi
  obtain ⟨ρ', e, y2, y3, y4, y5, hρ⟩ := forL_pre (tg := .nm 2) (g := gWr) spreadD (fun pre ρ => ∃ y2 y3 y4 y5, ρ = [some (walkD w), some (.list (pre.map fun s => .str (Cs (spreadC s)))), y2, y3, y4, y5]) w
    (fun pre s post ρ es hp => by
      obtain ⟨y2, y3, y4, y5, rfl⟩ := hp
      have hs : s ∈ w := by rw [es]; exact List.mem_append_right _ List.mem_cons_self
      have hlen : pre.length ≤ w.length := by rw [es, List.length_append]; omega
      obtain ⟨z3, z4, z5, e⟩ := wr_turn g hs (a := walkD w) (l := pre.map fun s => .str (Cs (spreadC s))) (by rw [List.length_map]; omega) (x3 := y3) (x4 := y4) (x5 := y5)
      refine ⟨_, _, rfl, e, ?_⟩
      rw [List.map_append]
      exact ⟨_, _, _, _, rfl⟩) (ρ := [some (walkD w), some (.list []), none, none, none, none]) ⟨_, _, _, _, rfl⟩
  subst hρ
  refine run_rt ?_
  show gSeq _ _ [some (walkD w), none, none, none, none, none] = _
  refine (gSeq_nx (ρ' := [some (walkD w), some (.list []), none, none, none, none]) (gSet_ok rfl)).trans ((gSeq_nx (gFor_nx (itS_tuple rfl) e)).trans (gRet_ok ?_))
  rw [litSc]
  exact binS_ok rfl rfl (join_rooms g)
/-! ### spoilt -/
theorem div_n (r m : Nat) (h : 0 < m) (h9 : m < 1000) : dDiv (.int (r : Int)) (.int (m : Int)) = some (.int ((r / m : Nat) : Int)) := by
  have h9 : m < 2 ^ 9000 := Nat.lt_of_lt_of_le (show m < 2 ^ 10 by omega) (Nat.pow_le_pow_right (by decide) (by decide))
  rw [div_ok (by omega) (by rw [Int.natAbs_natCast]; exact h9)]
  congr 2
  rw [Int.fdiv_eq_ediv_of_nonneg _ (by omega)]
  rfl
theorem mod_n (r m : Nat) (h : 0 < m) : dMod (.int (r : Int)) (.int (m : Int)) = some (.int ((r % m : Nat) : Int)) := by
  rw [mod_ii (by omega), Int.fmod_eq_emod_of_nonneg _ (by omega)]
  rfl
abbrev signs : Ax := aCons (kc (.str (" " : PySem.Str))) (aCons (kc (.str (";" : PySem.Str))) (aCons (kc (.str ("/" : PySem.Str))) (aCons (kc (.str (">" : PySem.Str))) (aCons (kc (.str ("-" : PySem.Str))) (aCons (kc (.str ("0" : PySem.Str))) (aCons (kc (.str ("1" : PySem.Str))) (aCons (kc (.str ("a" : PySem.Str))) (aCons (kc (.str ("_" : PySem.Str))) (aCons (kc (.str ("\n" : PySem.Str))) aNil)))))))))
def signC (k : Nat) : Nat := [32, 59, 47, 62, 45, 48, 49, 97, 95, 10].getD k 0
theorem sign_at {k : Nat} (h : k < 10) {f : Ex} {ρ : Rho} (hf : f ρ = .ok (.int (k : Nat))) : bin (mkLst signs) f dIx ρ = .ok (.str (Cs [signC k])) ∧ signC k < 128 := by
  have e : mkLst signs ρ = .ok (.list ([[32], [59], [47], [62], [45], [48], [49], [97], [95], [10]].map fun l => .str (Cs l))) := by kernel_rfl
  have : k = 0 ∨ k = 1 ∨ k = 2 ∨ k = 3 ∨ k = 4 ∨ k = 5 ∨ k = 6 ∨ k = 7 ∨ k = 8 ∨ k = 9 := by omega
  rcases this with rfl | rfl | rfl | rfl | rfl | rfl | rfl | rfl | rfl | rfl <;> exact ⟨bin_ok e hf (by kernel_rfl), by decide⟩
abbrev odds : Ax := aCons (kc (.str ("1>0" : PySem.Str))) (aCons (kc (.str ("0>0" : PySem.Str))) (aCons (kc (.str ("1/1>0" : PySem.Str))) (aCons (kc (.str ("2/4>0" : PySem.Str))) (aCons (kc (.str ("01>0" : PySem.Str))) (aCons (kc (.str ("1>00" : PySem.Str))) (aCons (kc (.str ("1/2" : PySem.Str))) (aCons (kc (.str ("" : PySem.Str))) (aCons (kc (.str (";" : PySem.Str))) (aCons (kc (.str ("1/2>0" : PySem.Str))) (aCons (kc (.str (">0" : PySem.Str))) (aCons (kc (.str ("1>" : PySem.Str))) aNil)))))))))))
def oddC (k : Nat) : List Nat := [[49, 62, 48], [48, 62, 48], [49, 47, 49, 62, 48], [50, 47, 52, 62, 48], [48, 49, 62, 48], [49, 62, 48, 48], [49, 47, 50], [], [59], [49, 47, 50, 62, 48], [62, 48], [49, 62]].getD k []
theorem odds_are (ρ : Rho) : mkLst odds ρ = .ok (.list ((List.range 12).map fun k => .str (Cs (oddC k)))) := by kernel_rfl
theorem odd_small {k : Nat} (h : k < 12) : (oddC k).length ≤ 5 ∧ Low (oddC k) := by
  have : k = 0 ∨ k = 1 ∨ k = 2 ∨ k = 3 ∨ k = 4 ∨ k = 5 ∨ k = 6 ∨ k = 7 ∨ k = 8 ∨ k = 9 ∨ k = 10 ∨ k = 11 := by omega
  rcases this with rfl | rfl | rfl | rfl | rfl | rfl | rfl | rfl | rfl | rfl | rfl | rfl <;> exact ⟨by decide, low_all (by decide)⟩
theorem spoilt_ok {l : List Nat} (hL : Low l) (hl : l.length ≤ 240) (way cell : Nat) : ∃ l', Low l' ∧ l'.length ≤ 245 ∧ m_law_spoilt [.str (Cs l), .int (way : Nat), .int (cell : Nat)] = .ok (.str (Cs l')) := by
  have hl6 : l.length ≤ 1000000 := by omega
  generalize hat : cell % (l.length + 1) = at_
  have hat2 : at_ ≤ l.length := by
    have := Nat.mod_lt cell (show 0 < l.length + 1 by omega)
    omega
  have e3 : gSet 3 (bin (rd 2) (bin (un (rd 0) dLen) (kc (.int 1)) dAdd) dMod) [some (.str (Cs l)), some (.int (way : Nat)), some (.int (cell : Nat)), none, none, none] = .nx [some (.str (Cs l)), some (.int (way : Nat)), some (.int (cell : Nat)), some (.int (at_ : Nat)), none, none] := by
    refine gSet_ok (d := .int (at_ : Nat)) (bin_ok rfl (bin_ok (un_ok rfl (len_S hl6)) rfl (add_ii _ _)) ?_)
    have : ((l.length : Nat) : Int) + 1 = ((l.length + 1 : Nat) : Int) := by omega
    rw [this, mod_n _ _ (by omega), hat]
  have sT : ∀ x4 x5 : Option D, slc (rd 0) pNo (pIs (rd 3)) [some (.str (Cs l)), some (.int (way : Nat)), some (.int (cell : Nat)), some (.int (at_ : Nat)), x4, x5] = .ok (.str (Cs (l.take at_))) := fun x4 x5 => slc_ok rfl rfl (pIs_ok rfl) (sl_to hl6)
  have ltake : (l.take at_).length ≤ 240 := by rw [List.length_take]; omega
  have Ltake : Low (l.take at_) := fun c m => hL c (List.mem_of_mem_take m)
  by_cases c1 : way < 2
  · have hk : cell / 7 % 10 < 10 := Nat.mod_lt _ (by decide)
    have ek : bin (bin (rd 2) (kc (.int 7)) dDiv) (kc (.int 10)) dMod [some (.str (Cs l)), some (.int (way : Nat)), some (.int (cell : Nat)), some (.int (at_ : Nat)), none, none] = .ok (.int ((cell / 7 % 10 : Nat) : Int)) := bin_ok (bin_ok rfl rfl (div_n cell 7 (by decide) (by decide))) rfl (mod_n _ 10 (by decide))
    obtain ⟨es, hs⟩ := sign_at hk ek
    have ldrop : (l.drop at_).length = l.length - at_ := List.length_drop
    have ltk : (l.take at_).length = at_ := by rw [List.length_take]; omega
    refine ⟨l.take at_ ++ [signC (cell / 7 % 10)] ++ l.drop at_, low_append (low_append Ltake (low_cons (by omega) low_nil)) (fun c m => hL c (List.mem_of_mem_drop m)), by simp only [List.length_append, List.length_cons, List.length_nil, ltk, ldrop]; omega, run_rt ?_⟩
    show gSeq _ _ [some (.str (Cs l)), some (.int (way : Nat)), some (.int (cell : Nat)), none, none, none] = _
    refine (gSeq_nx e3).trans (gSeq_rt ((gIf_t (asB_ok (bin_ok rfl rfl (lt_t (by omega))))).trans (gRet_ok ?_)))
    exact bin_ok (bin_ok (sT none none) es (add_S (by simp only [List.length_cons, List.length_nil]; omega))) (slc_ok rfl (pIs_ok rfl) rfl (sl_from hl6)) (add_S (by simp only [List.length_append, List.length_cons, List.length_nil, ldrop]; omega))
  · have t1 : asB (bin (rd 1) (kc (.int 2)) dLt) [some (.str (Cs l)), some (.int (way : Nat)), some (.int (cell : Nat)), some (.int (at_ : Nat)), none, none] = .ok false := asB_ok (bin_ok rfl rfl (lt_f (by omega)))
    by_cases c2 : way < 4
    · have ldrop : (l.drop (at_ + 1)).length = l.length - (at_ + 1) := List.length_drop
      refine ⟨l.take at_ ++ l.drop (at_ + 1), low_append Ltake (fun c m => hL c (List.mem_of_mem_drop m)), by rw [List.length_append, List.length_take, ldrop]; omega, run_rt ?_⟩
      show gSeq _ _ [some (.str (Cs l)), some (.int (way : Nat)), some (.int (cell : Nat)), none, none, none] = _
      refine (gSeq_nx e3).trans ((gSeq_nx (gIf_s t1)).trans (gSeq_rt ((gIf_t (asB_ok (bin_ok rfl rfl (lt_t (by omega))))).trans (gRet_ok ?_))))
      refine bin_ok (sT none none) (slc_ok rfl (pIs_ok (bin_ok rfl rfl (add_ii _ _))) rfl ?_) (add_S (by rw [ldrop]; omega))
      have : ((at_ : Nat) : Int) + 1 = ((at_ + 1 : Nat) : Int) := by omega
      rw [this]
      exact sl_from hl6
    · have t2 : asB (bin (rd 1) (kc (.int 4)) dLt) [some (.str (Cs l)), some (.int (way : Nat)), some (.int (cell : Nat)), some (.int (at_ : Nat)), none, none] = .ok false := asB_ok (bin_ok rfl rfl (lt_f (by omega)))
      have h0 := spl_total [32] l 0 []
      have h1 := spl_pos [32] l 0 []
      rw [List.length_nil] at h0
      have esp : binS (rd 0) (kc (.str (" " : PySem.Str))) dSplit [some (.str (Cs l)), some (.int (way : Nat)), some (.int (cell : Nat)), some (.int (at_ : Nat)), none, none] = .ok (.list ((TL.spl [32] 0 [] l).map fun p => .str (Cs p))) := by
        rw [litSp]
        exact binS_ok rfl rfl (split_ok (by decide) (by decide) hl6)
      have hmem : ∀ p, p ∈ TL.spl [32] 0 [] l → Low p := fun p hp c hc => hL c ((spl_mem [32] l 0 [] p hp c hc).resolve_left fun z => by cases z)
      generalize hws : TL.spl [32] 0 [] l = ws at h0 h1 esp hmem
      have hi : cell / 13 % ws.length < ws.length := Nat.mod_lt _ (by omega)
      have hk : cell % 12 < 12 := Nat.mod_lt _ (by decide)
      obtain ⟨o1, o2⟩ := odd_small hk
      have hset := sumLen_set (oddC (cell % 12)) ws (cell / 13 % ws.length)
      have hslen : (ws.set (cell / 13 % ws.length) (oddC (cell % 12))).length = ws.length := List.length_set
      have hjoin := joinL_total 32 (ws.set (cell / 13 % ws.length) (oddC (cell % 12))) (fun z => by rw [z] at hslen; rw [List.length_nil] at hslen; omega)
      have hall : ∀ p, p ∈ ws.set (cell / 13 % ws.length) (oddC (cell % 12)) → Low p ∧ p.length ≤ 246 := fun p hp => by
        rcases List.mem_or_eq_of_mem_set hp with h | h
        · have := len_le_sum h
          exact ⟨hmem p h, by omega⟩
        · rw [h]; exact ⟨o2, by omega⟩
      refine ⟨TL.joinL [32] (ws.set (cell / 13 % ws.length) (oddC (cell % 12))), low_join (low_all (by decide)) fun p hp => (hall p hp).1, by rw [hslen] at hjoin; omega, run_rt ?_⟩
      show gSeq _ _ [some (.str (Cs l)), some (.int (way : Nat)), some (.int (cell : Nat)), none, none, none] = _
      refine (gSeq_nx e3).trans ((gSeq_nx (gIf_s t1)).trans ((gSeq_nx (gIf_s t2)).trans ((gSeq_nx (gSet_ok esp)).trans ((gSeq_nx (gSet_ok (odds_are _))).trans ?_))))
      have eput : gPutL 4 (bin (bin (rd 2) (kc (.int 13)) dDiv) (un (rd 4) dLen) dMod) (bin (rd 5) (bin (rd 2) (kc (.int 12)) dMod) dIx) [some (.str (Cs l)), some (.int (way : Nat)), some (.int (cell : Nat)), some (.int (at_ : Nat)), some (.list (ws.map fun p => .str (Cs p))), some (.list ((List.range 12).map fun k => .str (Cs (oddC k))))] = .nx [some (.str (Cs l)), some (.int (way : Nat)), some (.int (cell : Nat)), some (.int (at_ : Nat)), some (.list ((ws.set (cell / 13 % ws.length) (oddC (cell % 12))).map fun p => .str (Cs p))), some (.list ((List.range 12).map fun k => .str (Cs (oddC k))))] := by
        have hlen : dLen (.list (ws.map fun p => PyData.str (Cs p))) = some (.int ws.length) := by rw [len_list, List.length_map]
        refine (gPutL_ok (k := ((cell / 13 % ws.length : Nat) : Int)) (d := .str (Cs (oddC (cell % 12)))) (bin_ok rfl (bin_ok rfl rfl (mod_n cell 12 (by decide))) (ix_list (i := cell % 12) ?_)) (bin_ok (bin_ok rfl rfl (div_n cell 13 (by decide) (by decide))) (un_ok rfl hlen) (mod_n _ _ (by omega))) rfl (lSet_nat (by rw [List.length_map]; exact hi))).trans ?_
        · rw [List.getElem?_map, List.getElem?_range hk]
          rfl
        · rw [← List.map_set (f := fun p => PyData.str (Cs p))]
          rfl
      refine (gSeq_nx eput).trans (gRet_ok ?_)
      rw [litSp]
      refine binS_ok rfl rfl (join_ok (s := [32]) (B := 246) (fun p hp => (hall p hp).2) ?_)
      rw [hslen]
      have : ws.length * (246 + [32].length) ≤ 246 * 247 := Nat.mul_le_mul (by omega) (Nat.le_refl _)
      omega
/-! ### the law -/
theorem sh_raw (W : List (List Raw)) : SeqAt.shaped (wkD W) = true := (sh_mapT (fun S => sh_mapT (fun x => (sh_noneOr 0 (some x) : Sh 2 (prN x))) S) W).shaped
theorem pure_law : ∀ ns : List Int, ns.length ≤ 63 → m_law [scrD ns] = .ok (.bool true) := by
  intro ns _
  obtain ⟨way, hway, ew⟩ := mixed_ok ns 70 7 (by decide)
  obtain ⟨cell, hcell, ec⟩ := mixed_ok ns 71 1000000 (by decide)
  refine run_rt ?_
  show gSeq _ _ [some (scrD ns), none, none, none, none] = _
  refine (gSeq_nx (gSet_ok ((call3 rfl rfl rfl).trans ew))).trans ?_
  have e6 : ∀ ρ : Rho, bin (kc (.int 10)) (kc (.int 6)) dPow ρ = .ok (.int 1000000) := fun ρ => by kernel_rfl
  refine (gSeq_nx (gSet_ok ((call3 rfl rfl (e6 _)).trans ec))).trans ?_
  by_cases c6 : way = 6
  · subst c6
    refine gSeq_rt ((gIf_t (asB_ok (bin_ok rfl rfl (c := .bool true) rfl))).trans (gRet_ok ?_))
    have em : bin (rd 2) (kc (.int 5)) dMod [some (scrD ns), some (.int ((6 : Nat) : Int)), some (.int (cell : Nat)), none, none] = .ok (.int ((cell % 5 : Nat) : Int)) := bin_ok rfl rfl (mod_n cell 5 (by decide))
    have hk : cell % 5 < 5 := Nat.mod_lt _ (by decide)
    have el : mkLst (aCons (kc .none) (aCons (kc (.int 1)) (aCons (mkLst (aCons (kc (.str ("1>0" : PySem.Str))) aNil)) (aCons (mkTup (aCons (mkTup (aCons (mkTup (aCons (kc (.int 0)) (aCons (mkTup (aCons (kc (.int 1)) (aCons (kc (.int 1)) aNil))) aNil))) aNil)) aNil)) (aCons (kc (.bool true)) aNil))))) [some (scrD ns), some (.int ((6 : Nat) : Int)), some (.int (cell : Nat)), none, none] = .ok (.list [.none, .int 1, .list [.str ("1>0" : PySem.Str)], .tuple [.tuple [.tuple [.int 0, .tuple [.int 1, .int 1]]]], .bool true]) := mkLst_ok (aCons_ok rfl (aCons_ok rfl (aCons_ok rfl (aCons_ok (by rfl) (aCons_ok rfl rfl))))) rfl
    have pick : ∃ x, dIx (.list [.none, .int 1, .list [.str ("1>0" : PySem.Str)], .tuple [.tuple [.tuple [.int 0, .tuple [.int 1, .int 1]]]], .bool true]) (.int ((cell % 5 : Nat) : Int)) = some x ∧ dIsi "str" x = some (.bool false) := by
      have : cell % 5 = 0 ∨ cell % 5 = 1 ∨ cell % 5 = 2 ∨ cell % 5 = 3 ∨ cell % 5 = 4 := by omega
      rcases this with h | h | h | h | h <;> rw [h] <;> exact ⟨_, rfl, by kernel_rfl⟩
    obtain ⟨x, hx, hs⟩ := pick
    exact (call1 (bin_ok el em hx)).trans (refused_ok (read_none hs))
  · have t6 : asB (bin (rd 1) (kc (.int 6)) dEq) [some (scrD ns), some (.int (way : Nat)), some (.int (cell : Nat)), none, none] = .ok false := asB_ok (bin_ok rfl rfl (by
      rw [eq_ii]
      congr 2
      rw [beq_eq_false_iff_ne]
      omega))
    refine (gSeq_nx (gIf_s t6)).trans ?_
    obtain ⟨w, g, hw⟩ := walk_ok ns 0
    obtain ⟨l, hL, hl, es⟩ := spoilt_ok (walkC_low g) (walkC_len g) way cell
    have er := c_read_ok hL hl
    have eo := law_walk_of_ok hL hl
    refine (gSeq_nx (ρ' := [some (scrD ns), some (.int (way : Nat)), some (.int (cell : Nat)), some (.str (Cs l)), none]) (gSet_ok ((call3 ((call1 ((call2 rfl rfl).trans hw)).trans (written_ok g)) rfl rfl).trans es))).trans ?_
    refine (gSeq_nx (gSet_ok ((call1 rfl).trans eo))).trans ?_
    cases hW : lawWalk l with
    | none =>
      rw [hW] at er
      exact gSeq_rt ((gIf_t (asB_ok (bin_ok rfl rfl (c := .bool true) rfl))).trans (gRet_ok ((call1 rfl).trans (refused_ok er))))
    | some W =>
      rw [hW] at er
      refine (gSeq_nx (gIf_s (asB_ok (bin_ok rfl rfl (c := .bool false) rfl)))).trans (gRet_ok (bin_ok ((call1 rfl).trans er) rfl ?_))
      have h : dEq (wkD W) (wkD W) = some (.bool (PyData.eqv (wkD W) (wkD W))) := dEq_tuple (sh_raw W) (sh_raw W)
      show dEq (wkD W) (wkD W) = _
      rw [h, SeqAt.eqv_refl _ (SeqAt.canLay_of_shaped (sh_raw W))]
end LW
end

section
set_option Elab.async false
set_option linter.all false
set_option maxRecDepth 100000
set_option maxHeartbeats 4000000
namespace LW
open PySem PySem.Spec PyProof.Rows L2 DL

def top (i : Nat) : Stmt := PySem.Challenge.pw_lotwander_k19_texts_refused.main.body.getD i (.Pass ⟨0, 0, 0, 0⟩)
abbrev s_divisor : Stmt := top 13
abbrev N_divisor : List Str := ["a", "b", "left"]
theorem sc_divisor : FnScope N_divisor ["a", "b"] (defScope s_divisor) := ⟨rfl, rfl, rfl, by decide +kernel, rfl, by decide +kernel, by decide +kernel⟩
abbrev s_frac : Stmt := top 14
abbrev N_frac : List Str := ["upper", "lower", "same"]
theorem sc_frac : FnScope N_frac ["upper", "lower"] (defScope s_frac) := ⟨rfl, rfl, rfl, by decide +kernel, rfl, by decide +kernel, by decide +kernel⟩
abbrev s_plus : Stmt := top 15
abbrev N_plus : List Str := ["a", "b"]
theorem sc_plus : FnScope N_plus ["a", "b"] (defScope s_plus) := ⟨rfl, rfl, rfl, by decide +kernel, rfl, by decide +kernel, by decide +kernel⟩
abbrev s_summed : Stmt := top 16
abbrev N_summed : List Str := ["row", "made", "a"]
theorem sc_summed : FnScope N_summed ["row"] (defScope s_summed) := ⟨rfl, rfl, rfl, by decide +kernel, rfl, by decide +kernel, by decide +kernel⟩
abbrev s_is_whole : Stmt := top 17
abbrev N_is_whole : List Str := ["thing"]
theorem sc_is_whole : FnScope N_is_whole ["thing"] (defScope s_is_whole) := ⟨rfl, rfl, rfl, by decide +kernel, rfl, by decide +kernel, by decide +kernel⟩
abbrev s_is_fraction : Stmt := top 18
abbrev N_is_fraction : List Str := ["thing"]
theorem sc_is_fraction : FnScope N_is_fraction ["thing"] (defScope s_is_fraction) := ⟨rfl, rfl, rfl, by decide +kernel, rfl, by decide +kernel, by decide +kernel⟩
abbrev s_is_spread : Stmt := top 21
abbrev N_is_spread : List Str := ["thing", "many", "last", "pair"]
theorem sc_is_spread : FnScope N_is_spread ["thing", "many"] (defScope s_is_spread) := ⟨rfl, rfl, rfl, by decide +kernel, rfl, by decide +kernel, by decide +kernel⟩
abbrev s_is_walk : Stmt := top 22
abbrev N_is_walk : List Str := ["thing", "spread"]
theorem sc_is_walk : FnScope N_is_walk ["thing"] (defScope s_is_walk) := ⟨rfl, rfl, rfl, by decide +kernel, rfl, by decide +kernel, by decide +kernel⟩
abbrev s_number_of : Stmt := top 25
abbrev N_number_of : List Str := ["word", "sign"]
theorem sc_number_of : FnScope N_number_of ["word"] (defScope s_number_of) := ⟨rfl, rfl, rfl, by decide +kernel, rfl, by decide +kernel, by decide +kernel⟩
abbrev s_share_of : Stmt := top 26
abbrev N_share_of : List Str := ["word", "parted", "lower"]
theorem sc_share_of : FnScope N_share_of ["word"] (defScope s_share_of) := ⟨rfl, rfl, rfl, by decide +kernel, rfl, by decide +kernel, by decide +kernel⟩
abbrev s_pair_of : Stmt := top 27
abbrev N_pair_of : List Str := ["word", "parted"]
theorem sc_pair_of : FnScope N_pair_of ["word"] (defScope s_pair_of) := ⟨rfl, rfl, rfl, by decide +kernel, rfl, by decide +kernel, by decide +kernel⟩
abbrev s_read : Stmt := top 28
abbrev N_read : List Str := ["text", "walk", "piece", "word"]
theorem sc_read : FnScope N_read ["text"] (defScope s_read) := ⟨rfl, rfl, rfl, by decide +kernel, rfl, by decide +kernel, by decide +kernel⟩
abbrev s_law_cell_at : Stmt := top 30
abbrev N_law_cell_at : List Str := ["_law_script", "_law_k"]
theorem sc_law_cell_at : FnScope N_law_cell_at ["_law_script", "_law_k"] (defScope s_law_cell_at) := ⟨rfl, rfl, rfl, by decide +kernel, rfl, by decide +kernel, by decide +kernel⟩
abbrev s_law_mixed : Stmt := top 31
abbrev N_law_mixed : List Str := ["_law_script", "_law_k", "_law_many", "_law_drawn"]
theorem sc_law_mixed : FnScope N_law_mixed ["_law_script", "_law_k", "_law_many"] (defScope s_law_mixed) := ⟨rfl, rfl, rfl, by decide +kernel, rfl, by decide +kernel, by decide +kernel⟩
abbrev s_law_divisor : Stmt := top 32
abbrev N_law_divisor : List Str := ["_law_a", "_law_b", "_law_left"]
theorem sc_law_divisor : FnScope N_law_divisor ["_law_a", "_law_b"] (defScope s_law_divisor) := ⟨rfl, rfl, rfl, by decide +kernel, rfl, by decide +kernel, by decide +kernel⟩
abbrev s_law_frac : Stmt := top 33
abbrev N_law_frac : List Str := ["_law_upper", "_law_lower", "_law_same"]
theorem sc_law_frac : FnScope N_law_frac ["_law_upper", "_law_lower"] (defScope s_law_frac) := ⟨rfl, rfl, rfl, by decide +kernel, rfl, by decide +kernel, by decide +kernel⟩
abbrev s_law_spread : Stmt := top 34
abbrev N_law_spread : List Str := ["_law_script", "_law_at", "_law_many", "_law_weights", "_law_k", "_law_room", "_law_whole"]
theorem sc_law_spread : FnScope N_law_spread ["_law_script", "_law_at", "_law_many"] (defScope s_law_spread) := ⟨rfl, rfl, rfl, by decide +kernel, rfl, by decide +kernel, by decide +kernel⟩
abbrev s_law_walk : Stmt := top 35
abbrev N_law_walk : List Str := ["_law_script", "_law_at", "_law_many", "_law_k"]
theorem sc_law_walk : FnScope N_law_walk ["_law_script", "_law_at"] (defScope s_law_walk) := ⟨rfl, rfl, rfl, by decide +kernel, rfl, by decide +kernel, by decide +kernel⟩
abbrev s_law_add : Stmt := top 36
abbrev N_law_add : List Str := ["_law_a", "_law_b", "_law_many"]
theorem sc_law_add : FnScope N_law_add ["_law_a", "_law_b", "_law_many"] (defScope s_law_add) := ⟨rfl, rfl, rfl, by decide +kernel, rfl, by decide +kernel, by decide +kernel⟩
abbrev s_law_number_of : Stmt := top 37
abbrev N_law_number_of : List Str := ["_law_word", "_law_made", "_law_sign", "_law_at"]
theorem sc_law_number_of : FnScope N_law_number_of ["_law_word"] (defScope s_law_number_of) := ⟨rfl, rfl, rfl, by decide +kernel, rfl, by decide +kernel, by decide +kernel⟩
abbrev s_law_pair_of : Stmt := top 38
abbrev N_law_pair_of : List Str := ["_law_word", "_law_at", "_law_share", "_law_lower", "_law_cut", "_law_pair"]
theorem sc_law_pair_of : FnScope N_law_pair_of ["_law_word"] (defScope s_law_pair_of) := ⟨rfl, rfl, rfl, by decide +kernel, rfl, by decide +kernel, by decide +kernel⟩
abbrev s_law_walk_of : Stmt := top 39
abbrev N_law_walk_of : List Str := ["_law_line", "_law_pieces", "_law_made", "_law_piece", "_law_spread_here", "_law_rooms", "_law_whole", "_law_pair", "_law_word"]
theorem sc_law_walk_of : FnScope N_law_walk_of ["_law_line"] (defScope s_law_walk_of) := ⟨rfl, rfl, rfl, by decide +kernel, rfl, by decide +kernel, by decide +kernel⟩
abbrev s_law_written : Stmt := top 40
abbrev N_law_written : List Str := ["_law_walk_here", "_law_rooms", "_law_spread_here", "_law_words", "_law_room", "_law_share"]
theorem sc_law_written : FnScope N_law_written ["_law_walk_here"] (defScope s_law_written) := ⟨rfl, rfl, rfl, by decide +kernel, rfl, by decide +kernel, by decide +kernel⟩
abbrev s_law_spoilt : Stmt := top 41
abbrev N_law_spoilt : List Str := ["_law_line", "_law_way", "_law_cell", "_law_at", "_law_words", "_law_odd"]
theorem sc_law_spoilt : FnScope N_law_spoilt ["_law_line", "_law_way", "_law_cell"] (defScope s_law_spoilt) := ⟨rfl, rfl, rfl, by decide +kernel, rfl, by decide +kernel, by decide +kernel⟩
abbrev s_law_refused : Stmt := top 42
abbrev N_law_refused : List Str := ["_law_line", "_law_refused_here", "e", "_law_other"]
theorem sc_law_refused : FnScope N_law_refused ["_law_line"] (defScope s_law_refused) := ⟨rfl, rfl, rfl, by decide +kernel, rfl, by decide +kernel, by decide +kernel⟩
abbrev s_law : Stmt := top 43
abbrev N_law : List Str := ["_law_script", "_law_way", "_law_cell", "_law_line", "_law_due"]
theorem sc_law : FnScope N_law ["_law_script"] (defScope s_law) := ⟨rfl, rfl, rfl, by decide +kernel, rfl, by decide +kernel, by decide +kernel⟩

/-- what the top has written -/
structure Txt (K : PySem.W.Frag) (mg : Str → Option Value) : Prop where
  z_abs : mg "abs" = none
  z_isinstance : mg "isinstance" = none
  z_int : mg "int" = none
  z_bool : mg "bool" = none
  z_tuple : mg "tuple" = none
  z_len : mg "len" = none
  z_all : mg "all" = none
  z_str : mg "str" = none
  z_range : mg "range" = none
  z_sum : mg "sum" = none
  z_sorted : mg "sorted" = none
  z_list : mg "list" = none
  z_set : mg "set" = none
  z_ValueError : mg "ValueError" = none
  c_NOUGHT : Cst K mg "NOUGHT" (.ref (He.ga K "NOUGHT")) (.tuple [.int 0, .int 1])
  c_ONE : Cst K mg "ONE" (.ref (He.ga K "ONE")) (.tuple [.int 1, .int 1])
  c_ROOMS : Cst K mg "ROOMS" (.int 8) (.int 8)
  c_FIGURES : Cst K mg "FIGURES" (.int 30) (.int 30)
  d_divisor : At K mg "divisor" s_divisor
  d_frac : At K mg "frac" s_frac
  d_plus : At K mg "plus" s_plus
  d_summed : At K mg "summed" s_summed
  d_is_whole : At K mg "is_whole" s_is_whole
  d_is_fraction : At K mg "is_fraction" s_is_fraction
  d_is_spread : At K mg "is_spread" s_is_spread
  d_is_walk : At K mg "is_walk" s_is_walk
  d_number_of : At K mg "number_of" s_number_of
  d_share_of : At K mg "share_of" s_share_of
  d_pair_of : At K mg "pair_of" s_pair_of
  d_read : At K mg "read" s_read
  d_law_cell_at : At K mg "_law_cell_at" s_law_cell_at
  d_law_mixed : At K mg "_law_mixed" s_law_mixed
  d_law_divisor : At K mg "_law_divisor" s_law_divisor
  d_law_frac : At K mg "_law_frac" s_law_frac
  d_law_spread : At K mg "_law_spread" s_law_spread
  d_law_walk : At K mg "_law_walk" s_law_walk
  d_law_add : At K mg "_law_add" s_law_add
  d_law_number_of : At K mg "_law_number_of" s_law_number_of
  d_law_pair_of : At K mg "_law_pair_of" s_law_pair_of
  d_law_walk_of : At K mg "_law_walk_of" s_law_walk_of
  d_law_written : At K mg "_law_written" s_law_written
  d_law_spoilt : At K mg "_law_spoilt" s_law_spoilt
  d_law_refused : At K mg "_law_refused" s_law_refused
  d_law : At K mg "law" s_law
  xx : ExcAll K mg [("ChanceError" : PySem.Str), ("NoWalk" : PySem.Str), ("NoRooms" : PySem.Str), ("NoMarks" : PySem.Str), ("NoChoice" : PySem.Str), ("NoPicks" : PySem.Str), ("NoCosts" : PySem.Str), ("NoBegin" : PySem.Str), ("NoText" : PySem.Str)]
section
variable {P : Program} {w : World} {K : PySem.W.Frag} {mg : Str → Option Value} {base : Heap}

theorem w_divisor (T : Txt K mg)  : DefX P w K mg base "divisor" ["a", "b"] 4 2 m_divisor :=
  mkDefX (N := N_divisor) g_divisor rfl 3 T.d_divisor sc_divisor rfl (fun _ _ _ _ _ _ us hl => match us, hl with | [_, _], _ => rfl) fun cdv A outer s H E f hr tk => ⟨[], _, by
    unfold g_divisor
    exact (dss_cons (ds_set 0 (hN := sc_divisor.nd) (he := (de_abs T.z_abs (dc_of (de_var 0))))) (dss_cons (ds_set 1 (hN := sc_divisor.nd) (he := (de_abs T.z_abs (dc_of (de_var 1))))) (dss_cons (ds_while (passes_of rfl) (dt_ne hr (de_var 1) de_int) (dss_cons (ds_set 2 (hN := sc_divisor.nd) (he := (de_mod (de_var 0) (de_var 1)))) (dss_cons (ds_set 0 (hN := sc_divisor.nd) (he := (de_var 1))) (dss_one (ds_set 1 (hN := sc_divisor.nd) (he := (de_var 2))))))) (dss_one (ds_ret (de_var 0))))))⟩

theorem w_frac (T : Txt K mg) (G_divisor : DefX P w K mg base "divisor" ["a", "b"] 4 2 m_divisor) : DefX P w K mg base "frac" ["upper", "lower"] 5 2 m_frac :=
  mkDefX (N := N_frac) g_frac rfl 4 T.d_frac sc_frac rfl (fun _ _ _ _ _ _ us hl => match us, hl with | [_, _], _ => rfl) fun cdv A outer s H E f hr tk => ⟨[], _, by
    unfold g_frac
    exact (dss_cons (ds_if (dt_lt (de_var 1) de_int) (dss_cons (ds_set 0 (hN := sc_frac.nd) (he := (de_neg (de_var 0)))) (dss_one (ds_set 1 (hN := sc_frac.nd) (he := (de_neg (de_var 1)))))) dss_nil) (dss_cons (ds_set 2 (hN := sc_frac.nd) (he := (de_fnX G_divisor (passX tk) (hr.mono (by decide)) (da_cons (de_var 0) (da_cons (de_var 1) da_nil))))) (dss_one (ds_ret (de_tup (da_cons (de_div (de_var 0) (de_var 2)) (da_cons (de_div (de_var 1) (de_var 2)) da_nil)))))))⟩

theorem w_plus (T : Txt K mg) (G_frac : DefX P w K mg base "frac" ["upper", "lower"] 5 2 m_frac) : DefX P w K mg base "plus" ["a", "b"] 6 2 m_plus :=
  mkDefX (N := N_plus) g_plus rfl 5 T.d_plus sc_plus rfl (fun _ _ _ _ _ _ us hl => match us, hl with | [_, _], _ => rfl) fun cdv A outer s H E f hr tk => ⟨[], _, by
    unfold g_plus
    exact (dss_one (ds_ret (de_fnX G_frac (passX tk) (hr.mono (by decide)) (da_cons (de_add (de_mul (de_ix (dc_of (de_var 0)) de_int) (de_ix (dc_of (de_var 1)) de_int)) (de_mul (de_ix (dc_of (de_var 1)) de_int) (de_ix (dc_of (de_var 0)) de_int))) (da_cons (de_mul (de_ix (dc_of (de_var 0)) de_int) (de_ix (dc_of (de_var 1)) de_int)) da_nil)))))⟩

theorem w_summed (T : Txt K mg) (G_plus : DefX P w K mg base "plus" ["a", "b"] 6 2 m_plus) : DefX P w K mg base "summed" ["row"] 7 1 m_summed :=
  mkDefX (N := N_summed) g_summed rfl 6 T.d_summed sc_summed rfl (fun _ _ _ _ _ _ us hl => match us, hl with | [_], _ => rfl) fun cdv A outer s H E f hr tk => ⟨[], _, by
    unfold g_summed
    exact (dss_cons (ds_set 1 (hN := sc_summed.nd) (he := (de_cst T.c_NOUGHT))) (dss_cons (ds_for (passes_of rfl) rfl (di_seq (de_var 0)) (dg_name (i := 2) (hN := sc_summed.nd)) (dss_one (ds_set 1 (hN := sc_summed.nd) (he := (de_fnX G_plus (passX tk) (hr.mono (by decide)) (da_cons (de_var 1) (da_cons (de_var 2) da_nil))))))) (dss_one (ds_ret (de_var 1)))))⟩

theorem w_is_whole (T : Txt K mg)  : DefX P w K mg base "is_whole" ["thing"] 4 1 m_is_whole :=
  mkDefX (N := N_is_whole) g_is_whole rfl 3 T.d_is_whole sc_is_whole rfl (fun _ _ _ _ _ _ us hl => match us, hl with | [_], _ => rfl) fun cdv A outer s H E f hr tk => ⟨[], _, by
    unfold g_is_whole
    exact (dss_one (ds_ret (de_and (de_isi (by rfl) T.z_isinstance (by rfl) T.z_int bt_int (de_var 0)) (de_one (de_not (de_isi (by rfl) T.z_isinstance (by rfl) T.z_bool bt_bool (de_var 0)))))))⟩

theorem w_is_fraction (T : Txt K mg) (G_is_whole : DefX P w K mg base "is_whole" ["thing"] 4 1 m_is_whole) (G_divisor : DefX P w K mg base "divisor" ["a", "b"] 4 2 m_divisor) : DefX P w K mg base "is_fraction" ["thing"] 5 1 m_is_fraction :=
  mkDefX (N := N_is_fraction) g_is_fraction rfl 4 T.d_is_fraction sc_is_fraction rfl (fun _ _ _ _ _ _ us hl => match us, hl with | [_], _ => rfl) fun cdv A outer s H E f hr tk => ⟨[], _, by
    unfold g_is_fraction
    exact (dss_cons (ds_if (dt_w (dw_or (dt_not (dt_val (de_isi (by rfl) T.z_isinstance (by rfl) T.z_tuple bt_tuple (de_var 0)))) (dw_or (dt_ne hr (de_len T.z_len (dc_of (de_var 0))) de_int) (dw_or (dt_not (dt_val (de_fnX G_is_whole (passX tk) (hr.mono (by decide)) (da_cons (de_ix (dc_of (de_var 0)) de_int) da_nil)))) (dw_or1 (dt_not (dt_val (de_fnX G_is_whole (passX tk) (hr.mono (by decide)) (da_cons (de_ix (dc_of (de_var 0)) de_int) da_nil))))))))) (dss_one (ds_ret de_bl)) dss_nil) (dss_one (ds_ret (de_and (de_ge (de_ix (dc_of (de_var 0)) de_int) de_int) (de_and (de_ge (de_ix (dc_of (de_var 0)) de_int) de_int) (de_one (de_eq hr (de_fnX G_divisor (passX tk) (hr.mono (by decide)) (da_cons (de_ix (dc_of (de_var 0)) de_int) (da_cons (de_ix (dc_of (de_var 0)) de_int) da_nil))) de_int)))))))⟩

theorem w_is_spread (T : Txt K mg) (G_summed : DefX P w K mg base "summed" ["row"] 7 1 m_summed) (G_is_whole : DefX P w K mg base "is_whole" ["thing"] 4 1 m_is_whole) (G_is_fraction : DefX P w K mg base "is_fraction" ["thing"] 5 1 m_is_fraction) : DefX P w K mg base "is_spread" ["thing", "many"] 8 2 m_is_spread :=
  mkDefX (N := N_is_spread) g_is_spread rfl 7 T.d_is_spread sc_is_spread rfl (fun _ _ _ _ _ _ us hl => match us, hl with | [_, _], _ => rfl) fun cdv A outer s H E f hr tk => ⟨[], _, by
    unfold g_is_spread
    exact (dss_cons (ds_if (dt_w (dw_or (dt_not (dt_val (de_isi (by rfl) T.z_isinstance (by rfl) T.z_tuple bt_tuple (de_var 0)))) (dw_or1 (dt_eq hr (de_len T.z_len (dc_of (de_var 0))) de_int)))) (dss_one (ds_ret de_bl)) dss_nil) (dss_cons (ds_set 2 (hN := sc_is_spread.nd) (he := (de_neg de_int))) (dss_cons (ds_for (passes_of rfl) rfl (di_seq (de_var 0)) (dg_name (i := 3) (hN := sc_is_spread.nd)) (dss_cons (ds_if (dt_w (dw_or (dt_not (dt_val (de_isi (by rfl) T.z_isinstance (by rfl) T.z_tuple bt_tuple (de_var 3)))) (dw_or (dt_ne hr (de_len T.z_len (dc_of (de_var 3))) de_int) (dw_or (dt_not (dt_val (de_fnX G_is_whole (passX tk) (hr.mono (by decide)) (da_cons (de_ix (dc_of (de_var 3)) de_int) da_nil)))) (dw_or1 (dt_not (dt_val (de_fnX G_is_fraction (passX tk) (hr.mono (by decide)) (da_cons (de_ix (dc_of (de_var 3)) de_int) da_nil))))))))) (dss_one (ds_ret de_bl)) dss_nil) (dss_cons (ds_if (dt_w (dw_or (dt_le (de_ix (dc_of (de_var 3)) de_int) (de_var 2)) (dw_or (dt_ge (de_ix (dc_of (de_var 3)) de_int) (de_var 1)) (dw_or1 (dt_eq hr (de_ix (dc_of (de_var 3)) de_int) (de_cst T.c_NOUGHT)))))) (dss_one (ds_ret de_bl)) dss_nil) (dss_one (ds_set 2 (hN := sc_is_spread.nd) (he := (de_ix (dc_of (de_var 3)) de_int))))))) (dss_one (ds_ret (de_eq hr (de_fnX G_summed (passX tk) (hr.mono (by decide)) (da_cons (de_of (df_lc rfl sc_is_spread.nd (di_seq (de_var 0)) (blkOk_by (own := [("pair", 3)]) (by kernel_rfl)) (fun _ _ _ _ _ => (dg_name (i := 3) (hN := sc_is_spread.nd))) (fun _ _ _ _ _ => dts_nil) (fun _ _ _ _ _ => (de_ix (dc_of (de_var 3)) de_int)))) da_nil)) (de_cst T.c_ONE)))))))⟩

theorem w_is_walk (T : Txt K mg) (G_is_spread : DefX P w K mg base "is_spread" ["thing", "many"] 8 2 m_is_spread) : DefX P w K mg base "is_walk" ["thing"] 9 1 m_is_walk :=
  mkDefX (N := N_is_walk) g_is_walk rfl 8 T.d_is_walk sc_is_walk rfl (fun _ _ _ _ _ _ us hl => match us, hl with | [_], _ => rfl) fun cdv A outer s H E f hr tk => ⟨[], _, by
    unfold g_is_walk
    exact (dss_cons (ds_if (dt_w (dw_or (dt_not (dt_val (de_isi (by rfl) T.z_isinstance (by rfl) T.z_tuple bt_tuple (de_var 0)))) (dw_or (dt_lt (de_len T.z_len (dc_of (de_var 0))) de_int) (dw_or1 (dt_gt (de_len T.z_len (dc_of (de_var 0))) (de_cst T.c_ROOMS)))))) (dss_one (ds_ret de_bl)) dss_nil) (dss_one (ds_ret (de_all T.z_all rfl (dc_of (de_of (df_lc rfl sc_is_walk.nd (di_seq (de_var 0)) (blkOk_by (own := [("spread", 1)]) (by kernel_rfl)) (fun _ _ _ _ _ => (dg_name (i := 1) (hN := sc_is_walk.nd))) (fun _ _ _ _ _ => dts_nil) (fun _ _ _ _ _ => (de_fnX G_is_spread passQ (hr.mono (by decide)) (da_cons (de_var 1) (da_cons (de_len T.z_len (dc_of (de_var 0))) da_nil)))))))))))⟩

theorem w_number_of (T : Txt K mg)  : DefX P w K mg base "number_of" ["word"] 4 1 m_number_of :=
  mkDefX (N := N_number_of) g_number_of rfl 3 T.d_number_of sc_number_of rfl (fun _ _ _ _ _ _ us hl => match us, hl with | [_], _ => rfl) fun cdv A outer s H E f hr tk => ⟨[], _, by
    unfold g_number_of
    exact (dss_cons (ds_if (dt_w (dw_or (dt_eq hr (de_var 0) de_str) (dw_or (dt_gt (de_len T.z_len (dc_of (de_var 0))) (de_cst T.c_FIGURES)) (dw_or1 (dt_w (dw_and (dt_eq hr (de_ix (dc_of (de_var 0)) de_int) de_str) (dw_and1 (dt_ne hr (de_var 0) de_str)))))))) (dss_one (ds_raiseX (T.xx.one ("NoText" : PySem.Str) (by decide)) tk)) dss_nil) (dss_cons (ds_for (passes_of rfl) rfl (di_seq (de_var 0)) (dg_name (i := 1) (hN := sc_number_of.nd)) (dss_one (ds_if (dt_notin hr (de_var 1) (dc_of de_str)) (dss_one (ds_raiseX (T.xx.one ("NoText" : PySem.Str) (by decide)) tk)) dss_nil))) (dss_one (ds_ret (de_intT T.z_int (dc_of (de_var 0)))))))⟩

theorem w_share_of (T : Txt K mg) (G_number_of : DefX P w K mg base "number_of" ["word"] 4 1 m_number_of) : DefX P w K mg base "share_of" ["word"] 5 1 m_share_of :=
  mkDefX (N := N_share_of) g_share_of rfl 4 T.d_share_of sc_share_of rfl (fun _ _ _ _ _ _ us hl => match us, hl with | [_], _ => rfl) fun cdv A outer s H E f hr tk => ⟨[], _, by
    unfold g_share_of
    exact (dss_cons (ds_set 1 (hN := sc_share_of.nd) (he := (de_part (de_var 0) (dc_of de_str)))) (dss_cons (ds_if (dt_eq hr (de_ix (dc_of (de_var 1)) de_int) de_str) (dss_one (ds_ret (de_tup (da_cons (de_fnX G_number_of (passX tk) (hr.mono (by decide)) (da_cons (de_var 0) da_nil)) (da_cons de_int da_nil))))) dss_nil) (dss_cons (ds_set 2 (hN := sc_share_of.nd) (he := (de_fnX G_number_of (passX tk) (hr.mono (by decide)) (da_cons (de_ix (dc_of (de_var 1)) de_int) da_nil)))) (dss_cons (ds_if (dt_lt (de_var 2) de_int) (dss_one (ds_raiseX (T.xx.one ("NoText" : PySem.Str) (by decide)) tk)) dss_nil) (dss_one (ds_ret (de_tup (da_cons (de_fnX G_number_of (passX tk) (hr.mono (by decide)) (da_cons (de_ix (dc_of (de_var 1)) de_int) da_nil)) (da_cons (de_var 2) da_nil)))))))))⟩

theorem w_pair_of (T : Txt K mg) (G_number_of : DefX P w K mg base "number_of" ["word"] 4 1 m_number_of) (G_share_of : DefX P w K mg base "share_of" ["word"] 5 1 m_share_of) : DefX P w K mg base "pair_of" ["word"] 6 1 m_pair_of :=
  mkDefX (N := N_pair_of) g_pair_of rfl 5 T.d_pair_of sc_pair_of rfl (fun _ _ _ _ _ _ us hl => match us, hl with | [_], _ => rfl) fun cdv A outer s H E f hr tk => ⟨[], _, by
    unfold g_pair_of
    exact (dss_cons (ds_set 1 (hN := sc_pair_of.nd) (he := (de_part (de_var 0) (dc_of de_str)))) (dss_cons (ds_if (dt_eq hr (de_ix (dc_of (de_var 1)) de_int) de_str) (dss_one (ds_raiseX (T.xx.one ("NoText" : PySem.Str) (by decide)) tk)) dss_nil) (dss_one (ds_ret (de_tup (da_cons (de_fnX G_number_of (passX tk) (hr.mono (by decide)) (da_cons (de_ix (dc_of (de_var 1)) de_int) da_nil)) (da_cons (de_fnX G_share_of (passX tk) (hr.mono (by decide)) (da_cons (de_ix (dc_of (de_var 1)) de_int) da_nil)) da_nil)))))))⟩

theorem w_read (T : Txt K mg) (G_is_walk : DefX P w K mg base "is_walk" ["thing"] 9 1 m_is_walk) (G_pair_of : DefX P w K mg base "pair_of" ["word"] 6 1 m_pair_of) : DefX P w K mg base "read" ["text"] 10 1 m_c_read :=
  mkDefX (N := N_read) g_c_read rfl 9 T.d_read sc_read rfl (fun _ _ _ _ _ _ us hl => match us, hl with | [_], _ => rfl) fun cdv A outer s H E f hr tk => ⟨[], _, by
    unfold g_c_read
    exact (dss_cons (ds_if (dt_not (dt_val (de_isi (by rfl) T.z_isinstance (by rfl) T.z_str bt_str (de_var 0)))) (dss_one (ds_raiseX (T.xx.one ("NoText" : PySem.Str) (by decide)) tk)) dss_nil) (dss_cons (ds_set 1 (hN := sc_read.nd) (he := (de_tupleOf T.z_tuple (dc_of (de_of (df_lcX rfl sc_read.nd (lets_def rfl rfl rfl rfl) (di_seq (de_of (df_split (de_var 0) (dc_of de_str)))) (blkOk_by (own := [("piece", 2)]) (by kernel_rfl)) (fun _ _ _ _ _ _ => (dg_name (i := 2) (hN := sc_read.nd))) (fun _ _ _ _ _ _ => dts_nil) (fun _ _ _ _ _ _ lt => (de_tupleOf T.z_tuple (dc_of (de_of (df_lcX rfl sc_read.nd lt (di_seq (de_of (df_split (de_var 2) (dc_of de_str)))) (blkOk_by (own := [("word", 3)]) (by kernel_rfl)) (fun _ _ _ _ _ _ => (dg_name (i := 3) (hN := sc_read.nd))) (fun _ _ _ _ _ _ => dts_nil) (fun _ _ _ _ _ _ lt => (de_fnX G_pair_of lt.passes (hr.mono (by decide)) (da_cons (de_var 3) da_nil)))))))))))))) (dss_cons (ds_if (dt_not (dt_val (de_fnX G_is_walk (passX tk) (hr.mono (by decide)) (da_cons (de_var 1) da_nil)))) (dss_one (ds_raiseX (T.xx.one ("NoText" : PySem.Str) (by decide)) tk)) dss_nil) (dss_one (ds_ret (de_var 1))))))⟩

theorem w_law_cell_at (T : Txt K mg)  : Def P w K mg base "_law_cell_at" ["_law_script", "_law_k"] 4 2 m_law_cell_at :=
  mkDef (N := N_law_cell_at) g_law_cell_at rfl 3 T.d_law_cell_at sc_law_cell_at rfl (fun _ _ _ _ _ _ us hl => match us, hl with | [_, _], _ => rfl) fun cdv A outer s H E f hr => ⟨[], _, by
    unfold g_law_cell_at
    exact (dss_cons (ds_if (dt_lt (de_var 1) (de_len T.z_len (dc_of (de_var 0)))) (dss_one (ds_ret (de_ix (dc_of (de_var 0)) (de_var 1)))) dss_nil) (dss_cons (ds_if (dt_eq hr (de_var 0) (de_of (df_lst da_nil))) (dss_one (ds_ret de_int)) dss_nil) (dss_one (ds_ret (de_add (de_mul (de_ix (dc_of (de_var 0)) (de_mod (de_var 1) (de_len T.z_len (dc_of (de_var 0))))) de_int) (de_var 1))))))⟩

theorem w_law_mixed (T : Txt K mg) (G_law_cell_at : Def P w K mg base "_law_cell_at" ["_law_script", "_law_k"] 4 2 m_law_cell_at) : Def P w K mg base "_law_mixed" ["_law_script", "_law_k", "_law_many"] 5 3 m_law_mixed :=
  mkDef (N := N_law_mixed) g_law_mixed rfl 4 T.d_law_mixed sc_law_mixed rfl (fun _ _ _ _ _ _ us hl => match us, hl with | [_, _, _], _ => rfl) fun cdv A outer s H E f hr => ⟨[], _, by
    unfold g_law_mixed
    exact (dss_cons (ds_set 3 (hN := sc_law_mixed.nd) (he := (de_mod (de_mul (de_add (de_add (de_fn G_law_cell_at (hr.mono (by decide)) (da_cons (de_var 0) (da_cons (de_var 1) da_nil))) (de_mul de_int (de_var 1))) de_int) de_int) de_int))) (dss_one (ds_ret (de_mod (de_mod (de_add (de_add (de_mul (de_var 3) (de_var 3)) (de_mul de_int (de_var 3))) (de_var 1)) de_int) (de_var 2)))))⟩

theorem w_law_divisor (T : Txt K mg)  : Def P w K mg base "_law_divisor" ["_law_a", "_law_b"] 4 2 m_law_divisor :=
  mkDef (N := N_law_divisor) g_law_divisor rfl 3 T.d_law_divisor sc_law_divisor rfl (fun _ _ _ _ _ _ us hl => match us, hl with | [_, _], _ => rfl) fun cdv A outer s H E f hr => ⟨[], _, by
    unfold g_law_divisor
    exact (dss_cons (ds_set 0 (hN := sc_law_divisor.nd) (he := (de_abs T.z_abs (dc_of (de_var 0))))) (dss_cons (ds_set 1 (hN := sc_law_divisor.nd) (he := (de_abs T.z_abs (dc_of (de_var 1))))) (dss_cons (ds_while PassesOwn.never (dt_ne hr (de_var 1) de_int) (dss_cons (ds_set 2 (hN := sc_law_divisor.nd) (he := (de_mod (de_var 0) (de_var 1)))) (dss_cons (ds_set 0 (hN := sc_law_divisor.nd) (he := (de_var 1))) (dss_one (ds_set 1 (hN := sc_law_divisor.nd) (he := (de_var 2))))))) (dss_one (ds_ret (de_var 0))))))⟩

theorem w_law_frac (T : Txt K mg) (G_law_divisor : Def P w K mg base "_law_divisor" ["_law_a", "_law_b"] 4 2 m_law_divisor) : Def P w K mg base "_law_frac" ["_law_upper", "_law_lower"] 5 2 m_law_frac :=
  mkDef (N := N_law_frac) g_law_frac rfl 4 T.d_law_frac sc_law_frac rfl (fun _ _ _ _ _ _ us hl => match us, hl with | [_, _], _ => rfl) fun cdv A outer s H E f hr => ⟨[], _, by
    unfold g_law_frac
    exact (dss_cons (ds_set 2 (hN := sc_law_frac.nd) (he := (de_fn G_law_divisor (hr.mono (by decide)) (da_cons (de_var 0) (da_cons (de_var 1) da_nil))))) (dss_cons (ds_if (dt_lt (de_var 1) de_int) (dss_one (ds_set 2 (hN := sc_law_frac.nd) (he := (de_neg (de_var 2))))) dss_nil) (dss_one (ds_ret (de_tup (da_cons (de_div (de_var 0) (de_var 2)) (da_cons (de_div (de_var 1) (de_var 2)) da_nil)))))))⟩

theorem w_law_spread (T : Txt K mg) (G_law_mixed : Def P w K mg base "_law_mixed" ["_law_script", "_law_k", "_law_many"] 5 3 m_law_mixed) (G_law_frac : Def P w K mg base "_law_frac" ["_law_upper", "_law_lower"] 5 2 m_law_frac) : Def P w K mg base "_law_spread" ["_law_script", "_law_at", "_law_many"] 6 3 m_law_spread :=
  mkDef (N := N_law_spread) g_law_spread rfl 5 T.d_law_spread sc_law_spread rfl (fun _ _ _ _ _ _ us hl => match us, hl with | [_, _, _], _ => rfl) fun cdv A outer s H E f hr => ⟨[], _, by
    unfold g_law_spread
    exact (dss_cons (ds_new 3 (hN := sc_law_spread.nd) (he := df_dnew)) (dss_cons (ds_for PassesOwn.never rfl (di_range1 (by rfl) T.z_range (de_add de_int (de_fn G_law_mixed (hr.mono (by decide)) (da_cons (de_var 0) (da_cons (de_var 1) (da_cons de_int da_nil)))))) (dg_name (i := 4) (hN := sc_law_spread.nd)) (dss_cons (ds_set 5 (hN := sc_law_spread.nd) (he := (de_fn G_law_mixed (hr.mono (by decide)) (da_cons (de_var 0) (da_cons (de_add (de_add (de_var 1) de_int) (de_mul de_int (de_var 4))) (da_cons (de_var 2) da_nil)))))) (dss_one (ds_putD 3 (hu1 hr) (he := (de_add (de_add (de_get2 (hu1 hr) (dc_own 3) (de_var 5) de_int) de_int) (de_fn G_law_mixed (hr.mono (by decide)) (da_cons (de_var 0) (da_cons (de_add (de_add (de_var 1) de_int) (de_mul de_int (de_var 4))) (da_cons de_int da_nil)))))) (hk := (de_var 5)))))) (dss_cons (ds_set 6 (hN := sc_law_spread.nd) (he := (de_sumV T.z_sum rfl (dc_own 3)))) (dss_one (ds_ret (de_tupleOf T.z_tuple (dc_of (de_of (df_lc rfl sc_law_spread.nd (di_seq (de_sorted T.z_sorted (dc_of (de_of (df_list rfl (by rfl) T.z_list (dc_own 3)))))) (blkOk_by (own := [("_law_room", 5)]) (by kernel_rfl)) (fun _ _ _ _ _ => (dg_name (i := 5) (hN := sc_law_spread.nd))) (fun _ _ _ _ _ => dts_nil) (fun _ _ _ _ _ => (de_tup (da_cons (de_var 5) (da_cons (de_fn G_law_frac (hr.mono (by decide)) (da_cons (de_dix (hu1 hr) (dc_own 3) (de_var 5)) (da_cons (de_var 6) da_nil))) da_nil)))))))))))))⟩

theorem w_law_walk (T : Txt K mg) (G_law_mixed : Def P w K mg base "_law_mixed" ["_law_script", "_law_k", "_law_many"] 5 3 m_law_mixed) (G_law_spread : Def P w K mg base "_law_spread" ["_law_script", "_law_at", "_law_many"] 6 3 m_law_spread) : Def P w K mg base "_law_walk" ["_law_script", "_law_at"] 7 2 m_law_walk :=
  mkDef (N := N_law_walk) g_law_walk rfl 6 T.d_law_walk sc_law_walk rfl (fun _ _ _ _ _ _ us hl => match us, hl with | [_, _], _ => rfl) fun cdv A outer s H E f hr => ⟨[], _, by
    unfold g_law_walk
    exact (dss_cons (ds_set 2 (hN := sc_law_walk.nd) (he := (de_add de_int (de_fn G_law_mixed (hr.mono (by decide)) (da_cons (de_var 0) (da_cons (de_var 1) (da_cons de_int da_nil))))))) (dss_cons (ds_if (dt_eq hr (de_fn G_law_mixed (hr.mono (by decide)) (da_cons (de_var 0) (da_cons (de_add (de_var 1) de_int) (da_cons de_int da_nil)))) de_int) (dss_one (ds_set 2 (hN := sc_law_walk.nd) (he := de_int))) dss_nil) (dss_one (ds_ret (de_tupleOf T.z_tuple (dc_of (de_of (df_lc rfl sc_law_walk.nd (di_range1 (by rfl) T.z_range (de_var 2)) (blkOk_by (own := [("_law_k", 3)]) (by kernel_rfl)) (fun _ _ _ _ _ => (dg_name (i := 3) (hN := sc_law_walk.nd))) (fun _ _ _ _ _ => dts_nil) (fun _ _ _ _ _ => (de_fn G_law_spread (hr.mono (by decide)) (da_cons (de_var 0) (da_cons (de_add (de_add (de_var 1) de_int) (de_mul de_int (de_var 3))) (da_cons (de_var 2) da_nil)))))))))))))⟩

theorem w_law_add (T : Txt K mg) (G_law_frac : Def P w K mg base "_law_frac" ["_law_upper", "_law_lower"] 5 2 m_law_frac) : Def P w K mg base "_law_add" ["_law_a", "_law_b", "_law_many"] 6 3 m_law_add :=
  mkDef (N := N_law_add) g_law_add rfl 5 T.d_law_add sc_law_add rfl (fun _ _ _ _ _ _ us hl => match us, hl with | [_, _, _], _ => rfl) fun cdv A outer s H E f hr => ⟨[], _, by
    unfold g_law_add
    exact (dss_one (ds_ret (de_fn G_law_frac (hr.mono (by decide)) (da_cons (de_add (de_mul (de_mul (de_ix (dc_of (de_var 0)) de_int) (de_ix (dc_of (de_var 1)) de_int)) (de_ix (dc_of (de_var 2)) de_int)) (de_mul (de_mul (de_ix (dc_of (de_var 2)) de_int) (de_ix (dc_of (de_var 1)) de_int)) (de_ix (dc_of (de_var 0)) de_int))) (da_cons (de_mul (de_mul (de_ix (dc_of (de_var 0)) de_int) (de_ix (dc_of (de_var 1)) de_int)) (de_ix (dc_of (de_var 2)) de_int)) da_nil)))))⟩

theorem w_law_number_of (T : Txt K mg)  : Def P w K mg base "_law_number_of" ["_law_word"] 4 1 m_law_number_of :=
  mkDef (N := N_law_number_of) g_law_number_of rfl 3 T.d_law_number_of sc_law_number_of rfl (fun _ _ _ _ _ _ us hl => match us, hl with | [_], _ => rfl) fun cdv A outer s H E f hr => ⟨[], _, by
    unfold g_law_number_of
    exact (dss_cons (ds_if (dt_w (dw_or (dt_eq hr (de_var 0) de_str) (dw_or (dt_gt (de_len T.z_len (dc_of (de_var 0))) de_int) (dw_or1 (dt_w (dw_and (dt_eq hr (de_ix (dc_of (de_var 0)) de_int) de_str) (dw_and1 (dt_ne hr (de_var 0) de_str)))))))) (dss_one (ds_ret de_non)) dss_nil) (dss_cons (ds_set 1 (hN := sc_law_number_of.nd) (he := de_int)) (dss_cons (ds_for PassesOwn.never rfl (di_seq (de_var 0)) (dg_name (i := 2) (hN := sc_law_number_of.nd)) (dss_cons (ds_set 3 (hN := sc_law_number_of.nd) (he := (de_find de_str (dc_of (de_var 2))))) (dss_cons (ds_if (dt_lt (de_var 3) de_int) (dss_one (ds_ret de_non)) dss_nil) (dss_one (ds_set 1 (hN := sc_law_number_of.nd) (he := (de_add (de_mul de_int (de_var 1)) (de_var 3)))))))) (dss_one (ds_ret (de_var 1))))))⟩

theorem w_law_pair_of (T : Txt K mg) (G_law_number_of : Def P w K mg base "_law_number_of" ["_law_word"] 4 1 m_law_number_of) (G_law_divisor : Def P w K mg base "_law_divisor" ["_law_a", "_law_b"] 4 2 m_law_divisor) : Def P w K mg base "_law_pair_of" ["_law_word"] 5 1 m_law_pair_of :=
  mkDef (N := N_law_pair_of) g_law_pair_of rfl 4 T.d_law_pair_of sc_law_pair_of rfl (fun _ _ _ _ _ _ us hl => match us, hl with | [_], _ => rfl) fun cdv A outer s H E f hr => ⟨[], _, by
    unfold g_law_pair_of
    exact (dss_cons (ds_set 1 (hN := sc_law_pair_of.nd) (he := (de_find (de_var 0) (dc_of de_str)))) (dss_cons (ds_if (dt_lt (de_var 1) de_int) (dss_one (ds_ret de_non)) dss_nil) (dss_cons (ds_set 2 (hN := sc_law_pair_of.nd) (he := (de_sl (dc_of (de_var 0)) dp_no (dp_is (de_var 1))))) (dss_cons (ds_set 3 (hN := sc_law_pair_of.nd) (he := de_int)) (dss_cons (ds_set 4 (hN := sc_law_pair_of.nd) (he := (de_find (de_var 2) (dc_of de_str)))) (dss_cons (ds_if (dt_ge (de_var 4) de_int) (dss_cons (ds_set 3 (hN := sc_law_pair_of.nd) (he := (de_fn G_law_number_of (hr.mono (by decide)) (da_cons (de_sl (dc_of (de_var 2)) (dp_is (de_add (de_var 4) de_int)) dp_no) da_nil)))) (dss_cons (ds_set 2 (hN := sc_law_pair_of.nd) (he := (de_sl (dc_of (de_var 2)) dp_no (dp_is (de_var 4))))) (dss_one (ds_if (dt_w (dw_or (dt_is (de_var 3) de_non) (dw_or1 (dt_lt (de_var 3) de_int)))) (dss_one (ds_ret de_non)) dss_nil)))) dss_nil) (dss_cons (ds_set 5 (hN := sc_law_pair_of.nd) (he := (de_tup (da_cons (de_fn G_law_number_of (hr.mono (by decide)) (da_cons (de_sl (dc_of (de_var 0)) (dp_is (de_add (de_var 1) de_int)) dp_no) da_nil)) (da_cons (de_fn G_law_number_of (hr.mono (by decide)) (da_cons (de_var 2) da_nil)) da_nil))))) (dss_cons (ds_if (dt_w (dw_or (dt_is (de_ix (dc_of (de_var 5)) de_int) de_non) (dw_or (dt_is (de_ix (dc_of (de_var 5)) de_int) de_non) (dw_or (dt_eq hr (de_ix (dc_of (de_var 5)) de_int) de_int) (dw_or1 (dt_ne hr (de_fn G_law_divisor (hr.mono (by decide)) (da_cons (de_ix (dc_of (de_var 5)) de_int) (da_cons (de_var 3) da_nil))) de_int)))))) (dss_one (ds_ret de_non)) dss_nil) (dss_one (ds_ret (de_tup (da_cons (de_ix (dc_of (de_var 5)) de_int) (da_cons (de_tup (da_cons (de_ix (dc_of (de_var 5)) de_int) (da_cons (de_var 3) da_nil))) da_nil)))))))))))))⟩

theorem w_law_walk_of (T : Txt K mg) (G_law_pair_of : Def P w K mg base "_law_pair_of" ["_law_word"] 5 1 m_law_pair_of) (G_law_add : Def P w K mg base "_law_add" ["_law_a", "_law_b", "_law_many"] 6 3 m_law_add) : Def P w K mg base "_law_walk_of" ["_law_line"] 7 1 m_law_walk_of :=
  mkDef (N := N_law_walk_of) g_law_walk_of rfl 6 T.d_law_walk_of sc_law_walk_of rfl (fun _ _ _ _ _ _ us hl => match us, hl with | [_], _ => rfl) fun cdv A outer s H E f hr => ⟨[], _, by
    unfold g_law_walk_of
    exact (dss_cons (ds_set 1 (hN := sc_law_walk_of.nd) (he := (de_of (df_split (de_var 0) (dc_of de_str))))) (dss_cons (ds_new 2 (hN := sc_law_walk_of.nd) (he := (df_lst da_nil))) (dss_cons (ds_for PassesOwn.never rfl (di_seq (de_var 1)) (dg_name (i := 3) (hN := sc_law_walk_of.nd)) (dss_cons (ds_setLc 4 (hc := rfl) (hN := sc_law_walk_of.nd) (hi := (di_seq (de_of (df_split (de_var 3) (dc_of de_str))))) (ok := (blkOk_by (own := [("_law_word", 8)]) (by kernel_rfl))) (hg := (fun _ _ _ _ _ => (dg_name (i := 8) (hN := sc_law_walk_of.nd)))) (ht := (fun _ _ _ _ _ => dts_nil)) (he := (fun _ _ _ _ _ => (de_fn G_law_pair_of (hr.mono (by decide)) (da_cons (de_var 8) da_nil))))) (dss_cons (ds_if (dt_in hr de_non (dc_of (de_var 4))) (dss_one (ds_ret de_non)) dss_nil) (dss_cons (ds_setLc 5 (hc := rfl) (hN := sc_law_walk_of.nd) (hi := (di_seq (de_var 4))) (ok := (blkOk_by (own := [("_law_pair", 7)]) (by kernel_rfl))) (hg := (fun _ _ _ _ _ => (dg_name (i := 7) (hN := sc_law_walk_of.nd)))) (ht := (fun _ _ _ _ _ => dts_nil)) (he := (fun _ _ _ _ _ => (de_ix (dc_of (de_var 7)) de_int)))) (dss_cons (ds_if (dt_w (dw_or (dt_ne hr (de_var 5) (de_sortedSet T.z_sorted T.z_set rfl (dc_of (de_var 5)))) (dw_or1 (dt_ge (de_ix (dc_of (de_var 5)) (de_neg de_int)) (de_len T.z_len (dc_of (de_var 1))))))) (dss_one (ds_ret de_non)) dss_nil) (dss_cons (ds_set 6 (hN := sc_law_walk_of.nd) (he := (de_tup (da_cons de_int (da_cons de_int da_nil))))) (dss_cons (ds_for PassesOwn.never rfl (di_seq (de_var 4)) (dg_name (i := 7) (hN := sc_law_walk_of.nd)) (dss_one (ds_set 6 (hN := sc_law_walk_of.nd) (he := (de_fn G_law_add (hr.mono (by decide)) (da_cons (de_var 6) (da_cons (de_ix (dc_of (de_var 7)) de_int) (da_cons (de_tup (da_cons de_int (da_cons de_int da_nil))) da_nil)))))))) (dss_cons (ds_if (dt_ne hr (de_var 6) (de_tup (da_cons de_int (da_cons de_int da_nil)))) (dss_one (ds_ret de_non)) dss_nil) (dss_one (ds_app 2 (he := (de_tupleOf T.z_tuple (dc_of (de_var 4)))))))))))))) (dss_cons (ds_if (dt_gt (de_len T.z_len (dc_own 2)) de_int) (dss_one (ds_ret de_non)) dss_nil) (dss_one (ds_ret (de_tupleOf T.z_tuple (dc_own 2))))))))⟩

theorem w_law_written (T : Txt K mg)  : Def P w K mg base "_law_written" ["_law_walk_here"] 4 1 m_law_written :=
  mkDef (N := N_law_written) g_law_written rfl 3 T.d_law_written sc_law_written rfl (fun _ _ _ _ _ _ us hl => match us, hl with | [_], _ => rfl) fun cdv A outer s H E f hr => ⟨[], _, by
    unfold g_law_written
    exact (dss_cons (ds_new 1 (hN := sc_law_written.nd) (he := (df_lst da_nil))) (dss_cons (ds_for PassesOwn.never rfl (di_seq (de_var 0)) (dg_name (i := 2) (hN := sc_law_written.nd)) (dss_cons (ds_new 3 (hN := sc_law_written.nd) (he := (df_lst da_nil))) (dss_cons (ds_for PassesOwn.never rfl (di_seq (de_var 2)) (dg_tup rfl (dgs_cons (dg_name (i := 4) (hN := sc_law_written.nd)) (dgs_cons (dg_name (i := 5) (hN := sc_law_written.nd)) dgs_nil))) (dss_one (ds_app 3 (he := (de_add (de_add (de_ix (dc_of (de_of (df_lst (da_cons (de_add (de_add (de_strOf T.z_str (dc_of (de_ix (dc_of (de_var 5)) de_int))) de_str) (de_strOf T.z_str (dc_of (de_ix (dc_of (de_var 5)) de_int)))) (da_cons (de_strOf T.z_str (dc_of (de_ix (dc_of (de_var 5)) de_int))) da_nil))))) (de_intOf T.z_int (dc_of (de_eq hr (de_ix (dc_of (de_var 5)) de_int) de_int)))) de_str) (de_strOf T.z_str (dc_of (de_var 4)))))))) (dss_freeze [1] (dss_one (ds_app 1 (he := (de_join de_str (dc_of (de_var 3)))))))))) (dss_freeze [] (dss_one (ds_ret (de_join de_str (dc_of (de_var 1))))))))⟩

theorem w_law_spoilt (T : Txt K mg)  : Def P w K mg base "_law_spoilt" ["_law_line", "_law_way", "_law_cell"] 4 3 m_law_spoilt :=
  mkDef (N := N_law_spoilt) g_law_spoilt rfl 3 T.d_law_spoilt sc_law_spoilt rfl (fun _ _ _ _ _ _ us hl => match us, hl with | [_, _, _], _ => rfl) fun cdv A outer s H E f hr => ⟨[], _, by
    unfold g_law_spoilt
    exact (dss_cons (ds_set 3 (hN := sc_law_spoilt.nd) (he := (de_mod (de_var 2) (de_add (de_len T.z_len (dc_of (de_var 0))) de_int)))) (dss_cons (ds_if (dt_lt (de_var 1) de_int) (dss_one (ds_ret (de_add (de_add (de_sl (dc_of (de_var 0)) dp_no (dp_is (de_var 3))) (de_ix (dc_of (de_of (df_lst (da_cons de_str (da_cons de_str (da_cons de_str (da_cons de_str (da_cons de_str (da_cons de_str (da_cons de_str (da_cons de_str (da_cons de_str (da_cons de_str da_nil))))))))))))) (de_mod (de_div (de_var 2) de_int) de_int))) (de_sl (dc_of (de_var 0)) (dp_is (de_var 3)) dp_no)))) dss_nil) (dss_cons (ds_if (dt_lt (de_var 1) de_int) (dss_one (ds_ret (de_add (de_sl (dc_of (de_var 0)) dp_no (dp_is (de_var 3))) (de_sl (dc_of (de_var 0)) (dp_is (de_add (de_var 3) de_int)) dp_no)))) dss_nil) (dss_cons (ds_new 4 (hN := sc_law_spoilt.nd) (he := (df_split (de_var 0) (dc_of de_str)))) (dss_cons (ds_set 5 (hN := sc_law_spoilt.nd) (he := (de_of (df_lst (da_cons de_str (da_cons de_str (da_cons de_str (da_cons de_str (da_cons de_str (da_cons de_str (da_cons de_str (da_cons de_str (da_cons de_str (da_cons de_str (da_cons de_str (da_cons de_str da_nil)))))))))))))))) (dss_cons (ds_putL 4 (he := (de_ix (dc_of (de_var 5)) (de_mod (de_var 2) de_int))) (hk := (de_mod (de_div (de_var 2) de_int) (de_len T.z_len (dc_own 4))))) (dss_freeze [] (dss_one (ds_ret (de_join de_str (dc_of (de_var 4))))))))))))⟩

theorem w_law_refused (T : Txt K mg) (G_read : DefX P w K mg base "read" ["text"] 10 1 m_c_read) : Def P w K mg base "_law_refused" ["_law_line"] 11 1 m_c_law_refused :=
  mkDef (N := N_law_refused) g_c_law_refused rfl 10 T.d_law_refused sc_law_refused rfl (fun _ _ _ _ _ _ us hl => match us, hl with | [_], _ => rfl) fun cdv A outer s H E f hr => ⟨[], _, by
    unfold g_c_law_refused
    exact (dss_cons (ds_set 1 (hN := sc_law_refused.nd) (he := de_int)) (dss_cons (ds_tryM T.xx (db_call G_read (hr.mono (by decide)) (fun _ _ => (da_cons (de_var 0) da_nil))) (dhs_cons T.xx (fun _ _ _ => (dss_one (ds_set 1 (hN := sc_law_refused.nd) (he := (de_add (de_var 1) de_int))))) dhs_nil)) (dss_cons (ds_tryE T.xx 2 sc_law_refused.nd (db_call G_read (hr.mono (by decide)) (fun _ _ => (da_cons (de_var 0) da_nil))) (fun c hc a oe pn hz hv => (dsz_setC 3 (hN := sc_law_refused.nd) (he := (dez_isT T.xx hc hz hv T.z_isinstance (pnm_cons T.xx (pnm_cons T.xx (pnm_cons T.xx (pnm_cons T.xx (pnm_cons T.xx (pnm_cons T.xx (pnm_cons T.xx pnm_nil))))))))) (hr := (dsz_set 1 (hN := sc_law_refused.nd) (he := (dez_add (dez_of (de_var 1)) (dez_int T.z_int (dez_and (dez_isV T.xx hc hz hv T.z_isinstance T.z_ValueError) (dez_one (dez_of (de_not (de_var 3))))))))))))) (dss_one (ds_ret (de_eq hr (de_var 1) de_int))))))⟩

theorem w_law (T : Txt K mg) (G_law_mixed : Def P w K mg base "_law_mixed" ["_law_script", "_law_k", "_law_many"] 5 3 m_law_mixed) (G_law_spoilt : Def P w K mg base "_law_spoilt" ["_law_line", "_law_way", "_law_cell"] 4 3 m_law_spoilt) (G_law_walk_of : Def P w K mg base "_law_walk_of" ["_law_line"] 7 1 m_law_walk_of) (G_law_refused : Def P w K mg base "_law_refused" ["_law_line"] 11 1 m_c_law_refused) (G_law_written : Def P w K mg base "_law_written" ["_law_walk_here"] 4 1 m_law_written) (G_read : DefX P w K mg base "read" ["text"] 10 1 m_c_read) (G_law_walk : Def P w K mg base "_law_walk" ["_law_script", "_law_at"] 7 2 m_law_walk) : Def P w K mg base "law" ["_law_script"] 12 1 m_law :=
  mkDef (N := N_law) g_law rfl 11 T.d_law sc_law rfl (fun _ _ _ _ _ _ us hl => match us, hl with | [_], _ => rfl) fun cdv A outer s H E f hr => ⟨[], _, by
    unfold g_law
    exact (dss_cons (ds_set 1 (hN := sc_law.nd) (he := (de_fn G_law_mixed (hr.mono (by decide)) (da_cons (de_var 0) (da_cons de_int (da_cons de_int da_nil)))))) (dss_cons (ds_set 2 (hN := sc_law.nd) (he := (de_fn G_law_mixed (hr.mono (by decide)) (da_cons (de_var 0) (da_cons de_int (da_cons (de_pow de_int de_int) da_nil)))))) (dss_cons (ds_if (dt_eq hr (de_var 1) de_int) (dss_one (ds_ret (de_fn G_law_refused (hr.mono (by decide)) (da_cons (de_ix (dc_of (de_of (df_lst (da_cons de_non (da_cons de_int (da_cons (de_of (df_lst (da_cons de_str da_nil))) (da_cons (de_tup (da_cons (de_tup (da_cons (de_tup (da_cons de_int (da_cons (de_tup (da_cons de_int (da_cons de_int da_nil))) da_nil))) da_nil)) da_nil)) (da_cons de_bl da_nil)))))))) (de_mod (de_var 2) de_int)) da_nil)))) dss_nil) (dss_cons (ds_set 3 (hN := sc_law.nd) (he := (de_fn G_law_spoilt (hr.mono (by decide)) (da_cons (de_fn G_law_written (hr.mono (by decide)) (da_cons (de_fn G_law_walk (hr.mono (by decide)) (da_cons (de_var 0) (da_cons de_int da_nil))) da_nil)) (da_cons (de_var 1) (da_cons (de_var 2) da_nil)))))) (dss_cons (ds_set 4 (hN := sc_law.nd) (he := (de_fn G_law_walk_of (hr.mono (by decide)) (da_cons (de_var 3) da_nil)))) (dss_cons (ds_if (dt_is (de_var 4) de_non) (dss_one (ds_ret (de_fn G_law_refused (hr.mono (by decide)) (da_cons (de_var 3) da_nil)))) dss_nil) (dss_one (ds_ret (de_eq hr (de_fnX G_read passQ (hr.mono (by decide)) (da_cons (de_var 3) da_nil)) (de_var 4))))))))))⟩

end
end LW
end

section
set_option Elab.async false
set_option linter.all false
set_option maxRecDepth 100000
set_option maxHeartbeats 0
namespace LW
open PySem PySem.Spec PyProof.Rows L2 DL

/-! ### the head -/
def dd_divisor : He.DefD := ⟨("divisor", none), "divisor", "divisor", defArgs s_divisor, defBody s_divisor, defScope s_divisor, [], []⟩
def dd_frac : He.DefD := ⟨("frac", none), "frac", "frac", defArgs s_frac, defBody s_frac, defScope s_frac, [], []⟩
def dd_plus : He.DefD := ⟨("plus", none), "plus", "plus", defArgs s_plus, defBody s_plus, defScope s_plus, [], []⟩
def dd_summed : He.DefD := ⟨("summed", none), "summed", "summed", defArgs s_summed, defBody s_summed, defScope s_summed, [], []⟩
def dd_is_whole : He.DefD := ⟨("is_whole", none), "is_whole", "is_whole", defArgs s_is_whole, defBody s_is_whole, defScope s_is_whole, [], []⟩
def dd_is_fraction : He.DefD := ⟨("is_fraction", none), "is_fraction", "is_fraction", defArgs s_is_fraction, defBody s_is_fraction, defScope s_is_fraction, [], []⟩
def dd_is_spread : He.DefD := ⟨("is_spread", none), "is_spread", "is_spread", defArgs s_is_spread, defBody s_is_spread, defScope s_is_spread, [], []⟩
def dd_is_walk : He.DefD := ⟨("is_walk", none), "is_walk", "is_walk", defArgs s_is_walk, defBody s_is_walk, defScope s_is_walk, [], []⟩
def dd_number_of : He.DefD := ⟨("number_of", none), "number_of", "number_of", defArgs s_number_of, defBody s_number_of, defScope s_number_of, [], []⟩
def dd_share_of : He.DefD := ⟨("share_of", none), "share_of", "share_of", defArgs s_share_of, defBody s_share_of, defScope s_share_of, [], []⟩
def dd_pair_of : He.DefD := ⟨("pair_of", none), "pair_of", "pair_of", defArgs s_pair_of, defBody s_pair_of, defScope s_pair_of, [], []⟩
def dd_read : He.DefD := ⟨("read", none), "read", "read", defArgs s_read, defBody s_read, defScope s_read, [], []⟩
def dd_law_cell_at : He.DefD := ⟨("_law_cell_at", none), "_law_cell_at", "_law_cell_at", defArgs s_law_cell_at, defBody s_law_cell_at, defScope s_law_cell_at, [], []⟩
def dd_law_mixed : He.DefD := ⟨("_law_mixed", none), "_law_mixed", "_law_mixed", defArgs s_law_mixed, defBody s_law_mixed, defScope s_law_mixed, [], []⟩
def dd_law_divisor : He.DefD := ⟨("_law_divisor", none), "_law_divisor", "_law_divisor", defArgs s_law_divisor, defBody s_law_divisor, defScope s_law_divisor, [], []⟩
def dd_law_frac : He.DefD := ⟨("_law_frac", none), "_law_frac", "_law_frac", defArgs s_law_frac, defBody s_law_frac, defScope s_law_frac, [], []⟩
def dd_law_spread : He.DefD := ⟨("_law_spread", none), "_law_spread", "_law_spread", defArgs s_law_spread, defBody s_law_spread, defScope s_law_spread, [], []⟩
def dd_law_walk : He.DefD := ⟨("_law_walk", none), "_law_walk", "_law_walk", defArgs s_law_walk, defBody s_law_walk, defScope s_law_walk, [], []⟩
def dd_law_add : He.DefD := ⟨("_law_add", none), "_law_add", "_law_add", defArgs s_law_add, defBody s_law_add, defScope s_law_add, [], []⟩
def dd_law_number_of : He.DefD := ⟨("_law_number_of", none), "_law_number_of", "_law_number_of", defArgs s_law_number_of, defBody s_law_number_of, defScope s_law_number_of, [], []⟩
def dd_law_pair_of : He.DefD := ⟨("_law_pair_of", none), "_law_pair_of", "_law_pair_of", defArgs s_law_pair_of, defBody s_law_pair_of, defScope s_law_pair_of, [], []⟩
def dd_law_walk_of : He.DefD := ⟨("_law_walk_of", none), "_law_walk_of", "_law_walk_of", defArgs s_law_walk_of, defBody s_law_walk_of, defScope s_law_walk_of, [], []⟩
def dd_law_written : He.DefD := ⟨("_law_written", none), "_law_written", "_law_written", defArgs s_law_written, defBody s_law_written, defScope s_law_written, [], []⟩
def dd_law_spoilt : He.DefD := ⟨("_law_spoilt", none), "_law_spoilt", "_law_spoilt", defArgs s_law_spoilt, defBody s_law_spoilt, defScope s_law_spoilt, [], []⟩
def dd_law_refused : He.DefD := ⟨("_law_refused", none), "_law_refused", "_law_refused", defArgs s_law_refused, defBody s_law_refused, defScope s_law_refused, [], []⟩
def dd_law : He.DefD := ⟨("law", none), "law", "law", defArgs s_law, defBody s_law, defScope s_law, [], []⟩
def fns : List He.DefD := [dd_divisor, dd_frac, dd_plus, dd_summed, dd_is_whole, dd_is_fraction, dd_is_spread, dd_is_walk, dd_number_of, dd_share_of, dd_pair_of, dd_read, dd_law_cell_at, dd_law_mixed, dd_law_divisor, dd_law_frac, dd_law_spread, dd_law_walk, dd_law_add, dd_law_number_of, dd_law_pair_of, dd_law_walk_of, dd_law_written, dd_law_spoilt, dd_law_refused, dd_law]
def fas : List He.Fa := [.glo "divisor", .glo "frac", .glo "plus", .glo "summed", .glo "is_whole", .glo "is_fraction", .glo "is_spread", .glo "is_walk", .glo "number_of", .glo "share_of", .glo "pair_of", .glo "read", .glo "_law_cell_at", .glo "_law_mixed", .glo "_law_divisor", .glo "_law_frac", .glo "_law_spread", .glo "_law_walk", .glo "_law_add", .glo "_law_number_of", .glo "_law_pair_of", .glo "_law_walk_of", .glo "_law_written", .glo "_law_spoilt", .glo "_law_refused", .glo "law", .free "abs", .free "isinstance", .free "int", .free "bool", .free "tuple", .free "len", .free "all", .free "str", .free "range", .free "sum", .free "sorted", .free "list", .free "set", .free "ValueError", .glo "NOUGHT", .glo "ONE", .int "ROOMS" 8, .int "FIGURES" 30]
def exB (K : PySem.W.Frag) : Bool := excAllB K ["ChanceError", "NoWalk", "NoRooms", "NoMarks", "NoChoice", "NoPicks", "NoCosts", "NoBegin", "NoText"] && (He.tupB K "NOUGHT" [.int 0, .int 1] && He.tupB K "ONE" [.int 1, .int 1])
abbrev Rw : PySem.W.OpenRow := PySem.W.OpenLaw.row PySem.Challenge.rw_lotwander_k19_texts_refused
abbrev hk : PySem.W.Hook := He.hookX 4 fas fns [] [] exB
def ob (s : PySem.W.SharedT) : He.AlX := He.obsX 4 fas fns [] [] exB (HandSHeadRun.getT s)
theorem ob_eq (s : PySem.W.SharedT) : ob s = hk.obs s.abs := He.obsX_eq (HandSHeadRun.getT_eq s)
def loose0 : List PySem.Str := ["ChanceError", "NoWalk", "NoRooms", "NoMarks", "NoChoice", "NoPicks", "NoCosts", "NoBegin", "NoText", "NOUGHT", "ONE", "divisor", "frac", "plus", "summed", "is_whole", "is_fraction", "ROOMS", "is_spread", "is_walk", "FIGURES", "number_of", "share_of", "pair_of", "read"]
def loose1 : List PySem.Str := ["_law_cell_at", "_law_mixed", "_law_divisor", "_law_frac", "_law_spread", "_law_walk", "_law_add", "_law_number_of", "_law_pair_of", "_law_walk_of", "_law_written", "_law_spoilt", "_law_refused"]
def loose : List PySem.Str := loose0 ++ loose1
theorem top_run (w : World) : HandSHeadRun.RunEq Rw (PySem.W.view Rw.prog [43]) hk ob 9000 loose w := by
  intro os
  kernel_rfl

section
variable {P : Program} {w : World} {K : PySem.W.Frag} {h : Heap} {mg : Str → Option Value}
theorem txt_mk (X : K.In h) (G : h.Ns mainGlobals mg) (c : He.SaysX fas fns [] [] exB w h K) : Txt K mg := by
  have cd := c.t.d
  have ex : (excAllB K ["ChanceError", "NoWalk", "NoRooms", "NoMarks", "NoChoice", "NoPicks", "NoCosts", "NoBegin", "NoText"] && (He.tupB K "NOUGHT" [.int 0, .int 1] && He.tupB K "ONE" [.int 1, .int 1])) = true := c.more
  obtain ⟨exx, ex⟩ := He.ba ex
  obtain ⟨ex, e1⟩ := He.ba ex
  have e0 := ex
  exact {
    z_abs := He.free_ok X G (cd.fact 26 (f := .free "abs") rfl),
    z_isinstance := He.free_ok X G (cd.fact 27 (f := .free "isinstance") rfl),
    z_int := He.free_ok X G (cd.fact 28 (f := .free "int") rfl),
    z_bool := He.free_ok X G (cd.fact 29 (f := .free "bool") rfl),
    z_tuple := He.free_ok X G (cd.fact 30 (f := .free "tuple") rfl),
    z_len := He.free_ok X G (cd.fact 31 (f := .free "len") rfl),
    z_all := He.free_ok X G (cd.fact 32 (f := .free "all") rfl),
    z_str := He.free_ok X G (cd.fact 33 (f := .free "str") rfl),
    z_range := He.free_ok X G (cd.fact 34 (f := .free "range") rfl),
    z_sum := He.free_ok X G (cd.fact 35 (f := .free "sum") rfl),
    z_sorted := He.free_ok X G (cd.fact 36 (f := .free "sorted") rfl),
    z_list := He.free_ok X G (cd.fact 37 (f := .free "list") rfl),
    z_set := He.free_ok X G (cd.fact 38 (f := .free "set") rfl),
    z_ValueError := He.free_ok X G (cd.fact 39 (f := .free "ValueError") rfl),
    c_NOUGHT := cst_two (He.glo_ok X G (cd.fact 40 (f := .glo "NOUGHT") rfl)) e0,
    c_ONE := cst_two (He.glo_ok X G (cd.fact 41 (f := .glo "ONE") rfl)) e1,
    c_ROOMS := cst_int (He.int_ok X G (cd.fact 42 (f := .int "ROOMS" 8) rfl)),
    c_FIGURES := cst_int (He.int_ok X G (cd.fact 43 (f := .int "FIGURES" 30) rfl)),
    d_divisor := ⟨_, (cd.def_ 0 (d := dd_divisor) rfl).choose, He.glo_ok X G (cd.fact 0 (f := .glo "divisor") rfl), (cd.def_ 0 (d := dd_divisor) rfl).choose_spec⟩,
    d_frac := ⟨_, (cd.def_ 1 (d := dd_frac) rfl).choose, He.glo_ok X G (cd.fact 1 (f := .glo "frac") rfl), (cd.def_ 1 (d := dd_frac) rfl).choose_spec⟩,
    d_plus := ⟨_, (cd.def_ 2 (d := dd_plus) rfl).choose, He.glo_ok X G (cd.fact 2 (f := .glo "plus") rfl), (cd.def_ 2 (d := dd_plus) rfl).choose_spec⟩,
    d_summed := ⟨_, (cd.def_ 3 (d := dd_summed) rfl).choose, He.glo_ok X G (cd.fact 3 (f := .glo "summed") rfl), (cd.def_ 3 (d := dd_summed) rfl).choose_spec⟩,
    d_is_whole := ⟨_, (cd.def_ 4 (d := dd_is_whole) rfl).choose, He.glo_ok X G (cd.fact 4 (f := .glo "is_whole") rfl), (cd.def_ 4 (d := dd_is_whole) rfl).choose_spec⟩,
    d_is_fraction := ⟨_, (cd.def_ 5 (d := dd_is_fraction) rfl).choose, He.glo_ok X G (cd.fact 5 (f := .glo "is_fraction") rfl), (cd.def_ 5 (d := dd_is_fraction) rfl).choose_spec⟩,
    d_is_spread := ⟨_, (cd.def_ 6 (d := dd_is_spread) rfl).choose, He.glo_ok X G (cd.fact 6 (f := .glo "is_spread") rfl), (cd.def_ 6 (d := dd_is_spread) rfl).choose_spec⟩,
    d_is_walk := ⟨_, (cd.def_ 7 (d := dd_is_walk) rfl).choose, He.glo_ok X G (cd.fact 7 (f := .glo "is_walk") rfl), (cd.def_ 7 (d := dd_is_walk) rfl).choose_spec⟩,
    d_number_of := ⟨_, (cd.def_ 8 (d := dd_number_of) rfl).choose, He.glo_ok X G (cd.fact 8 (f := .glo "number_of") rfl), (cd.def_ 8 (d := dd_number_of) rfl).choose_spec⟩,
    d_share_of := ⟨_, (cd.def_ 9 (d := dd_share_of) rfl).choose, He.glo_ok X G (cd.fact 9 (f := .glo "share_of") rfl), (cd.def_ 9 (d := dd_share_of) rfl).choose_spec⟩,
    d_pair_of := ⟨_, (cd.def_ 10 (d := dd_pair_of) rfl).choose, He.glo_ok X G (cd.fact 10 (f := .glo "pair_of") rfl), (cd.def_ 10 (d := dd_pair_of) rfl).choose_spec⟩,
    d_read := ⟨_, (cd.def_ 11 (d := dd_read) rfl).choose, He.glo_ok X G (cd.fact 11 (f := .glo "read") rfl), (cd.def_ 11 (d := dd_read) rfl).choose_spec⟩,
    d_law_cell_at := ⟨_, (cd.def_ 12 (d := dd_law_cell_at) rfl).choose, He.glo_ok X G (cd.fact 12 (f := .glo "_law_cell_at") rfl), (cd.def_ 12 (d := dd_law_cell_at) rfl).choose_spec⟩,
    d_law_mixed := ⟨_, (cd.def_ 13 (d := dd_law_mixed) rfl).choose, He.glo_ok X G (cd.fact 13 (f := .glo "_law_mixed") rfl), (cd.def_ 13 (d := dd_law_mixed) rfl).choose_spec⟩,
    d_law_divisor := ⟨_, (cd.def_ 14 (d := dd_law_divisor) rfl).choose, He.glo_ok X G (cd.fact 14 (f := .glo "_law_divisor") rfl), (cd.def_ 14 (d := dd_law_divisor) rfl).choose_spec⟩,
    d_law_frac := ⟨_, (cd.def_ 15 (d := dd_law_frac) rfl).choose, He.glo_ok X G (cd.fact 15 (f := .glo "_law_frac") rfl), (cd.def_ 15 (d := dd_law_frac) rfl).choose_spec⟩,
    d_law_spread := ⟨_, (cd.def_ 16 (d := dd_law_spread) rfl).choose, He.glo_ok X G (cd.fact 16 (f := .glo "_law_spread") rfl), (cd.def_ 16 (d := dd_law_spread) rfl).choose_spec⟩,
    d_law_walk := ⟨_, (cd.def_ 17 (d := dd_law_walk) rfl).choose, He.glo_ok X G (cd.fact 17 (f := .glo "_law_walk") rfl), (cd.def_ 17 (d := dd_law_walk) rfl).choose_spec⟩,
    d_law_add := ⟨_, (cd.def_ 18 (d := dd_law_add) rfl).choose, He.glo_ok X G (cd.fact 18 (f := .glo "_law_add") rfl), (cd.def_ 18 (d := dd_law_add) rfl).choose_spec⟩,
    d_law_number_of := ⟨_, (cd.def_ 19 (d := dd_law_number_of) rfl).choose, He.glo_ok X G (cd.fact 19 (f := .glo "_law_number_of") rfl), (cd.def_ 19 (d := dd_law_number_of) rfl).choose_spec⟩,
    d_law_pair_of := ⟨_, (cd.def_ 20 (d := dd_law_pair_of) rfl).choose, He.glo_ok X G (cd.fact 20 (f := .glo "_law_pair_of") rfl), (cd.def_ 20 (d := dd_law_pair_of) rfl).choose_spec⟩,
    d_law_walk_of := ⟨_, (cd.def_ 21 (d := dd_law_walk_of) rfl).choose, He.glo_ok X G (cd.fact 21 (f := .glo "_law_walk_of") rfl), (cd.def_ 21 (d := dd_law_walk_of) rfl).choose_spec⟩,
    d_law_written := ⟨_, (cd.def_ 22 (d := dd_law_written) rfl).choose, He.glo_ok X G (cd.fact 22 (f := .glo "_law_written") rfl), (cd.def_ 22 (d := dd_law_written) rfl).choose_spec⟩,
    d_law_spoilt := ⟨_, (cd.def_ 23 (d := dd_law_spoilt) rfl).choose, He.glo_ok X G (cd.fact 23 (f := .glo "_law_spoilt") rfl), (cd.def_ 23 (d := dd_law_spoilt) rfl).choose_spec⟩,
    d_law_refused := ⟨_, (cd.def_ 24 (d := dd_law_refused) rfl).choose, He.glo_ok X G (cd.fact 24 (f := .glo "_law_refused") rfl), (cd.def_ 24 (d := dd_law_refused) rfl).choose_spec⟩,
    d_law := ⟨_, (cd.def_ 25 (d := dd_law) rfl).choose, He.glo_ok X G (cd.fact 25 (f := .glo "law") rfl), (cd.def_ 25 (d := dd_law) rfl).choose_spec⟩,
    xx := excAll_of X G exx }
theorem all_walks {base : Heap} (T : Txt K mg) : Def P w K mg base "law" ["_law_script"] 12 1 m_law := by
  have G_divisor := w_divisor (P := P) (w := w) (base := base) T 
  have G_frac := w_frac (P := P) (w := w) (base := base) T G_divisor
  have G_plus := w_plus (P := P) (w := w) (base := base) T G_frac
  have G_summed := w_summed (P := P) (w := w) (base := base) T G_plus
  have G_is_whole := w_is_whole (P := P) (w := w) (base := base) T 
  have G_is_fraction := w_is_fraction (P := P) (w := w) (base := base) T G_is_whole G_divisor
  have G_is_spread := w_is_spread (P := P) (w := w) (base := base) T G_summed G_is_whole G_is_fraction
  have G_is_walk := w_is_walk (P := P) (w := w) (base := base) T G_is_spread
  have G_number_of := w_number_of (P := P) (w := w) (base := base) T 
  have G_share_of := w_share_of (P := P) (w := w) (base := base) T G_number_of
  have G_pair_of := w_pair_of (P := P) (w := w) (base := base) T G_number_of G_share_of
  have G_read := w_read (P := P) (w := w) (base := base) T G_is_walk G_pair_of
  have G_law_cell_at := w_law_cell_at (P := P) (w := w) (base := base) T 
  have G_law_mixed := w_law_mixed (P := P) (w := w) (base := base) T G_law_cell_at
  have G_law_divisor := w_law_divisor (P := P) (w := w) (base := base) T 
  have G_law_frac := w_law_frac (P := P) (w := w) (base := base) T G_law_divisor
  have G_law_spread := w_law_spread (P := P) (w := w) (base := base) T G_law_mixed G_law_frac
  have G_law_walk := w_law_walk (P := P) (w := w) (base := base) T G_law_mixed G_law_spread
  have G_law_add := w_law_add (P := P) (w := w) (base := base) T G_law_frac
  have G_law_number_of := w_law_number_of (P := P) (w := w) (base := base) T 
  have G_law_pair_of := w_law_pair_of (P := P) (w := w) (base := base) T G_law_number_of G_law_divisor
  have G_law_walk_of := w_law_walk_of (P := P) (w := w) (base := base) T G_law_pair_of G_law_add
  have G_law_written := w_law_written (P := P) (w := w) (base := base) T 
  have G_law_spoilt := w_law_spoilt (P := P) (w := w) (base := base) T 
  have G_law_refused := w_law_refused (P := P) (w := w) (base := base) T G_read
  have G_law := w_law (P := P) (w := w) (base := base) T G_law_mixed G_law_spoilt G_law_walk_of G_law_refused G_law_written G_read G_law_walk
  exact G_law
end
end LW
open PySem PySem.W PySem.Calls PyProof.Rows
theorem PySem.Challenge.cw_lotwander_k19_texts_refused_holds : PySem.Challenge.rw_lotwander_k19_texts_refused.Holds := by
  w_on; o_law
  refine HandSHeadRun.head_any (r := OpenLaw.row PySem.Challenge.rw_lotwander_k19_texts_refused) (q := view (OpenLaw.row PySem.Challenge.rw_lotwander_k19_texts_refused).prog [43]) (H := LW.hk) (ob := LW.ob) (M := 9000) (loose := LW.loose) (d := HandSHeadRun.topDef (OpenLaw.row PySem.Challenge.rw_lotwander_k19_texts_refused).prog 43) (kwd := []) LW.ob_eq
    (by kernel_rfl) (fun s => by kernel_rfl) LW.top_run (by kernel_rfl) (by kernel_rfl) (by kernel_rfl) (by rfl) (by first | assumption | decide +kernel) (by decide +kernel) ⟨rfl, rfl, rfl, rfl, rfl, by decide +kernel⟩ ?hw ?hc
  case hw => w_witness2
  case hc =>
    refine L2.walk_ofE (l := PySem.Challenge.rw_lotwander_k19_texts_refused) (n := 63) (k := 12) (x := "_law_script") (CX := L2.CX0) rfl (by decide) (by kernel_rfl) ⟨rfl, by decide, by decide⟩ ?F (fun _ _ _ _ z => z)
    intro w mg fa h Y G hmg0
    obtain ⟨K, KX, c⟩ := Y
    have hmg : mg ("law" : PySem.Str) = some (.ref fa) := by
      have e : (HandSHeadRun.topDef (OpenLaw.row PySem.Challenge.rw_lotwander_k19_texts_refused).prog 43).name = ("law" : PySem.Str) := by kernel_rfl
      rw [← e]
      exact hmg0
    exact DL.law_end (LW.txt_mk KX G c).d_law KX hmg (fun us hl => match us, hl with | [_], _ => rfl) (fun base _ _ => LW.all_walks (LW.txt_mk KX G c)) LW.pure_law
end
