import PyProof.Rows.All
import HandS.ForMost
import HandS.IsInst
import HandS.SortInts
import HandS.Flow
import HandS.Wide
import HandS.NoneIn
import HandS.TupAny
import HandS.Conv
import HandS.More
import HandS.SetFor
import HandS.TupMul
import HandS.SortOrd
import HandS.Zip
import HandS.TupSets
import PySem.Challenge.RW_everyhistory_k72_whole_calls_told_at_oth
set_option Elab.async false
set_option linter.all false
set_option maxRecDepth 100000
set_option maxHeartbeats 4000000
/-! DL1: data, stores, and what a piece of syntax does to them: values, the relation to the tracked heap, expressions. -/
namespace DL
open PySem PySem.Spec PyProof.Rows L2

/-- a value as data: tuples are data, lists and dicts are cells of a store; scr: a list that nobody writes -/
inductive DV where
  | non | bl (b : Bool) | int (i : Int) | str (x : Str) | tup (xs : List DV) | ref (l : Nat) | scr (xs : List DV)
  deriving Inhabited
/-- a cell: a list, a dict, a dict that has None among its keys, behind the others -/
inductive DO where
  | lst (xs : List DV) | dct (kvs : List (Key × DV)) | dcn (kvs : List (Key × DV)) (d : DV)
abbrev Sto := List DO
abbrev Env := List (Option DV)
/-- an expression: it leaves the names as they are -/
abbrev ME (α : Type) := Env → Sto → Option (α × Sto)
def ME.pure {α : Type} (a : α) : ME α := fun _ s => some (a, s)
def ME.bind {α β : Type} (m : ME α) (f : α → ME β) : ME β := fun e s => match m e s with
  | none => none
  | some (a, s') => f a e s'

/-- a list that nobody writes -/
def SqR (K : PySem.W.Frag) (H : Hp) (a : Addr) (xs : List V) : Prop :=
  (∃ o, H a = some (.frz o (.lst xs))) ∨
    ∃ (o : Obj) (its : Array Value) (n : Nat), K.lookup a = some o ∧ o.cls = .type "list" ∧ o.dict = none ∧ o.data = .seq its n ∧ its.size ≤ sizeLine ∧ Vals xs its.toList
theorem SqR.sql {K : PySem.W.Frag} {H : Hp} {a : Addr} {xs : List V} (h : SqR K H a xs) : SqL K H a xs := by
  rcases h with ⟨o, h⟩ | h
  · exact .inl (.inr ⟨o, h⟩)
  · exact .inr h
section rel
variable (K : PySem.W.Frag) (H : Hp) (μ : List Addr)
mutual
inductive RV : DV → V → Prop
  | non : RV .non .non
  | bl (b : Bool) : RV (.bl b) (.bl b)
  | int (i : Int) : RV (.int i) (.int i)
  | str (x : Str) : RV (.str x) (.str x)
  | tup {a : Addr} {ds : List DV} {vs : List V} : SqT K H a vs → vs.length ≤ sizeLine → RVs ds vs → RV (.tup ds) (.ref a)
  | ref {l : Nat} {a : Addr} : μ[l]? = some a → RV (.ref l) (.ref a)
  | scr {a : Addr} {ds : List DV} {vs : List V} : SqR K H a vs → vs.length ≤ sizeLine → RVs ds vs → RV (.scr ds) (.ref a)
inductive RVs : List DV → List V → Prop
  | nil : RVs [] []
  | cons {d : DV} {v : V} {ds : List DV} {vs : List V} : RV d v → RVs ds vs → RVs (d :: ds) (v :: vs)
end
/-- a dict's entries -/
inductive RKs : List (Key × DV) → List (Key × V) → Prop
  | nil : RKs [] []
  | cons {k : Key} {d : DV} {v : V} {ds : List (Key × DV)} {vs : List (Key × V)} : RV K H μ d v → RKs ds vs → RKs ((k, d) :: ds) ((k, v) :: vs)
/-- a dict with None among its keys, at a -/
def NDict (a : Addr) (vs : List (Key × V)) (v : V) : Heap → Prop := fun h => (a == sysModules) = false ∧ ∃ us u, KV vs us ∧ RelV v u ∧ ∀ (P : Program) (w : World), h.DictOf (noneKind P w) a (us.map (fun p => (some p.1, p.2)) ++ [(none, u)])
/-- a cell and what stands at its address -/
inductive RO : DO → Addr → Prop
  | lst {ds : List DV} {vs : List V} {a : Addr} : H a = some (.lst vs) → vs.length ≤ sizeLine → RVs K H μ ds vs → RO (.lst ds) a
  | dct {ds : List (Key × DV)} {vs : List (Key × V)} {a : Addr} : H a = some (.dK vs) → vs.length ≤ sizeLine → RKs K H μ ds vs → RO (.dct ds) a
  | dcn {ds : List (Key × DV)} {vs : List (Key × V)} {d : DV} {v : V} {a : Addr} : H a = some (.ext (NDict a vs v)) → RKs K H μ ds vs → RV K H μ d v → RO (.dcn ds d) a
/-- the store -/
structure RS (st : Sto) : Prop where
  len : μ.length = st.length
  nd : μ.Nodup
  cell : ∀ (l : Nat) (a : Addr) (o : DO), μ[l]? = some a → st[l]? = some o → RO K H μ o a
/-- the names -/
structure RE (e : Env) (σ : L2.St) : Prop where
  len : e.length = σ.length
  val : ∀ (i : Nat) (d : DV), e[i]? = some (some d) → ∃ v, σ[i]? = some (some v) ∧ RV K H μ d v
end rel
/-- what stays -/
structure Ext (H : Hp) (μ : List Addr) (H' : Hp) (μ' : List Addr) : Prop where
  pre : ∃ t, μ' = μ ++ t ∧ ∀ a ∈ t, H a = none
  tup : ∀ a xs, H a = some (.tup xs) → H' a = some (.tup xs)
  frz : ∀ a o u, H a = some (.frz o u) → H' a = some (.frz o u)
  oth : ∀ a o, a ∉ μ → H a = some o → H' a = some o
  trk : ∀ a, H' a = none → H a = none

section
variable {K : PySem.W.Frag} {H H1 H2 : Hp} {μ μ1 μ2 : List Addr} {st st' : Sto}
theorem Ext.refl : Ext H μ H μ := ⟨⟨[], by simp, by simp⟩, fun _ _ h => h, fun _ _ _ h => h, fun _ _ _ h => h, fun _ h => h⟩
theorem Ext.trans (a : Ext H μ H1 μ1) (b : Ext H1 μ1 H2 μ2) : Ext H μ H2 μ2 := by
  obtain ⟨t, rfl, ht⟩ := a.pre
  obtain ⟨u, rfl, hu⟩ := b.pre
  refine ⟨⟨t ++ u, by simp, fun x hx => ?_⟩, fun x xs h => b.tup _ _ (a.tup _ _ h), fun x o u h => b.frz _ _ _ (a.frz _ _ _ h), fun x o hx h => ?_, fun x h => a.trk x (b.trk x h)⟩
  · rcases List.mem_append.mp hx with hx | hx
    · exact ht x hx
    · exact a.trk x (hu x hx)
  · refine b.oth x o (fun hm => ?_) (a.oth x o hx h)
    rcases List.mem_append.mp hm with hm | hm
    · exact hx hm
    · rw [ht x hm] at h; cases h
theorem Ext.rd {a : Addr} {xs : List V} (x : Ext H μ H1 μ1) (h : Rd H a (.tup xs)) : Rd H1 a (.tup xs) := by
  rcases h with h | ⟨o, h⟩
  · exact .inl (x.tup _ _ h)
  · exact .inr ⟨o, x.frz _ _ _ h⟩
theorem Ext.sqt {a : Addr} {xs : List V} (x : Ext H μ H1 μ1) (h : SqT K H a xs) : SqT K H1 a xs := by
  rcases h with h | h
  · exact .inl (x.rd h)
  · exact .inr h
theorem Ext.sqr {a : Addr} {xs : List V} (x : Ext H μ H1 μ1) (h : SqR K H a xs) : SqR K H1 a xs := by
  rcases h with ⟨o, h⟩ | h
  · exact .inl ⟨o, x.frz _ _ _ h⟩
  · exact .inr h
theorem Ext.at {l : Nat} {a : Addr} (x : Ext H μ H1 μ1) (h : μ[l]? = some a) : μ1[l]? = some a := by
  obtain ⟨t, rfl, _⟩ := x.pre
  obtain ⟨h1, _⟩ := List.getElem?_eq_some_iff.mp h
  rw [List.getElem?_append_left h1]; exact h
mutual
theorem RV.ext (x : Ext H μ H1 μ1) : ∀ {d : DV} {v : V}, RV K H μ d v → RV K H1 μ1 d v
  | _, _, .non => .non
  | _, _, .bl b => .bl b
  | _, _, .int b => .int b
  | _, _, .str b => .str b
  | _, _, .tup s z r => .tup (x.sqt s) z (RVs.ext x r)
  | _, _, .ref h => .ref (x.at h)
  | _, _, .scr s z r => .scr (x.sqr s) z (RVs.ext x r)
theorem RVs.ext (x : Ext H μ H1 μ1) : ∀ {d : List DV} {v : List V}, RVs K H μ d v → RVs K H1 μ1 d v
  | _, _, .nil => .nil
  | _, _, .cons r s => .cons (RV.ext x r) (RVs.ext x s)
end
theorem RKs.ext (x : Ext H μ H1 μ1) : ∀ {d : List (Key × DV)} {v : List (Key × V)}, RKs K H μ d v → RKs K H1 μ1 d v
  | _, _, .nil => .nil
  | _, _, .cons r s => .cons (RV.ext x r) (RKs.ext x s)
theorem RVs.length : ∀ {ds : List DV} {vs : List V}, RVs K H μ ds vs → ds.length = vs.length
  | _, _, .nil => rfl
  | _, _, .cons _ t => by rw [List.length_cons, List.length_cons, RVs.length t]
theorem RVs.get : ∀ {ds : List DV} {vs : List V} {i : Nat} {d : DV}, RVs K H μ ds vs → ds[i]? = some d → ∃ v, vs[i]? = some v ∧ RV K H μ d v
  | _, _, _, _, .nil, e => by simp at e
  | _, _, 0, _, .cons r _, e => by simp at e; subst e; exact ⟨_, rfl, r⟩
  | _, _, i + 1, x, .cons _ t, e => by
    obtain ⟨u, h1, h2⟩ := RVs.get (i := i) (d := x) t (by simpa using e)
    exact ⟨u, by simpa using h1, h2⟩
theorem RVs.get' : ∀ {ds : List DV} {vs : List V} {i : Nat} {v : V}, RVs K H μ ds vs → vs[i]? = some v → ∃ d, ds[i]? = some d ∧ RV K H μ d v
  | _, _, _, _, .nil, e => by simp at e
  | _, _, 0, _, .cons r _, e => by simp at e; subst e; exact ⟨_, rfl, r⟩
  | _, _, i + 1, x, .cons _ t, e => by
    obtain ⟨u, h1, h2⟩ := RVs.get' (i := i) (v := x) t (by simpa using e)
    exact ⟨u, by simpa using h1, h2⟩
theorem RVs.append : ∀ {ds es : List DV} {vs ws : List V}, RVs K H μ ds vs → RVs K H μ es ws → RVs K H μ (ds ++ es) (vs ++ ws)
  | _, _, _, _, .nil, s => s
  | _, _, _, _, .cons r t, s => .cons r (RVs.append t s)
theorem RVs.take : ∀ {ds : List DV} {vs : List V} (n : Nat), RVs K H μ ds vs → RVs K H μ (ds.take n) (vs.take n)
  | _, _, 0, _ => .nil
  | _, _, _ + 1, .nil => .nil
  | _, _, n + 1, .cons r t => .cons r (RVs.take n t)
theorem RVs.drop : ∀ {ds : List DV} {vs : List V} (n : Nat), RVs K H μ ds vs → RVs K H μ (ds.drop n) (vs.drop n)
  | _, _, 0, r => r
  | _, _, _ + 1, .nil => .nil
  | _, _, n + 1, .cons _ t => RVs.drop n t
theorem RVs.set {d : DV} {v : V} (r : RV K H μ d v) : ∀ {ds : List DV} {vs : List V} (i : Nat), RVs K H μ ds vs → RVs K H μ (ds.set i d) (vs.set i v)
  | _, _, _, .nil => .nil
  | _, _, 0, .cons _ t => .cons r t
  | _, _, i + 1, .cons q t => .cons q (RVs.set r i t)
theorem RE.ext {e : Env} {σ : L2.St} (x : Ext H μ H1 μ1) (r : RE K H μ e σ) : RE K H1 μ1 e σ := ⟨r.len, fun i d h => by
  obtain ⟨v, h1, h2⟩ := r.val i d h
  exact ⟨v, h1, h2.ext x⟩⟩
theorem RE.set {e : Env} {σ : L2.St} {d : DV} {v : V} (i : Nat) (r : RE K H μ e σ) (q : RV K H μ d v) : RE K H μ (e.set i (some d)) (σ.set i (some v)) := ⟨by simp [r.len], fun j c h => by
  by_cases hj : i = j
  · subst hj
    have hl : i < e.length := by
      by_cases hl : i < e.length
      · exact hl
      · rw [List.getElem?_eq_none (by simp; omega)] at h; cases h
    rw [List.getElem?_set_self hl] at h
    cases h
    exact ⟨v, List.getElem?_set_self (by rw [← r.len]; exact hl), q⟩
  · rw [List.getElem?_set_ne hj] at h
    obtain ⟨w, h1, h2⟩ := r.val j c h
    exact ⟨w, by rw [List.getElem?_set_ne hj]; exact h1, h2⟩⟩
theorem RE.unset {e : Env} {σ : L2.St} (i : Nat) (r : RE K H μ e σ) : RE K H μ (e.set i none) (σ.set i none) := ⟨by simp [r.len], fun j c h => by
  by_cases hj : i = j
  · subst hj
    by_cases hl : i < e.length
    · rw [List.getElem?_set_self hl] at h; cases h
    · rw [List.getElem?_eq_none (by simp; omega)] at h; cases h
  · rw [List.getElem?_set_ne hj] at h
    obtain ⟨w, h1, h2⟩ := r.val j c h
    exact ⟨w, by rw [List.getElem?_set_ne hj]; exact h1, h2⟩⟩
/-- a tracked thing that is no cell stays: the store too, under what leaves the cells as they are -/
theorem RO.ext {o : DO} {a : Addr} (x : Ext H μ H1 μ1) (ha : ∀ u, H a = some u → H1 a = some u) (r : RO K H μ o a) : RO K H1 μ1 o a := by
  cases r with
  | lst h z r => exact .lst (ha _ h) z (r.ext x)
  | dct h z r => exact .dct (ha _ h) z (r.ext x)
  | dcn h r q => exact .dcn (ha _ h) (r.ext x) (q.ext x)
/-- what is tracked anew: p is new -/
theorem ext_new {p : Addr} {o : HO} (hp : H p = none) : Ext H μ (upd H p o) μ := by
  refine ⟨⟨[], by simp, by simp⟩, fun a xs h => ?_, fun a ob u h => ?_, fun a ob _ h => ?_, fun a h => ?_⟩
  · rw [upd_ne (ne_of_none h hp)]; exact h
  · rw [upd_ne (ne_of_none h hp)]; exact h
  · rw [upd_ne (ne_of_none h hp)]; exact h
  · by_cases e : a = p
    · subst e; rw [upd_same] at h; cases h
    · rw [upd_ne e] at h; exact h
theorem RS.trk (r : RS K H μ st) {a : Addr} (h : a ∈ μ) : H a ≠ none := by
  obtain ⟨i, hi⟩ := List.mem_iff_getElem?.mp h
  have hl : i < st.length := by rw [← r.len]; exact (List.getElem?_eq_some_iff.mp hi).1
  generalize eo : st[i] = o
  have := r.cell i a o hi (by rw [List.getElem?_eq_getElem hl, eo])
  cases this with
  | lst h _ _ => rw [h]; simp
  | dct h _ _ => rw [h]; simp
  | dcn h _ _ => rw [h]; simp
theorem RS.new {p : Addr} {o : HO} (hp : H p = none) (r : RS K H μ st) : RS K (upd H p o) μ st := ⟨r.len, r.nd, fun l a ob h1 h2 =>
  (r.cell l a ob h1 h2).ext (ext_new hp) fun u hu => by rw [upd_ne (ne_of_none hu hp)]; exact hu⟩
/-- the new thing becomes a cell -/
theorem ext_adopt {p : Addr} (hp : H p = none) (x : Ext H μ H1 μ) : Ext H μ H1 (μ ++ [p]) :=
  ⟨⟨[p], rfl, fun a h => by rw [List.mem_singleton.mp h]; exact hp⟩, x.tup, x.frz, x.oth, x.trk⟩
theorem ext_mu {p : Addr} (hp : H p = none) (x : Ext H μ H1 μ1) (h1 : H p = none) : Ext H μ H1 (μ1 ++ [p]) := by
  obtain ⟨t, rfl, ht⟩ := x.pre
  refine ⟨⟨t ++ [p], by simp, fun a h => ?_⟩, x.tup, x.frz, x.oth, x.trk⟩
  rcases List.mem_append.mp h with h | h
  · exact ht a h
  · rw [List.mem_singleton.mp h]; exact hp
/-- μ alone grows -/
theorem ext_more (t : List Addr) : ∀ {d : DV} {v : V}, RV K H μ d v → RV K H (μ ++ t) d v := fun {d v} r => by
  have key : ∀ {l : Nat} {a : Addr}, μ[l]? = some a → (μ ++ t)[l]? = some a := fun {l a} h => by
    obtain ⟨h1, _⟩ := List.getElem?_eq_some_iff.mp h
    rw [List.getElem?_append_left h1]; exact h
  exact RV.rec (motive_1 := fun d v _ => RV K H (μ ++ t) d v) (motive_2 := fun d v _ => RVs K H (μ ++ t) d v) .non .bl .int .str (fun s z _ r => .tup s z r) (fun h => .ref (key h)) (fun s z _ r => .scr s z r) .nil (fun _ _ a b => .cons a b) r
theorem ext_mores (t : List Addr) : ∀ {d : List DV} {v : List V}, RVs K H μ d v → RVs K H (μ ++ t) d v
  | _, _, .nil => .nil
  | _, _, .cons r s => .cons (ext_more t r) (ext_mores t s)
theorem ext_morek (t : List Addr) : ∀ {d : List (Key × DV)} {v : List (Key × V)}, RKs K H μ d v → RKs K H (μ ++ t) d v
  | _, _, .nil => .nil
  | _, _, .cons r s => .cons (ext_more t r) (ext_morek t s)
theorem RO.more (t : List Addr) {o : DO} {a : Addr} (r : RO K H μ o a) : RO K H (μ ++ t) o a := by
  cases r with
  | lst h z r => exact .lst h z (ext_mores t r)
  | dct h z r => exact .dct h z (ext_morek t r)
  | dcn h r q => exact .dcn h (ext_morek t r) (ext_more t q)
/-- a tracked thing becomes a cell -/
theorem RS.adopt {p : Addr} {o : DO} (r : RS K H μ st) (hp : p ∉ μ) (q : RO K H μ o p) : RS K H (μ ++ [p]) (st ++ [o]) := by
  refine ⟨by simp [r.len], ?_, fun l a ob h1 h2 => ?_⟩
  · rw [List.nodup_append]
    exact ⟨r.nd, by simp, fun x hx y hy => by rw [List.mem_singleton.mp hy]; intro e; exact hp (e ▸ hx)⟩
  · by_cases hl : l < μ.length
    · rw [List.getElem?_append_left hl] at h1
      rw [List.getElem?_append_left (by rw [← r.len]; exact hl)] at h2
      exact (r.cell l a ob h1 h2).more _
    · have hl2 : l = μ.length := by
        have := (List.getElem?_eq_some_iff.mp h1).1
        simp at this; omega
      subst hl2
      rw [List.getElem?_append_right (Nat.le_refl _)] at h1
      rw [r.len, List.getElem?_append_right (Nat.le_refl _)] at h2
      simp at h1 h2
      subst h1 h2
      exact q.more _
/-- a cell is written -/
theorem nodup_at {l m : Nat} {a : Addr} (nd : μ.Nodup) (h : μ[l]? = some a) (h' : μ[m]? = some a) : l = m := by
  obtain ⟨h1, e1⟩ := List.getElem?_eq_some_iff.mp h
  obtain ⟨h2, e2⟩ := List.getElem?_eq_some_iff.mp h'
  exact (List.getElem_inj nd).mp (e1.trans e2.symm)
theorem ext_write {a : Addr} {o u : HO} (ha : H a = some u) (hm : a ∈ μ) (h1 : ∀ xs, u ≠ .tup xs) (h2 : ∀ ob w, u ≠ .frz ob w) : Ext H μ (upd H a o) μ := by
  refine ⟨⟨[], by simp, by simp⟩, fun b xs h => ?_, fun b ob w h => ?_, fun b ob hb h => ?_, fun b h => ?_⟩
  · rw [upd_ne (ne_of h ha (h1 xs).symm)]; exact h
  · rw [upd_ne (ne_of h ha (h2 ob w).symm)]; exact h
  · rw [upd_ne (fun e : b = a => hb (by rw [e]; exact hm))]; exact h
  · by_cases e : b = a
    · subst e; rw [upd_same] at h; cases h
    · rw [upd_ne e] at h; exact h
theorem RS.write {l : Nat} {a : Addr} {o : DO} {u u' : HO} (r : RS K H μ st) (hl : μ[l]? = some a) (ha : H a = some u) (h1 : ∀ xs, u ≠ .tup xs) (h2 : ∀ ob w, u ≠ .frz ob w) (q : RO K (upd H a u') μ o a) : RS K (upd H a u') μ (st.set l o) := by
  have x : Ext H μ (upd H a u') μ := ext_write ha (List.mem_of_getElem? hl) h1 h2
  refine ⟨by simp [r.len], r.nd, fun m b ob e1 e2 => ?_⟩
  by_cases hm : l = m
  · subst hm
    rw [hl] at e1; cases e1
    have hlt : l < st.length := by rw [← r.len]; exact (List.getElem?_eq_some_iff.mp hl).1
    rw [List.getElem?_set_self hlt] at e2
    cases e2
    exact q
  · rw [List.getElem?_set_ne hm] at e2
    refine (r.cell m b ob e1 e2).ext x fun w hw => ?_
    rw [upd_ne (fun e => hm ?_)]
    · exact hw
    · subst e; exact nodup_at r.nd hl e1
end
end DL

/-! DL2: judgements by data; expressions. -/
namespace DL
open PySem PySem.Spec PyProof.Rows L2

/-! ### readings -/
def tD (K : PySem.W.Frag) (m : ME DV) : TE := fun σ H Q => ∃ e st μ d st', RE K H μ e σ ∧ RS K H μ st ∧ m e st = some (d, st') ∧
  ∀ H' μ' v, Ext H μ H' μ' → RS K H' μ' st' → RV K H' μ' d v → Q v H'
def tTD (K : PySem.W.Frag) (m : ME Bool) : TT := fun σ H Q => ∃ e st μ d st', RE K H μ e σ ∧ RS K H μ st ∧ m e st = some (d, st') ∧
  ∀ H' μ', Ext H μ H' μ' → RS K H' μ' st' → Q d H'
def tAD (K : PySem.W.Frag) (m : ME (List DV)) : TA := fun σ H Q => ∃ e st μ ds st', RE K H μ e σ ∧ RS K H μ st ∧ m e st = some (ds, st') ∧
  ∀ H' μ' vs, Ext H μ H' μ' → RS K H' μ' st' → RVs K H' μ' ds vs → Q vs H'
/-- a sequence that is read -/
def tQD (K : PySem.W.Frag) (m : ME (List DV)) : TE := fun σ H Q => ∃ e st μ ds st', RE K H μ e σ ∧ RS K H μ st ∧ m e st = some (ds, st') ∧
  ∀ H' μ' a vs, Ext H μ H' μ' → RS K H' μ' st' → (SqL K H' a vs ∨ SqT K H' a vs) → vs.length ≤ sizeLine → RVs K H' μ' ds vs → Q (.ref a) H'
/-- a new list -/
def tFD (K : PySem.W.Frag) (m : ME (List DV)) : TE := fun σ H Q => ∃ e st μ ds st', RE K H μ e σ ∧ RS K H μ st ∧ m e st = some (ds, st') ∧
  ∀ H' μ' a vs, Ext H μ H' μ' → RS K H' μ' st' → H a = none → a ∉ μ' → H' a = some (.lst vs) → vs.length ≤ sizeLine → RVs K H' μ' ds vs → Q (.ref a) H'

def DE (X : Cx) (e : Expr) (m : ME DV) : Prop := PE X e (tD X.K m)
def DT (X : Cx) (e : Expr) (m : ME Bool) : Prop := PT X e (tTD X.K m)
def DW (X : Cx) (e : Expr) (m : ME Bool) : Prop := PW X e (tTD X.K m)
def DA (X : Cx) (es : List Expr) (m : ME (List DV)) : Prop := PA X es (tAD X.K m)
def DQ (X : Cx) (e : Expr) (m : ME (List DV)) : Prop := PE X e (tQD X.K m)
def DF (X : Cx) (e : Expr) (m : ME (List DV)) : Prop := PE X e (tFD X.K m)

theorem pe_imp {X : Cx} {e : Expr} {t t' : TE} (h : PE X e t) (i : ∀ σ H Q, t' σ H Q → t σ H Q) : PE X e t' := ⟨fun pins s σ H Q I q => h.run pins s σ H Q I (i _ _ _ q)⟩
theorem pt_imp {X : Cx} {e : Expr} {t t' : TT} (h : PT X e t) (i : ∀ σ H Q, t' σ H Q → t σ H Q) : PT X e t' := ⟨fun pins s σ H Q I q => h.run pins s σ H Q I (i _ _ _ q)⟩
theorem pw_imp {X : Cx} {e : Expr} {t t' : TT} (h : PW X e t) (i : ∀ σ H Q, t' σ H Q → t σ H Q) : PW X e t' := ⟨fun wh pins s σ H Q I q => h.run wh pins s σ H Q I (i _ _ _ q)⟩
theorem pa_imp {X : Cx} {e : List Expr} {t t' : TA} (h : PA X e t) (i : ∀ σ H Q, t' σ H Q → t σ H Q) : PA X e t' := ⟨fun pos pins s σ H Q I q => h.run pos pins s σ H Q I (i _ _ _ q)⟩
theorem ps_imp {X : Cx} {e : Stmt} {t t' : TS} (h : PS X e t) (i : ∀ D σ H, t' D σ H → t D σ H) : PS X e t' := ⟨fun pins s σ H Q I q => h.run pins s σ H Q I (i _ _ _ q)⟩
theorem pss_imp {X : Cx} {e : List Stmt} {t t' : TS} (h : PSs X e t) (i : ∀ D σ H, t' D σ H → t D σ H) : PSs X e t' := ⟨fun pins s σ H Q I q => h.run pins s σ H Q I (i _ _ _ q)⟩

/-! ### binds taken apart -/
theorem bind_some {α β : Type} {m : ME α} {f : α → ME β} {e : Env} {st : Sto} {r : β × Sto} (h : ME.bind m f e st = some r) : ∃ a st1, m e st = some (a, st1) ∧ f a e st1 = some r := by
  unfold ME.bind at h
  cases q : m e st with
  | none => rw [q] at h; cases h
  | some p => rw [q] at h; exact ⟨p.1, p.2, rfl, h⟩

/-! ### names, constants -/
def mVar (i : Nat) : ME DV := fun e s => match e[i]? with
  | some (some d) => some (d, s)
  | _ => none
def mC (d : DV) : ME DV := fun _ s => some (d, s)
section
variable {X : Cx} {a b c e : Expr} {es : List Expr} {ma mb mc : ME DV} {pos : Pos}
theorem de_var (i : Nat) {x : Str} (hN : X.N[i]? = some x := by rfl) (hv : Vis X.env.scope x := by first | exact Or.inl rfl | exact Or.inr (Or.inl rfl) | exact Or.inr (Or.inr rfl)) (hd : (x == ("__debug__" : Str)) = false := by decide)
    (hcd : (x == ("__classdict__" : Str)) = false := by decide) : DE X (.Name x pos) (mVar i) := by
  refine pe_imp (pe_var hN hv hd hcd) fun σ H Q ⟨e, st, μ, d, st', he, hs, hm, hq⟩ => ?_
  unfold mVar at hm
  split at hm
  · rename_i d' hd'
    cases hm
    obtain ⟨v, h1, h2⟩ := he.val i d hd'
    exact ⟨v, h1, hq H μ v Ext.refl hs h2⟩
  · cases hm
theorem de_c {e : Expr} {v : V} {d : DV} (h : PE X e (tC v)) (hd : ∀ H μ, RV X.K H μ d v) : DE X e (mC d) := by
  refine pe_imp h fun σ H Q ⟨e, st, μ, d', st', he, hs, hm, hq⟩ => ?_
  cases hm
  exact hq H μ v Ext.refl hs (hd H μ)
theorem de_int {i j pos} : DE X (.Constant (.int i) j pos) (mC (.int i)) := de_c pe_int fun _ _ => .int i
theorem de_bl {i j pos} : DE X (.Constant (.bool i) j pos) (mC (.bl i)) := de_c pe_bl fun _ _ => .bl i
theorem de_non {j pos} : DE X (.Constant .none j pos) (mC .non) := de_c pe_non fun _ _ => .non
theorem de_str {i j pos} : DE X (.Constant (.str i) j pos) (mC (.str i)) := de_c pe_str fun _ _ => .str i
theorem de_glob {x : Str} {v : V} {u : Value} {d : DV} (hg : Gl X x) (hm : X.mg x = some u) (r : RelV v u) (hd : ∀ H μ, RV X.K H μ d v) (hb : (x == ("__debug__" : Str)) = false := by decide) : DE X (.Name x pos) (mC d) :=
  de_c (pe_glob hg hm r hb) hd

/-! ### two values -/
abbrev G2 := DV → DV → Sto → Option (DV × Sto)
def rB (K : PySem.W.Frag) (g : G2) : R2 := fun x y H Q => ∃ st μ dx dy d st', RS K H μ st ∧ RV K H μ dx x ∧ RV K H μ dy y ∧ g dx dy st = some (d, st') ∧
  ∀ H' μ' v, Ext H μ H' μ' → RS K H' μ' st' → RV K H' μ' d v → Q v H'
def OpD (X : Cx) (f : Value → Value → Sem Value) (g : G2) : Prop := OpR X f (rB X.K g)
def mBin (g : G2) (ma mb : ME DV) : ME DV := ME.bind ma fun x => ME.bind mb fun y => fun _ s => g x y s
theorem bin_read {g : G2} : ∀ σ H Q, tD X.K (mBin g ma mb) σ H Q → tOp (rB X.K g) (tD X.K ma) (tD X.K mb) σ H Q := by
  intro σ H Q ⟨e, st, μ, d, st', he, hs, hm, hq⟩
  obtain ⟨x, st1, h1, hm⟩ := bind_some hm
  obtain ⟨y, st2, h2, hm⟩ := bind_some hm
  refine ⟨e, st, μ, x, st1, he, hs, h1, fun H1 μ1 v x1 hs1 rv => ?_⟩
  refine ⟨e, st1, μ1, y, st2, he.ext x1, hs1, h2, fun H2 μ2 w x2 hs2 rw' => ?_⟩
  exact ⟨st2, μ2, x, y, d, st', hs2, rv.ext x2, rw', hm, fun H3 μ3 z x3 hs3 rz => hq H3 μ3 z (x1.trans (x2.trans x3)) hs3 rz⟩
theorem de_bin {op : Operator} {g : G2} (ho : OpD X (binaryOp op) g) (ha : DE X a ma) (hb : DE X b mb) : DE X (.BinOp a op b pos) (mBin g ma mb) := pe_imp (pe_op ho ha hb) bin_read
theorem de_cmp {op : CmpOp} {g : G2} (ho : OpD X (compareOp op) g) (ha : DE X a ma) (hb : DE X b mb) (hm : behindInMarks op b = false := by first | exact nobehind _ (by decide) (by decide) | rfl) : DE X (.Compare a [op] [b] pos) (mBin g ma mb) := pe_imp (pe_cmpR ho ha hb hm) bin_read
/-- a bool, as a test -/
def mTst (m : ME DV) : ME Bool := ME.bind m fun d => fun _ s => match d with
  | .bl b => some (b, s)
  | _ => none
theorem tst_read {m : ME DV} {t : TE} (i : ∀ σ H Q, tD X.K m σ H Q → t σ H Q) : ∀ σ H Q, tTD X.K (mTst m) σ H Q → t σ H (fun x H1 => ∃ k, x = .bl k ∧ Q k H1) := by
  intro σ H Q ⟨e, st, μ, d, st', he, hs, hm, hq⟩
  obtain ⟨x, st1, h1, hm⟩ := bind_some hm
  refine i _ _ _ ⟨e, st, μ, x, st1, he, hs, h1, fun H1 μ1 v x1 hs1 rv => ?_⟩
  cases x with
  | bl b =>
    cases hm
    cases rv
    exact ⟨_, rfl, hq H1 μ1 x1 hs1⟩
  | _ => cases hm
theorem dt_cmp {op : CmpOp} {g : G2} (ho : OpD X (compareOp op) g) (ha : DE X a ma) (hb : DE X b mb) (hm : behindInMarks op b = false := by first | exact nobehind _ (by decide) (by decide) | rfl) : DT X (.Compare a [op] [b] pos) (mTst (mBin g ma mb)) :=
  pt_imp (pt_cmpR ho ha hb hm) (tst_read bin_read)
theorem dt_val {m : ME DV} (h : DE X e m) (he : ∀ whole, isTrue e X.env whole = (do let v ← whole; standAt e.pos; holding [v] (truthy v)) := by intro _; rfl) : DT X e (mTst m) :=
  pt_imp (pt_val h he) (tst_read fun _ _ _ h => h)
/-- a < b < c -/
def mChn (g g' : G2) (ma mb mc : ME DV) : ME DV := ME.bind ma fun x => ME.bind mb fun y => ME.bind (fun _ s => g x y s) fun z => match z with
  | .bl true => ME.bind mc fun w => fun _ s => g' y w s
  | .bl false => ME.pure (.bl false)
  | _ => fun _ _ => none
theorem chn_read {g g' : G2} : ∀ σ H Q, tD X.K (mChn g g' ma mb mc) σ H Q → tChain (rB X.K g) (rB X.K g') (tD X.K ma) (tD X.K mb) (tD X.K mc) σ H Q := by
  intro σ H Q ⟨e, st, μ, d, st', he, hs, hm, hq⟩
  obtain ⟨x, st1, h1, hm⟩ := bind_some hm
  obtain ⟨y, st2, h2, hm⟩ := bind_some hm
  obtain ⟨z, st3, h3, hm⟩ := bind_some hm
  refine ⟨e, st, μ, x, st1, he, hs, h1, fun H1 μ1 v x1 hs1 rv => ?_⟩
  refine ⟨e, st1, μ1, y, st2, he.ext x1, hs1, h2, fun H2 μ2 w x2 hs2 rw' => ?_⟩
  refine ⟨st2, μ2, x, y, z, st3, hs2, rv.ext x2, rw', h3, fun H3 μ3 zv x3 hs3 rz => ?_⟩
  cases z with
  | bl k =>
    cases rz
    refine ⟨k, rfl, ?_⟩
    cases k with
    | false =>
      cases hm
      rw [if_neg (by decide)]
      exact hq H3 μ3 _ (x1.trans (x2.trans x3)) hs3 (.bl _)
    | true =>
      obtain ⟨w4, st4, h4, hm⟩ := bind_some hm
      rw [if_pos rfl]
      refine ⟨e, st3, μ3, w4, st4, he.ext (x1.trans (x2.trans x3)), hs3, h4, fun H4 μ4 wv x4 hs4 rw4 => ?_⟩
      exact ⟨st4, μ4, y, w4, d, st', hs4, (rw'.ext x3).ext x4, rw4, hm, fun H5 μ5 z5 x5 hs5 rz5 => hq H5 μ5 z5 (x1.trans (x2.trans (x3.trans (x4.trans x5)))) hs5 rz5⟩
  | _ => cases hm
theorem de_chn {op op' : CmpOp} {g g' : G2} (ho : OpD X (compareOp op) g) (ho' : OpD X (compareOp op') g') (ha : DE X a ma) (hb : DE X b mb) (hc : DE X c mc)
    (hm : lastMarks [op, op'] [b, c] = false := by with_unfolding_all rfl) : DE X (.Compare a [op, op'] [b, c] pos) (mChn g g' ma mb mc) := pe_imp (pe_chain ho ho' ha hb hc hm) chn_read
theorem dt_chn {op op' : CmpOp} {g g' : G2} (ho : OpD X (compareOp op) g) (ho' : OpD X (compareOp op') g') (ha : DE X a ma) (hb : DE X b mb) (hc : DE X c mc)
    (hm : lastMarks [op, op'] [b, c] = false := by with_unfolding_all rfl) : DT X (.Compare a [op, op'] [b, c] pos) (mTst (mChn g g' ma mb mc)) := pt_imp (pt_chain ho ho' ha hb hc hm) (tst_read chn_read)

/-! ### and, or, not, if -/
variable {ta tb tc : ME Bool} {rest : List Expr}
def mAndT (s t : ME Bool) : ME Bool := ME.bind s fun b => match b with | true => t | false => ME.pure false
def mOrT (s t : ME Bool) : ME Bool := ME.bind s fun b => match b with | true => ME.pure true | false => t
def mNotT (s : ME Bool) : ME Bool := ME.bind s fun b => ME.pure (!b)
theorem dt_w (h : DW X e ta) : DT X e ta := h.pt
theorem dw_and1 (ha : DT X a ta) : DW X (.BoolOp .And [a] pos) ta := pw_and1 ha
theorem dw_or1 (ha : DT X a ta) : DW X (.BoolOp .Or [a] pos) ta := pw_or1 ha
theorem dw_and (ha : DT X a ta) (hb : DW X (.BoolOp .And (b :: rest) pos) tb) : DW X (.BoolOp .And (a :: b :: rest) pos) (mAndT ta tb) := by
  refine pw_imp (pw_and ha hb) fun σ H Q ⟨e, st, μ, d, st', he, hs, hm, hq⟩ => ?_
  obtain ⟨x, st1, h1, hm⟩ := bind_some hm
  refine ⟨e, st, μ, x, st1, he, hs, h1, fun H1 μ1 x1 hs1 => ?_⟩
  cases x with
  | true =>
    rw [if_pos rfl]
    exact ⟨e, st1, μ1, d, st', he.ext x1, hs1, hm, fun H2 μ2 x2 hs2 => hq H2 μ2 (x1.trans x2) hs2⟩
  | false =>
    cases hm
    rw [if_neg (by decide)]
    exact hq H1 μ1 x1 hs1
theorem dw_or (ha : DT X a ta) (hb : DW X (.BoolOp .Or (b :: rest) pos) tb) : DW X (.BoolOp .Or (a :: b :: rest) pos) (mOrT ta tb) := by
  refine pw_imp (pw_or ha hb) fun σ H Q ⟨e, st, μ, d, st', he, hs, hm, hq⟩ => ?_
  obtain ⟨x, st1, h1, hm⟩ := bind_some hm
  refine ⟨e, st, μ, x, st1, he, hs, h1, fun H1 μ1 x1 hs1 => ?_⟩
  cases x with
  | false =>
    rw [if_neg (by decide)]
    exact ⟨e, st1, μ1, d, st', he.ext x1, hs1, hm, fun H2 μ2 x2 hs2 => hq H2 μ2 (x1.trans x2) hs2⟩
  | true =>
    cases hm
    rw [if_pos rfl]
    exact hq H1 μ1 x1 hs1
theorem dt_not (ha : DT X a ta) : DT X (.UnaryOp .Not a pos) (mNotT ta) := by
  refine pt_imp (pt_not ha) fun σ H Q ⟨e, st, μ, d, st', he, hs, hm, hq⟩ => ?_
  obtain ⟨x, st1, h1, hm⟩ := bind_some hm
  cases hm
  exact ⟨e, st, μ, x, _, he, hs, h1, fun H1 μ1 x1 hs1 => hq H1 μ1 x1 hs1⟩
/-- as values: bools -/
def mAnd (s t : ME DV) : ME DV := ME.bind s fun b => match b with | .bl true => t | .bl false => ME.pure (.bl false) | _ => fun _ _ => none
def mOr (s t : ME DV) : ME DV := ME.bind s fun b => match b with | .bl true => ME.pure (.bl true) | .bl false => t | _ => fun _ _ => none
def mNot (s : ME DV) : ME DV := ME.bind s fun b => match b with | .bl b => ME.pure (.bl (!b)) | _ => fun _ _ => none
theorem de_one {op} (h : DE X a ma) : DE X (.BoolOp op [a] pos) ma := pe_one h
theorem de_and (ha : DE X a ma) (hb : DE X (.BoolOp .And (b :: rest) pos) mb) : DE X (.BoolOp .And (a :: b :: rest) pos) (mAnd ma mb) := by
  refine pe_imp (pe_and ha hb) fun σ H Q ⟨e, st, μ, d, st', he, hs, hm, hq⟩ => ?_
  obtain ⟨x, st1, h1, hm⟩ := bind_some hm
  refine ⟨e, st, μ, x, st1, he, hs, h1, fun H1 μ1 v x1 hs1 rv => ?_⟩
  cases x with
  | bl k =>
    cases rv
    refine ⟨k, rfl, ?_⟩
    cases k with
    | true =>
      rw [if_pos rfl]
      exact ⟨e, st1, μ1, d, st', he.ext x1, hs1, hm, fun H2 μ2 v x2 hs2 rv => hq H2 μ2 v (x1.trans x2) hs2 rv⟩
    | false =>
      cases hm
      rw [if_neg (by decide)]
      exact hq H1 μ1 _ x1 hs1 (.bl _)
  | _ => cases hm
theorem de_or (ha : DE X a ma) (hb : DE X (.BoolOp .Or (b :: rest) pos) mb) : DE X (.BoolOp .Or (a :: b :: rest) pos) (mOr ma mb) := by
  refine pe_imp (pe_or ha hb) fun σ H Q ⟨e, st, μ, d, st', he, hs, hm, hq⟩ => ?_
  obtain ⟨x, st1, h1, hm⟩ := bind_some hm
  refine ⟨e, st, μ, x, st1, he, hs, h1, fun H1 μ1 v x1 hs1 rv => ?_⟩
  cases x with
  | bl k =>
    cases rv
    refine ⟨k, rfl, ?_⟩
    cases k with
    | false =>
      rw [if_neg (by decide)]
      exact ⟨e, st1, μ1, d, st', he.ext x1, hs1, hm, fun H2 μ2 v x2 hs2 rv => hq H2 μ2 v (x1.trans x2) hs2 rv⟩
    | true =>
      cases hm
      rw [if_pos rfl]
      exact hq H1 μ1 _ x1 hs1 (.bl _)
  | _ => cases hm
theorem de_not (ha : DE X a ma) : DE X (.UnaryOp .Not a pos) (mNot ma) := by
  refine pe_imp (pe_not ha) fun σ H Q ⟨e, st, μ, d, st', he, hs, hm, hq⟩ => ?_
  obtain ⟨x, st1, h1, hm⟩ := bind_some hm
  refine ⟨e, st, μ, x, st1, he, hs, h1, fun H1 μ1 v x1 hs1 rv => ?_⟩
  cases x with
  | bl k =>
    cases rv
    cases hm
    exact ⟨k, rfl, hq H1 μ1 _ x1 hs1 (.bl _)⟩
  | _ => cases hm
def mIf {α : Type} (t : ME Bool) (x y : ME α) : ME α := ME.bind t fun b => match b with | true => x | false => y
theorem de_if {t : Expr} (ht : DT X t ta) (ha : DE X a ma) (hb : DE X b mb) : DE X (.IfExp t a b pos) (mIf ta ma mb) := by
  refine pe_imp (pe_ifExp ht ha hb) fun σ H Q ⟨e, st, μ, d, st', he, hs, hm, hq⟩ => ?_
  obtain ⟨x, st1, h1, hm⟩ := bind_some hm
  refine ⟨e, st, μ, x, st1, he, hs, h1, fun H1 μ1 x1 hs1 => ?_⟩
  cases x with
  | true =>
    rw [if_pos rfl]
    exact ⟨e, st1, μ1, d, st', he.ext x1, hs1, hm, fun H2 μ2 v x2 hs2 rv => hq H2 μ2 v (x1.trans x2) hs2 rv⟩
  | false =>
    rw [if_neg (by decide)]
    exact ⟨e, st1, μ1, d, st', he.ext x1, hs1, hm, fun H2 μ2 v x2 hs2 rv => hq H2 μ2 v (x1.trans x2) hs2 rv⟩

/-! ### arguments, tuples, lists -/
def mArgs : List (ME DV) → ME (List DV)
  | [] => ME.pure []
  | m :: ms => ME.bind m fun d => ME.bind (mArgs ms) fun ds => ME.pure (d :: ds)
theorem da_nil : DA X [] (mArgs []) := pa_imp pa_nil fun σ H Q ⟨e, st, μ, d, st', he, hs, hm, hq⟩ => by
  cases hm
  exact hq H μ [] Ext.refl hs .nil
theorem da_cons {m : ME DV} {ms : List (ME DV)} (ha : DE X e m) (hr : DA X es (mArgs ms)) (hs : starEach (e :: es) X.env = (false, eval e X.env) :: starEach es X.env := by rfl) : DA X (e :: es) (mArgs (m :: ms)) := by
  refine pa_imp (pa_cons ha hr hs) fun σ H Q ⟨e, st, μ, d, st', he, hs, hm, hq⟩ => ?_
  obtain ⟨x, st1, h1, hm⟩ := bind_some hm
  obtain ⟨xs, st2, h2, hm⟩ := bind_some hm
  cases hm
  refine ⟨e, st, μ, x, st1, he, hs, h1, fun H1 μ1 v x1 hs1 rv => ?_⟩
  exact ⟨e, st1, μ1, xs, _, he.ext x1, hs1, h2, fun H2 μ2 vs x2 hs2 rvs => hq H2 μ2 _ (x1.trans x2) hs2 (.cons (rv.ext x2) rvs)⟩
theorem args_len : ∀ (ms : List (ME DV)) (e : Env) (st : Sto) (ds : List DV) (st' : Sto), mArgs ms e st = some (ds, st') → ds.length = ms.length
  | [], e, st, ds, st', h => by cases h; rfl
  | m :: ms, e, st, ds, st', h => by
    obtain ⟨x, st1, h1, h⟩ := bind_some h
    obtain ⟨xs, st2, h2, h⟩ := bind_some h
    cases h
    rw [List.length_cons, List.length_cons, args_len ms _ _ _ _ h2]
def mTup (ms : List (ME DV)) : ME DV := ME.bind (mArgs ms) fun ds => ME.pure (.tup ds)
theorem de_tup {k : Nat} {ms : List (ME DV)} (h : DA X es (mArgs ms)) (hz : ms.length ≤ sizeLine := by decide) : DE X (.Tuple es k pos) (mTup ms) := by
  refine pe_imp (pe_tup h) fun σ H Q ⟨e, st, μ, d, st', he, hs, hm, hq⟩ => ?_
  obtain ⟨x, st1, h1, hm⟩ := bind_some hm
  cases hm
  refine ⟨e, st, μ, x, _, he, hs, h1, fun H1 μ1 vs x1 hs1 rvs => ?_⟩
  have hl : vs.length ≤ sizeLine := by rw [← rvs.length, args_len _ _ _ _ _ h1]; exact hz
  refine ⟨hl, fun p hp => hq _ μ1 _ (x1.trans (ext_new hp)) (hs1.new hp) (.tup (SqT.of upd_same) hl (rvs.ext (ext_new hp)))⟩
/-- what is new is tracked: p -/
theorem fresh_new {K : PySem.W.Frag} {H H1 : Hp} {μ μ1 : List Addr} {p : Addr} {st1 : Sto} (x1 : Ext H μ H1 μ1) (hs1 : RS K H1 μ1 st1) (hp : H1 p = none) : H p = none ∧ p ∉ μ1 := ⟨x1.trk p hp, fun h => hs1.trk h hp⟩
theorem df_lst {ms : List (ME DV)} (h : DA X es (mArgs ms)) (hz : ms.length ≤ sizeLine := by decide) : DF X (.List es pos) (mArgs ms) := by
  refine pe_imp (pe_lst h) fun σ H Q ⟨e, st, μ, d, st', he, hs, hm, hq⟩ => ?_
  refine ⟨e, st, μ, d, st', he, hs, hm, fun H1 μ1 vs x1 hs1 rvs => ?_⟩
  have hl : vs.length ≤ sizeLine := by rw [← rvs.length, args_len _ _ _ _ _ hm]; exact hz
  refine ⟨hl, fun p hp => ?_⟩
  obtain ⟨n1, n2⟩ := fresh_new x1 hs1 hp
  exact hq _ μ1 p vs (x1.trans (ext_new hp)) (hs1.new hp) n1 n2 upd_same hl (rvs.ext (ext_new hp))
/-- a new list becomes a cell -/
def mNew (m : ME (List DV)) : ME DV := ME.bind m fun ds => fun _ st => some (.ref st.length, st ++ [.lst ds])
theorem at_end {μ : List Addr} {p : Addr} {n : Nat} (h : μ.length = n) : (μ ++ [p])[n]? = some p := by
  subst h
  simp
theorem new_read {m : ME (List DV)} : ∀ σ H Q, tD X.K (mNew m) σ H Q → tFD X.K m σ H Q := by
  intro σ H Q ⟨e, st, μ, d, st', he, hs, hm, hq⟩
  obtain ⟨ds, st1, h1, hm⟩ := bind_some hm
  cases hm
  refine ⟨e, st, μ, ds, st1, he, hs, h1, fun H1 μ1 a vs x1 hs1 n1 n2 ha hl rvs => ?_⟩
  obtain ⟨t, et, ht⟩ := x1.pre
  refine hq H1 (μ1 ++ [a]) (.ref a) ⟨⟨t ++ [a], by rw [et, List.append_assoc], fun b hb => ?_⟩, x1.tup, x1.frz, x1.oth, x1.trk⟩ (hs1.adopt n2 (.lst ha hl rvs)) (.ref (at_end hs1.len))
  rcases List.mem_append.mp hb with hb | hb
  · exact ht b hb
  · rw [List.mem_singleton.mp hb]; exact n1
theorem df_new {m : ME (List DV)} (h : DF X e m) : DE X e (mNew m) := pe_imp h new_read
theorem df_q {m : ME (List DV)} (h : DF X e m) : DQ X e m := pe_imp h fun σ H Q ⟨e, st, μ, d, st', he, hs, hm, hq⟩ =>
  ⟨e, st, μ, d, st', he, hs, hm, fun H1 μ1 a vs x1 hs1 n1 n2 ha hl rvs => hq H1 μ1 a vs x1 hs1 (.inl (SqL.of ha)) hl rvs⟩
/-- the items of a value -/
def itemsOf (st : Sto) : DV → Option (List DV)
  | .tup ds => some ds
  | .scr ds => some ds
  | .ref l => match st[l]? with
    | some (.lst ds) => some ds
    | _ => none
  | _ => none
def mSeq (m : ME DV) : ME (List DV) := ME.bind m fun d => fun _ st => match itemsOf st d with
  | some ds => some (ds, st)
  | none => none
theorem items_read {K : PySem.W.Frag} {H : Hp} {μ : List Addr} {st : Sto} {d : DV} {ds : List DV} {v : V} (hs : RS K H μ st) (h : itemsOf st d = some ds) (r : RV K H μ d v) :
    ∃ a vs, v = .ref a ∧ (SqL K H a vs ∨ SqT K H a vs) ∧ vs.length ≤ sizeLine ∧ RVs K H μ ds vs := by
  cases r with
  | tup s z rs => cases h; exact ⟨_, _, rfl, .inr s, z, rs⟩
  | scr s z rs => cases h; exact ⟨_, _, rfl, .inl s.sql, z, rs⟩
  | @ref l a hl =>
    have h : (match st[l]? with
      | some (.lst ds) => some ds
      | _ => none) = some ds := h
    split at h
    · rename_i ds' e'
      injection h with h
      subst h
      have := hs.cell l a _ hl e'
      cases this with
      | lst h z rs => exact ⟨_, _, rfl, .inl (SqL.of h), z, rs⟩
    · exact nomatch h
  | non => exact nomatch h
  | bl b => exact nomatch h
  | int b => exact nomatch h
  | str b => exact nomatch h
theorem dq_val {m : ME DV} (h : DE X e m) : DQ X e (mSeq m) := pe_imp h fun σ H Q ⟨e, st, μ, d, st', he, hs, hm, hq⟩ => by
  obtain ⟨x, st1, h1, hm⟩ := bind_some hm
  refine ⟨e, st, μ, x, st1, he, hs, h1, fun H1 μ1 v x1 hs1 rv => ?_⟩
  cases q : itemsOf st1 x with
  | none => rw [q] at hm; cases hm
  | some ds =>
    rw [q] at hm
    cases hm
    obtain ⟨a, vs, rfl, hq', hl, rvs⟩ := items_read hs1 q rv
    exact hq H1 μ1 a vs x1 hs1 hq' hl rvs
end
end DL

/-! DL3: operators by data. -/
namespace DL
open PySem PySem.Spec PyProof.Rows L2

/-- sizes that are let -/
abbrev LIM : Nat := 100000
theorem lim_ok {n : Nat} (h : n ≤ LIM) : n ≤ sizeLine := by rw [sizeLine_eq]; exact Nat.le_trans h (by decide)
theorem lim_lt {n : Nat} (h : n < LIM) : n < sizeLine := by rw [sizeLine_eq]; exact Nat.lt_of_lt_of_le h (by decide)

/-! ### sums -/
def gAdd : G2
  | .int i, .int j, st => some (.int (i + j), st)
  | .tup a, .tup b, st => if a.length + b.length ≤ LIM then some (.tup (a ++ b), st) else none
  | .ref l, .ref k, st => match st[l]?, st[k]? with
    | some (.lst a), some (.lst b) => if a.length + b.length ≤ LIM then some (.ref st.length, st ++ [.lst (a ++ b)]) else none
    | _, _ => none
  | .str a, .str b, st => if a.length + b.length ≤ LIM then some (.str (a ++ b), st) else none
  | _, _, _ => none
section
variable {X : Cx}
theorem cat_tup0 {prog : Program} {w : World} {A : Around} {E : Value → Shared → Prop} {s : Shared} {t b : Addr} {ws : List Value} {Q : Value → Shared → Prop} (ht : IsTup s.heap t (([] : List Value).toArray)) (hb : IsTup s.heap b ws.toArray)
    (hq : Q (.ref b) s) : wpAny (model prog w) A (binaryOp .Add (.ref t) (.ref b)) Q E s := by
  obtain ⟨⟨c1, d1, x1, sl1⟩, g1, k1, n1, y1⟩ := ht
  obtain ⟨⟨c2, d2, x2, sl2⟩, g2, k2, n2, y2⟩ := hb
  dsimp only at k1 y1 k2 y2
  subst k1; subst y1; subst k2; subst y2
  exact concat_meets ⟨_, g1, rfl⟩ ⟨_, g2, rfl⟩ noFill_tuple_add seq_tuple_add PySem.F.slot_tuple_add PySem.F.entry_tuple_add (PySem.F.args_tuple_add_2 _ _)
    (tuple_addW0 t b _ ws.toArray n1 n2 d1 d2 sl1 sl2 rfl) ⟨g1, g2, hq⟩
/-- t + () for the empty t -/
def rCat0 (K : PySem.W.Frag) : R2 := fun x y H Q => ∃ a b ys, x = .ref a ∧ y = .ref b ∧ SqT K H a [] ∧ SqT K H b ys ∧ Q (.ref b) H
theorem op_cat0 : OpR X (binaryOp .Add) (rCat0 X.K) := by
  intro pins s σ H x y v u Q I rx ry h
  obtain ⟨a, b, ys, rfl, rfl, ha, hb, q⟩ := h
  cases rx
  cases ry
  obtain ⟨its, r1, p1, _⟩ := I.tuple ha
  obtain ⟨its2, r2, p2, _⟩ := I.tuple hb
  cases r1
  exact cat_tup0 p1 p2 ⟨.ref b, H, I, rfl, q⟩
theorem od_add : OpD X (binaryOp .Add) gAdd := by
  intro pins s σ H x y v u Q I rx ry ⟨st, μ, dx, dy, d, st', hs, r1, r2, hg, hq⟩
  cases r1 with
  | int i =>
    cases r2 with
    | int j =>
      cases hg
      exact op_add pins s σ H _ _ v u Q I rx ry ⟨i, j, rfl, rfl, hq H μ _ Ext.refl hs (.int _)⟩
    | _ => exact nomatch hg
  | str i =>
    cases r2 with
    | str j =>
      have hg : (if i.length + j.length ≤ LIM then some (DV.str (i ++ j), st) else none) = some (d, st') := hg
      split at hg
      · cases hg
        rename_i hz
        exact op_add_str pins s σ H _ _ v u Q I rx ry ⟨i, j, rfl, rfl, lim_ok hz, hq H μ _ Ext.refl hs (.str _)⟩
      · exact nomatch hg
    | _ => exact nomatch hg
  | @tup a ds vs s1 z1 q1 =>
    cases r2 with
    | @tup b es ws s2 z2 q2 =>
      have hg : (if ds.length + es.length ≤ LIM then some (DV.tup (ds ++ es), st) else none) = some (d, st') := hg
      split at hg
      · cases hg
        rename_i hz
        have hz' : vs.length + ws.length ≤ sizeLine := by rw [← q1.length, ← q2.length]; exact lim_ok hz
        by_cases e1 : vs = []
        · subst e1
          cases q1
          exact op_cat0 pins s σ H _ _ v u Q I rx ry ⟨a, b, ws, rfl, rfl, s1, s2, hq H μ _ Ext.refl hs (.tup s2 z2 q2)⟩
        · refine op_catT pins s σ H _ _ v u Q I rx ry ⟨a, b, vs, ws, rfl, rfl, s1, s2, e1, hz', ?_, fun _ p hp => ?_⟩
          · intro e2
            subst e2
            cases q2
            refine hq H μ _ Ext.refl hs (.tup s1 z1 ?_)
            rw [List.append_nil]; exact q1
          · exact hq _ μ _ (ext_new hp) (hs.new hp) (.tup (SqT.of upd_same) (by rw [List.length_append]; exact hz') ((q1.append q2).ext (ext_new hp)))
      · exact nomatch hg
    | _ => exact nomatch hg
  | @ref l a hl =>
    cases r2 with
    | @ref k b hk =>
      have hg : (match st[l]?, st[k]? with
        | some (.lst a), some (.lst b) => if a.length + b.length ≤ LIM then some (DV.ref st.length, st ++ [.lst (a ++ b)]) else none
        | _, _ => none) = some (d, st') := hg
      split at hg
      · rename_i ds es e1 e2
        split at hg
        · cases hg
          rename_i hz
          have c1 := hs.cell l a _ hl e1
          have c2 := hs.cell k b _ hk e2
          cases c1 with
          | @lst _ vs _ h1 z1 q1 =>
            cases c2 with
            | @lst _ ws _ h2 z2 q2 =>
              have hz' : vs.length + ws.length ≤ sizeLine := by rw [← q1.length, ← q2.length]; exact lim_ok hz
              refine op_cat pins s σ H _ _ v u Q I rx ry ⟨a, b, vs, ws, rfl, rfl, h1, h2, hz', fun p hp => ?_⟩
              have hs' := hs.new (o := .lst (vs ++ ws)) hp
              have hpm : p ∉ μ := fun z => hs.trk z hp
              exact hq _ (μ ++ [p]) (.ref p) (ext_mu hp (ext_new hp) hp) (hs'.adopt hpm (.lst upd_same (by rw [List.length_append]; exact hz') ((q1.append q2).ext (ext_new hp)))) (.ref (at_end hs.len))
        · exact nomatch hg
      · exact nomatch hg
    | _ => exact nomatch hg
  | _ => cases r2 <;> exact nomatch hg

/-! ### ints -/
def gI (c : Int → Int → Bool) (f : Int → Int → DV) : G2
  | .int i, .int j, st => if c i j = true then some (f i j, st) else none
  | _, _, _ => none
theorem od_I {h : Value → Value → Sem Value} {C : Int → Int → Prop} {c : Int → Int → Bool} {g : Int → Int → V} {f : Int → Int → DV} (ho : OpR X h (rI C g)) (hc : ∀ i j, c i j = true → C i j)
    (hf : ∀ K H μ i j, RV K H μ (f i j) (g i j)) : OpD X h (gI c f) := by
  intro pins s σ H x y v u Q I rx ry ⟨st, μ, dx, dy, d, st', hs, r1, r2, hg, hq⟩
  cases r1 with
  | int i =>
    cases r2 with
    | int j =>
      have hg : (if c i j = true then some (f i j, st) else none) = some (d, st') := hg
      split at hg
      · cases hg
        rename_i hz
        exact ho pins s σ H _ _ v u Q I rx ry ⟨i, j, rfl, rfl, hc _ _ hz, hq H μ _ Ext.refl hs (hf _ _ _ _ _)⟩
      · exact nomatch hg
    | _ => exact nomatch hg
  | _ => cases r2 <;> exact nomatch hg
theorem rI_of {h : Value → Value → Sem Value} {g : Int → Int → V} (ho : OpR X h (rI0 g)) : OpR X h (rI (fun _ _ => True) g) := by
  intro pins s σ H x y v u Q I rx ry ⟨i, j, e1, e2, _, q⟩
  exact ho pins s σ H x y v u Q I rx ry ⟨i, j, e1, e2, q⟩
def yes2 : Int → Int → Bool := fun _ _ => true
def gSub : G2 := gI yes2 fun i j => .int (i - j)
def small (i : Int) : Bool := decide (-18446744073709551616 < i) && decide (i < 18446744073709551616)
def gMul : G2 := gI (fun i j => small i || small j) fun i j => .int (i * j)
def gMod : G2 := gI (fun _ j => decide (0 < j)) fun i j => .int (i % j)
def gDiv : G2 := gI (fun _ j => decide (0 < j) && decide (j < 1073741824)) fun i j => .int (i / j)
def gLt : G2 := gI yes2 fun i j => .bl (decide (i < j))
def gLe : G2 := gI yes2 fun i j => .bl (decide (i ≤ j))
def gGt : G2 := gI yes2 fun i j => .bl (decide (j < i))
def gGe : G2 := gI yes2 fun i j => .bl (decide (j ≤ i))
theorem od_sub : OpD X (binaryOp .Sub) gSub := od_I (rI_of op_sub) (fun _ _ _ => trivial) fun _ _ _ i j => .int _
theorem od_mul : OpD X (binaryOp .Mult) gMul := od_I op_mul (fun i j h => by
  simp only [small, Bool.or_eq_true, Bool.and_eq_true, decide_eq_true_eq] at h
  rcases h with h | h
  · exact .inl ⟨by have := h.1; omega, by have := h.2; omega⟩
  · exact .inr ⟨by have := h.1; omega, by have := h.2; omega⟩) fun _ _ _ i j => .int _
theorem od_mod : OpD X (binaryOp .Mod) gMod := od_I op_mod (fun i j h => by simpa using h) fun _ _ _ i j => .int _
theorem od_div : OpD X (binaryOp .FloorDiv) gDiv := od_I op_fdiv (fun i j h => by simpa [CDiv] using h) fun _ _ _ i j => .int _
theorem od_lt : OpD X (compareOp .Lt) gLt := od_I (rI_of op_lt) (fun _ _ _ => trivial) fun _ _ _ i j => .bl _
theorem od_le : OpD X (compareOp .LtE) gLe := od_I (rI_of op_le) (fun _ _ _ => trivial) fun _ _ _ i j => .bl _
theorem od_gt : OpD X (compareOp .Gt) gGt := od_I (rI_of op_gt) (fun _ _ _ => trivial) fun _ _ _ i j => .bl _
theorem od_ge : OpD X (compareOp .GtE) gGe := od_I (rI_of op_ge) (fun _ _ _ => trivial) fun _ _ _ i j => .bl _

/-! ### is None -/
def isN : DV → Bool
  | .non => true
  | _ => false
theorem isN_of {K : PySem.W.Frag} {H : Hp} {μ : List Addr} {d : DV} {v : V} (r : RV K H μ d v) : decide (v = .non) = isN d := by
  cases r <;> simp [isN]
def gIs : G2
  | x, .non, st => some (.bl (isN x), st)
  | _, _, _ => none
def gIsNot : G2
  | x, .non, st => some (.bl (!isN x), st)
  | _, _, _ => none
theorem od_is : OpD X (compareOp .Is) gIs := by
  intro pins s σ H x y v u Q I rx ry ⟨st, μ, dx, dy, d, st', hs, r1, r2, hg, hq⟩
  cases r2 with
  | non =>
    cases hg
    refine op_isN pins s σ H _ _ v u Q I rx ry ⟨rfl, ?_⟩
    rw [isN_of r1]
    exact hq H μ _ Ext.refl hs (.bl _)
  | _ => exact nomatch hg
theorem od_isnot : OpD X (compareOp .IsNot) gIsNot := by
  intro pins s σ H x y v u Q I rx ry ⟨st, μ, dx, dy, d, st', hs, r1, r2, hg, hq⟩
  cases r2 with
  | non =>
    cases hg
    refine op_notN pins s σ H _ _ v u Q I rx ry ⟨rfl, ?_⟩
    rw [isN_of r1]
    exact hq H μ _ Ext.refl hs (.bl _)
  | _ => exact nomatch hg

/-! ### == -/
mutual
def toP : DV → PyData
  | .non => .none
  | .bl b => .bool b
  | .int i => .int i
  | .str x => .str x
  | .tup xs => .tuple (toPs xs)
  | .ref _ => .none
  | .scr _ => .none
def toPs : List DV → List PyData
  | [] => []
  | x :: xs => toP x :: toPs xs
end
/-- data without cells, nested at most so deep -/
def okD : Nat → DV → Bool
  | _, .non => true
  | _, .bl _ => true
  | _, .int _ => true
  | _, .str x => PyData.strOk x
  | n + 1, .tup xs => xs.all (okD n)
  | _, _ => false
def toPS (st : Sto) : DV → Option PyData
  | .ref l => match st[l]? with
    | some (.lst ds) => if ds.all (okD 8) = true then some (.list (toPs ds)) else none
    | _ => none
  | d => if okD 8 d = true then some (toP d) else none
theorem dps_of {K : PySem.W.Frag} {H : Hp} {μ : List Addr} {n : Nat} (ih : ∀ {d : DV} {v : V}, RV K H μ d v → okD n d = true → Dp K H v (toP d) ∧ (toP d).canLay0 = true ∧ (toP d).depth ≤ n + 1) :
    ∀ {ds : List DV} {vs : List V}, RVs K H μ ds vs → ds.all (okD n) = true → DpAll K H vs (toPs ds) ∧ PyData.canLayAll0 (toPs ds) = true ∧ PyData.depthAll (toPs ds) ≤ n + 1
  | _, _, .nil, _ => ⟨.nil, rfl, Nat.zero_le _⟩
  | _, _, .cons r rs, h => by
    rw [List.all_cons, Bool.and_eq_true] at h
    obtain ⟨a1, a2, a3⟩ := ih r h.1
    obtain ⟨b1, b2, b3⟩ := dps_of ih rs h.2
    refine ⟨.cons a1 b1, ?_, ?_⟩
    · simp only [toPs, PyData.canLayAll0, a2, b2, Bool.and_self]
    · simp only [toPs, PyData.depthAll]
      omega
theorem dp_of {K : PySem.W.Frag} {H : Hp} {μ : List Addr} : ∀ (n : Nat) {d : DV} {v : V}, RV K H μ d v → okD n d = true → Dp K H v (toP d) ∧ (toP d).canLay0 = true ∧ (toP d).depth ≤ n + 1
  | n, _, _, .non, _ => ⟨.non, by simp [toP, PyData.canLay0], by simp [toP, PyData.depth]⟩
  | n, _, _, .bl b, _ => ⟨.bl b, by simp [toP, PyData.canLay0], by simp [toP, PyData.depth]⟩
  | n, _, _, .int b, _ => ⟨.int b, by simp [toP, PyData.canLay0], by simp [toP, PyData.depth]⟩
  | n, _, _, .str b, h => ⟨.str b, by cases n <;> simpa [toP, PyData.canLay0, okD] using h, by simp [toP, PyData.depth]⟩
  | 0, _, _, .tup s z rs, h => by simp [okD] at h
  | n + 1, _, _, .tup s z rs, h => by
    have h' := h
    simp only [okD] at h'
    obtain ⟨a1, a2, a3⟩ := dps_of (fun r q => dp_of n r q) rs h'
    exact ⟨.tup s a1, by simpa [toP, PyData.canLay0] using a2, by simp only [toP, PyData.depth]; omega⟩
  | n, _, _, .ref _, h => by cases n <;> simp [okD] at h
  | n, _, _, .scr _ _ _, h => by cases n <;> simp [okD] at h
theorem shaped_of {p : PyData} (h1 : p.canLay0 = true) (h2 : p.depth ≤ 20) : SeqAt.shaped p = true := by
  unfold SeqAt.shaped
  rw [h1, Bool.true_and]
  exact decide_eq_true (by omega)
theorem toPS_of {K : PySem.W.Frag} {H : Hp} {μ : List Addr} {st : Sto} {d : DV} {v : V} {p : PyData} (hs : RS K H μ st) (r : RV K H μ d v) (h : toPS st d = some p) : Dp K H v p ∧ SeqAt.shaped p = true := by
  have flat : ∀ {d : DV} {v : V}, RV K H μ d v → (if okD 8 d = true then some (toP d) else none) = some p → Dp K H v p ∧ SeqAt.shaped p = true := fun {d v} r h => by
    split at h
    · rename_i hk
      cases h
      obtain ⟨a1, a2, a3⟩ := dp_of 8 r hk
      exact ⟨a1, shaped_of a2 (by omega)⟩
    · exact nomatch h
  cases r with
  | @ref l a hl =>
    have h : (match st[l]? with
      | some (.lst ds) => if ds.all (okD 8) = true then some (PyData.list (toPs ds)) else none
      | _ => none) = some p := h
    split at h
    · rename_i ds e
      split at h
      · rename_i hk
        cases h
        have c := hs.cell l a _ hl e
        cases c with
        | lst h z rs =>
          obtain ⟨a1, a2, a3⟩ := dps_of (fun r q => dp_of 8 r q) rs hk
          exact ⟨.lst (SqL.of h) a1, shaped_of (by simpa [PyData.canLay0] using a2) (by simp only [PyData.depth]; omega)⟩
      · exact nomatch h
    · exact nomatch h
  | non => exact flat .non h
  | bl b => exact flat (.bl b) h
  | int b => exact flat (.int b) h
  | str b => exact flat (.str b) h
  | tup s z rs => exact flat (.tup s z rs) h
  | scr s z rs => exact flat (.scr s z rs) h
def gEq : G2 := fun x y st => match toPS st x, toPS st y with
  | some p, some q => some (.bl (PyData.eqv p q), st)
  | _, _ => none
def gNe : G2 := fun x y st => match toPS st x, toPS st y with
  | some p, some q => some (.bl (!PyData.eqv p q), st)
  | _, _ => none
theorem od_eq (hu : X.A.units + 64 < cLine) : OpD X (compareOp .Eq) gEq := by
  intro pins s σ H x y v u Q I rx ry ⟨st, μ, dx, dy, d, st', hs, r1, r2, hg, hq⟩
  unfold gEq at hg
  split at hg
  · rename_i p q e1 e2
    cases hg
    obtain ⟨a1, a2⟩ := toPS_of hs r1 e1
    obtain ⟨b1, b2⟩ := toPS_of hs r2 e2
    exact op_eqD hu pins s σ H _ _ v u Q I rx ry ⟨p, q, a1, b1, a2, b2, hq H μ _ Ext.refl hs (.bl _)⟩
  · exact nomatch hg
theorem od_ne (hu : X.A.units + 64 < cLine) : OpD X (compareOp .NotEq) gNe := by
  intro pins s σ H x y v u Q I rx ry ⟨st, μ, dx, dy, d, st', hs, r1, r2, hg, hq⟩
  unfold gNe at hg
  split at hg
  · rename_i p q e1 e2
    cases hg
    obtain ⟨a1, a2⟩ := toPS_of hs r1 e1
    obtain ⟨b1, b2⟩ := toPS_of hs r2 e2
    exact op_neD hu pins s σ H _ _ v u Q I rx ry ⟨p, q, a1, b1, a2, b2, hq H μ _ Ext.refl hs (.bl _)⟩
  · exact nomatch hg

/-! ### in -/
def flatD : DV → Bool
  | .non => true
  | .bl _ => true
  | .int _ => true
  | .str _ => true
  | _ => false
/-- == of flat data -/
def eqF : DV → DV → Bool
  | .non, .non => true
  | .bl a, .bl b => a == b
  | .bl a, .int b => (if a then 1 else 0) == b
  | .int a, .bl b => a == (if b then 1 else 0)
  | .int a, .int b => a == b
  | .str a, .str b => a == b
  | _, _ => false
theorem flat_of {K : PySem.W.Frag} {H : Hp} {μ : List Addr} {d : DV} {v : V} (r : RV K H μ d v) (h : flatD d = true) : flatV v = true := by
  cases r <;> first | rfl | (simp [flatD] at h; done)
theorem flats_of {K : PySem.W.Frag} {H : Hp} {μ : List Addr} : ∀ {ds : List DV} {vs : List V}, RVs K H μ ds vs → ds.all flatD = true → vs.all flatV = true
  | _, _, .nil, _ => rfl
  | _, _, .cons r rs, h => by
    rw [List.all_cons, Bool.and_eq_true] at h
    rw [List.all_cons, flat_of r h.1, flats_of rs h.2]; rfl
theorem eqF_of {K : PySem.W.Frag} {H : Hp} {μ : List Addr} {d c : DV} {v w : V} (r : RV K H μ d v) (q : RV K H μ c w) (h1 : flatD d = true) (h2 : flatD c = true) : eqV v w = eqF d c := by
  cases r <;> first | (simp [flatD] at h1; done) | (cases q <;> first | rfl | (simp [flatD] at h2; done))
def inD (x : DV) (ds : List DV) : Bool := ds.any fun y => eqF y x
theorem inD_of {K : PySem.W.Frag} {H : Hp} {μ : List Addr} {d : DV} {v : V} (r : RV K H μ d v) (h1 : flatD d = true) : ∀ {ds : List DV} {vs : List V}, RVs K H μ ds vs → ds.all flatD = true → inV v vs = inD d ds
  | _, _, .nil, _ => rfl
  | _, _, .cons q qs, h => by
    rw [List.all_cons, Bool.and_eq_true] at h
    have ih := inD_of r h1 qs h.2
    unfold inV inD at ih ⊢
    rw [List.any_cons, List.any_cons, ih, eqF_of q r h.1 h1]
/-- a dict's entry -/
def keyD : DV → Option Key
  | .int i => some (.inl i)
  | .str x => some (.inr x)
  | _ => none
def valD (kvs : List (Key × DV)) (k : Key) : Option DV := (kvs.find? fun kv => decide (kv.1 = k)).map (·.2)
theorem key_of {K : PySem.W.Frag} {H : Hp} {μ : List Addr} {d : DV} {v : V} {k : Key} (r : RV K H μ d v) (h : keyD d = some k) : v = kV k := by
  cases r <;> first | (cases h; rfl) | (simp [keyD] at h; done)
theorem val_of {K : PySem.W.Frag} {H : Hp} {μ : List Addr} (k : Key) : ∀ {ds : List (Key × DV)} {vs : List (Key × V)}, RKs K H μ ds vs → (valD ds k = none ∧ valV vs k = none) ∨ ∃ d v, valD ds k = some d ∧ valV vs k = some v ∧ RV K H μ d v
  | _, _, .nil => .inl ⟨rfl, rfl⟩
  | _, _, @RKs.cons _ _ _ k' d v ds vs r rs => by
    by_cases e : k' = k
    · subst e
      exact .inr ⟨d, v, by simp [valD], by simp [valV], r⟩
    · rcases val_of k rs with ⟨h1, h2⟩ | ⟨d', v', h1, h2, h3⟩
      · exact .inl ⟨by simpa [valD, List.find?_cons, e] using h1, by simpa [valV, List.find?_cons, e] using h2⟩
      · exact .inr ⟨d', v', by simpa [valD, List.find?_cons, e] using h1, by simpa [valV, List.find?_cons, e] using h2, h3⟩
def gInN (neg : Bool) : G2 := fun x y st => match itemsOf st y with
  | some ds => if flatD x = true ∧ ds.all flatD = true then some (.bl (if neg then !inD x ds else inD x ds), st) else none
  | none => match y with
    | .ref l => match st[l]?, keyD x with
      | some (.dct kvs), some k => some (.bl (if neg then !(valD kvs k).isSome else (valD kvs k).isSome), st)
      | _, _ => none
    | _ => none
theorem od_inN (neg : Bool) {op : CmpOp} (h1 : OpR X (compareOp op) (rIn X.K neg)) (h2 : ∀ (pins : List (Addr × Obj)) (s : Shared) (σ : L2.St) (H : Hp) (a : Addr) (y : V) (o : Option V) (u : Value) (Q : VK), Inv X pins σ H s → DGet H a y o → RelV y u →
      Q (.bl (if neg then !o.isSome else o.isSome)) H → wpAny (model X.prog X.w) X.A (compareOp op u (.ref a)) (EP X pins σ Q) X.xe s) : OpD X (compareOp op) (gInN neg) := by
  intro pins s σ H x y v u Q I rx ry ⟨st, μ, dx, dy, d, st', hs, r1, r2, hg, hq⟩
  unfold gInN at hg
  split at hg
  · rename_i ds e
    split at hg
    · rename_i hf
      cases hg
      obtain ⟨a, vs, rfl, hsq, hl, rs⟩ := items_read hs e r2
      refine h1 pins s σ H _ _ v u Q I rx ry ⟨a, vs, rfl, hsq, flat_of r1 hf.1, flats_of rs hf.2, ?_⟩
      rw [inD_of r1 hf.1 rs hf.2]
      exact hq H μ _ Ext.refl hs (.bl _)
    · exact nomatch hg
  · split at hg
    · rename_i lc _
      split at hg
      · rename_i kvs k e1 e2
        cases hg
        cases r2 with
        | @ref _ a hl =>
          have c := hs.cell lc a _ hl e1
          cases c with
          | dct h z rk =>
            cases ry
            have ek := key_of r1 e2
            subst ek
            refine h2 pins s σ H a _ _ v Q I (DGet.k h) rx ?_
            rcases val_of k rk with ⟨q1, q2⟩ | ⟨d', v', q1, q2, _⟩
            · rw [q2]; rw [q1] at hq; exact hq H μ _ Ext.refl hs (.bl _)
            · rw [q2]; rw [q1] at hq; exact hq H μ _ Ext.refl hs (.bl _)
      · exact nomatch hg
    · exact nomatch hg
def gIn : G2 := gInN false
def gNotIn : G2 := gInN true
theorem od_in (hu : X.A.units + 1 < cLine) : OpD X (compareOp .In) gIn := od_inN false op_in_seq fun pins s σ H a y o u Q I g r q => d_in hu I g r fun s' I' => ⟨.bl _, H, I', rfl, q⟩
theorem od_notin (hu : X.A.units + 1 < cLine) : OpD X (compareOp .NotIn) gNotIn := od_inN true op_notIn_seq fun pins s σ H a y o u Q I g r q => d_notIn hu I g r fun s' I' => ⟨.bl _, H, I', rfl, q⟩
/-! ### -n -/
def mNeg (m : ME DV) : ME DV := ME.bind m fun d => match d with | .int i => ME.pure (.int (-i)) | _ => fun _ _ => none
theorem de_neg {e : Expr} {m : ME DV} {pos : Pos} (h : DE X e m) : DE X (.UnaryOp .USub e pos) (mNeg m) := by
  refine pe_imp (pe_un un_neg h) fun σ H Q ⟨e, st, μ, d, st', he, hs, hm, hq⟩ => ?_
  obtain ⟨x, st1, h1, hm⟩ := bind_some hm
  refine ⟨e, st, μ, x, st1, he, hs, h1, fun H1 μ1 v x1 hs1 rv => ?_⟩
  cases x with
  | int k => cases rv; cases hm; exact ⟨k, rfl, hq H1 μ1 _ x1 hs1 (.int _)⟩
  | _ => cases hm
end
end DL

/-! DL4: subscripts, slices, calls by data. -/
namespace DL
open PySem PySem.Spec PyProof.Rows L2

section
variable {X : Cx} {a b c e : Expr} {es : List Expr} {ma mb mc : ME DV} {pos : Pos}
/-! ### subscripts -/
def gIx : G2 := fun x y st => match y with
  | .int i => match itemsOf st x with
    | some ds => (atI ds i).map (·, st)
    | none => none
  | _ => none
theorem ixr_imp {r r' : R2} (h : IxR X r) (i : ∀ x y H Q, r' x y H Q → r x y H Q) : IxR X r' := fun value slice pins s σ H x y v u Q I rx ry q => h value slice pins s σ H x y v u Q I rx ry (i _ _ _ _ q)
theorem atI_rel {K : PySem.W.Frag} {H : Hp} {μ : List Addr} {ds : List DV} {vs : List V} {i : Int} {d : DV} (r : RVs K H μ ds vs) (h : atI ds i = some d) : ∃ v, atI vs i = some v ∧ RV K H μ d v := by
  unfold atI at h ⊢
  rw [r.length] at h
  cases q : ixN vs.length i with
  | none => rw [q] at h; cases h
  | some j =>
    rw [q] at h
    exact r.get h
theorem id_seq : IxR X (rB X.K gIx) := by
  refine ixr_imp (ix_list.or ix_tup) fun x y H Q ⟨st, μ, dx, dy, d, st', hs, r1, r2, hg, hq⟩ => ?_
  unfold gIx at hg
  split at hg
  · split at hg
    · rename_i ds e
      cases q : atI ds _ with
      | none => rw [q] at hg; cases hg
      | some d0 =>
        rw [q] at hg
        cases hg
        cases r2
        obtain ⟨a, vs, rfl, hsq, hl, rs⟩ := items_read hs e r1
        obtain ⟨v, h1, h2⟩ := atI_rel rs q
        rcases hsq with hsq | hsq
        · exact .inl ⟨a, vs, _, v, rfl, rfl, hsq, h1, hq H μ v Ext.refl hs h2⟩
        · exact .inr ⟨a, vs, _, v, rfl, rfl, hsq, h1, hq H μ v Ext.refl hs h2⟩
    · cases hg
  · cases hg
theorem de_ix (ha : DE X a ma) (hb : DE X b mb) (hs : PlainIx b := by intro _ _; rfl) : DE X (.Subscript a b pos) (mBin gIx ma mb) := pe_imp (pe_ix id_seq ha hb hs) bin_read
/-- d[k] -/
def gDGet : G2 := fun x y st => match x with
  | .ref l => match st[l]?, keyD y with
    | some (.dct kvs), some k => (valD kvs k).map (·, st)
    | _, _ => none
  | _ => none
theorem dct_read {K : PySem.W.Frag} {H : Hp} {μ : List Addr} {st : Sto} {l : Nat} {a : Addr} {kvs : List (Key × DV)} (hs : RS K H μ st) (h : st[l]? = some (.dct kvs)) (hl : μ[l]? = some a) : ∃ ws, H a = some (.dK ws) ∧ ws.length ≤ sizeLine ∧ RKs K H μ kvs ws := by
  have c := hs.cell l a _ hl h
  cases c with
  | dct h z rk => exact ⟨_, h, z, rk⟩
theorem de_dget (hu : X.A.units + 1 < cLine) (ha : DE X a ma) (hb : DE X b mb) (hs : NoSl b := by intro _ _; rfl) : DE X (.Subscript a b pos) (mBin gDGet ma mb) := by
  refine pe_imp (pe_dget hu ha hb hs) fun σ H Q ⟨e, st, μ, d, st', he, hs, hm, hq⟩ => ?_
  obtain ⟨x, st1, h1, hm⟩ := bind_some hm
  obtain ⟨y, st2, h2, hm⟩ := bind_some hm
  refine ⟨e, st, μ, x, st1, he, hs, h1, fun H1 μ1 v x1 hs1 rv => ?_⟩
  refine ⟨e, st1, μ1, y, st2, he.ext x1, hs1, h2, fun H2 μ2 w x2 hs2 rw' => ?_⟩
  unfold gDGet at hm
  split at hm
  · rename_i l
    split at hm
    · rename_i kvs k e1 e2
      cases rv with
      | @ref _ ad hl =>
        obtain ⟨ws, h3, z, rk⟩ := dct_read hs2 e1 (x2.at hl)
        have ek := key_of rw' e2
        subst ek
        rcases val_of k rk with ⟨q1, q2⟩ | ⟨d', v', q1, q2, q3⟩
        · rw [q1] at hm; cases hm
        · rw [q1] at hm
          cases hm
          exact ⟨ad, v', rfl, by rw [← q2]; exact DGet.k h3, hq H2 μ2 v' (x1.trans x2) hs2 q3⟩
    · cases hm
  · cases hm
/-- d.get(k, x) -/
def mGet2 (md mk mx : ME DV) : ME DV := ME.bind md fun x => fun e st => match x with
  | .ref l => match st[l]? with
    | some (.dct _) => (ME.bind mk fun y => ME.bind mx fun z => fun _ st => match st[l]?, keyD y with
      | some (.dct kvs), some k => some ((valD kvs k).getD z, st)
      | _, _ => none) e st
    | _ => none
  | _ => none
theorem de_get2 {o f : Expr} {apos : Pos} (hu : X.A.units + 1 < cLine) (ho : DE X o ma) (he : DE X e mb) (hf : DE X f mc)
    (m : M2 X o "get" apos e f pos := by exact ⟨rfl, rfl, rfl, rfl⟩) : DE X (.Call (.Attribute o "get" apos) [e, f] [] pos) (mGet2 ma mb mc) := by
  refine pe_imp (pe_dget2 hu ho he hf m) fun σ H Q ⟨e, st, μ, d, st', he, hs, hm, hq⟩ => ?_
  obtain ⟨x, st1, h1, hm⟩ := bind_some hm
  refine ⟨e, st, μ, x, st1, he, hs, h1, fun H1 μ1 v x1 hs1 rv => ?_⟩
  split at hm
  · rename_i l
    split at hm
    · rename_i kvs0 e0
      obtain ⟨y, st2, h2, hm⟩ := bind_some hm
      obtain ⟨z, st3, h3, hm⟩ := bind_some hm
      cases rv with
      | @ref _ ad hl =>
        obtain ⟨ws0, h30, _, _⟩ := dct_read hs1 e0 hl
        refine ⟨ad, rfl, .inl ⟨_, .inl h30⟩, ?_⟩
        refine ⟨e, st1, μ1, y, st2, he.ext x1, hs1, h2, fun H2 μ2 w x2 hs2 rw' => ?_⟩
        refine ⟨e, st2, μ2, z, st3, he.ext (x1.trans x2), hs2, h3, fun H3 μ3 zv x3 hs3 rz => ?_⟩
        split at hm
        · rename_i kvs k e1 e2
          obtain ⟨ws, h4, z4, rk⟩ := dct_read hs3 e1 (x3.at (x2.at hl))
          have ek := key_of rw' e2
          subst ek
          cases hm
          refine ⟨valV ws k, DGet.k h4, ?_⟩
          rcases val_of k rk with ⟨q1, q2⟩ | ⟨d', v', q1, q2, q3⟩
          · rw [q2]
            rw [q1] at hq
            exact hq H3 μ3 zv (x1.trans (x2.trans x3)) hs3 rz
          · rw [q2]
            rw [q1] at hq
            exact hq H3 μ3 v' (x1.trans (x2.trans x3)) hs3 q3
        · cases hm
    · cases hm
  · cases hm

/-! ### written dicts of the top -/
/-- the dict at p holds at these texts these data -/
def lookS (tbl : List (Str × DV)) (z : Str) : Option DV := match tbl with
  | [] => none
  | (y, d) :: r => if y = z then some d else lookS r z
def KTab (K : PySem.W.Frag) (w : World) (p : Addr) (tbl : List (Str × DV)) : Prop := ∀ z d, lookS tbl z = some d → ∃ v, KDct K w p z v ∧ ∀ H μ, RV K H μ d v
theorem ktab_nil {K : PySem.W.Frag} {w : World} {p : Addr} : KTab K w p [] := fun z d h => by cases h
theorem ktab_cons {K : PySem.W.Frag} {w : World} {p : Addr} {y : Str} {d : DV} {v : V} {r : List (Str × DV)} (h : KDct K w p y v) (hd : ∀ H μ, RV K H μ d v) (hr : KTab K w p r) : KTab K w p ((y, d) :: r) := fun z d' e => by
  unfold lookS at e
  split at e
  · rename_i q
    subst q
    cases e
    exact ⟨v, h, hd⟩
  · exact hr z d' e
def mKix (tbl : List (Str × DV)) (m : ME DV) : ME DV := ME.bind m fun d => fun _ st => match d with
  | .str z => (lookS tbl z).map (·, st)
  | _ => none
theorem de_kix {x : Str} {p : Addr} {px : Pos} {tbl : List (Str × DV)} (hg : Gl X x) (hm : X.mg x = some (.ref p)) (ht : KTab X.K X.w p tbl) (hb : DE X b mb) (hs : PlainIx b := by intro _ _; rfl) (hd : (x == ("__debug__" : Str)) = false := by decide) : DE X (.Subscript (.Name x px) b pos) (mKix tbl mb) := by
  refine pe_imp (pe_ix ix_kdict (pe_glob hg hm (v := .ref p) rfl hd) hb hs) fun σ H Q ⟨e, st, μ, d, st', he, hs, hm, hq⟩ => ?_
  obtain ⟨y, st1, h1, hm⟩ := bind_some hm
  refine ⟨e, st, μ, y, st1, he, hs, h1, fun H1 μ1 w x1 hs1 rw' => ?_⟩
  cases y with
  | str z =>
    cases rw'
    have hm : (lookS tbl z).map (·, st1) = some (d, st') := hm
    cases q : lookS tbl z with
    | none => rw [q] at hm; cases hm
    | some d0 =>
      rw [q] at hm
      obtain ⟨v, h2, h3⟩ := ht z d0 q
      cases hm
      exact ⟨p, z, v, rfl, rfl, h2, hq H1 μ1 v x1 hs1 (h3 _ _)⟩
  | _ => cases hm
/-- x in D, x not in D where it is in -/
def gKin (neg : Bool) (tbl : List (Str × DV)) : DV → Sto → Option (DV × Sto) := fun d st => match d with
  | .str z => match lookS tbl z with
    | some _ => some (.bl (!neg), st)
    | none => none
  | _ => none
def mKin (neg : Bool) (tbl : List (Str × DV)) (m : ME DV) : ME DV := ME.bind m fun d => fun _ st => gKin neg tbl d st
def rKin (K : PySem.W.Frag) (w : World) (neg : Bool) : R2 := fun x y H Q => ∃ p z v, x = .str z ∧ y = .ref p ∧ (p == sysModules) = false ∧ KDct K w p z v ∧ Q (.bl (!neg)) H
theorem ok_in : OpR X (compareOp .In) (rKin X.K X.w false) := by
  intro pins s σ H x y v u Q I rx ry h
  obtain ⟨p, z, r, rfl, rfl, hp, ⟨es, n, u0, hl, hk, e, ru⟩, q⟩ := h
  obtain rfl : u = Value.ref p := ry
  obtain ⟨t, rfl⟩ := rx
  have hm := PySem.W.mapOf_K (prog := X.prog) (w := X.w) I.kIn hl hk
  refine wpAny_in_of (strKind_is X.prog X.w z t) hp hm ?_
  rw [PySem.W.find_K hl e]
  exact ⟨.bl true, H, I.tok _, rfl, q⟩
theorem ok_notin : OpR X (compareOp .NotIn) (rKin X.K X.w true) := by
  intro pins s σ H x y v u Q I rx ry h
  obtain ⟨p, z, r, rfl, rfl, hp, ⟨es, n, u0, hl, hk, e, ru⟩, q⟩ := h
  obtain rfl : u = Value.ref p := ry
  obtain ⟨t, rfl⟩ := rx
  have hm := PySem.W.mapOf_K (prog := X.prog) (w := X.w) I.kIn hl hk
  refine wpAny_notIn_of (strKind_is X.prog X.w z t) hp hm ?_
  rw [PySem.W.find_K hl e]
  exact ⟨.bl false, H, I.tok _, rfl, q⟩
theorem kin_read {neg : Bool} {p : Addr} {tbl : List (Str × DV)} (hp : (p == sysModules) = false) (ht : KTab X.K X.w p tbl) : ∀ σ H Q, tD X.K (mKin neg tbl ma) σ H Q → tOp (rKin X.K X.w neg) (tD X.K ma) (tC (.ref p)) σ H Q := by
  intro σ H Q ⟨e, st, μ, d, st', he, hs, hm, hq⟩
  obtain ⟨y, st1, h1, hm⟩ := bind_some hm
  refine ⟨e, st, μ, y, st1, he, hs, h1, fun H1 μ1 w x1 hs1 rw' => ?_⟩
  unfold gKin at hm
  split at hm
  · rename_i z
    split at hm
    · rename_i d0 q
      obtain ⟨v, h2, h3⟩ := ht z d0 q
      cases hm
      cases rw'
      exact ⟨p, z, v, rfl, rfl, hp, h2, hq H1 μ1 _ x1 hs1 (.bl _)⟩
    · cases hm
  · cases hm
theorem dt_kin {x : Str} {p : Addr} {px : Pos} {tbl : List (Str × DV)} (hg : Gl X x) (hm : X.mg x = some (.ref p)) (hp : (p == sysModules) = false) (ht : KTab X.K X.w p tbl) (ha : DE X a ma) (hd : (x == ("__debug__" : Str)) = false := by decide) : DT X (.Compare a [.In] [.Name x px] pos) (mTst (mKin false tbl ma)) :=
  pt_imp (pt_cmpR ok_in ha (pe_glob hg hm (v := .ref p) rfl hd) rfl) (tst_read (kin_read hp ht))
theorem dt_knotin {x : Str} {p : Addr} {px : Pos} {tbl : List (Str × DV)} (hg : Gl X x) (hm : X.mg x = some (.ref p)) (hp : (p == sysModules) = false) (ht : KTab X.K X.w p tbl) (ha : DE X a ma) (hd : (x == ("__debug__" : Str)) = false := by decide) : DT X (.Compare a [.NotIn] [.Name x px] pos) (mTst (mKin true tbl ma)) :=
  pt_imp (pt_cmpR ok_notin ha (pe_glob hg hm (v := .ref p) rfl hd) rfl) (tst_read (kin_read hp ht))

/-! ### slices -/
abbrev MO := ME (Option Int)
def tOD (K : PySem.W.Frag) (m : MO) : TO := fun σ H Q => ∃ e st μ o st', RE K H μ e σ ∧ RS K H μ st ∧ m e st = some (o, st') ∧
  ∀ H' μ', Ext H μ H' μ' → RS K H' μ' st' → Q o H'
def DO' (X : Cx) (e : Option Expr) (m : MO) : Prop := PO X e (tOD X.K m)
theorem do_none : DO' X none (ME.pure none) := ⟨fun pins s σ H Q I h => po_none.run pins s σ H Q I (by
  obtain ⟨e, st, μ, o, st', he, hs, hm, hq⟩ := h
  cases hm
  exact hq H μ Ext.refl hs)⟩
def mSome (m : ME DV) : MO := ME.bind m fun d => match d with | .int i => ME.pure (some i) | _ => fun _ _ => none
theorem do_some (h : DE X a ma) : DO' X (some a) (mSome ma) := ⟨fun pins s σ H Q I q => (po_some h).run pins s σ H Q I (by
  obtain ⟨e, st, μ, o, st', he, hs, hm, hq⟩ := q
  obtain ⟨x, st1, h1, hm⟩ := bind_some hm
  refine ⟨e, st, μ, x, st1, he, hs, h1, fun H1 μ1 v x1 hs1 rv => ?_⟩
  cases x with
  | int i => cases rv; cases hm; exact ⟨i, rfl, hq H1 μ1 x1 hs1⟩
  | _ => cases hm)⟩
def cutD {α : Type} (xs : List α) (lo hi : Option Int) : List α := (xs.drop (HT.sIx xs.length 0 lo)).take (HT.sIx xs.length xs.length hi - HT.sIx xs.length 0 lo)
theorem cut_rel {K : PySem.W.Frag} {H : Hp} {μ : List Addr} {ds : List DV} {vs : List V} (r : RVs K H μ ds vs) (lo hi : Option Int) : RVs K H μ (cutD ds lo hi) (cutV vs lo hi) := by
  unfold cutD cutV
  rw [r.length]
  exact (r.drop _).take _
/-- t[lo:hi] of a tuple; of a list: a new one -/
def gSl (x : DV) (lo hi : Option Int) (st : Sto) : Option (DV × Sto) := match x with
  | .tup ds => some (.tup (cutD ds lo hi), st)
  | d => match itemsOf st d with
    | some ds => some (.ref st.length, st ++ [.lst (cutD ds lo hi)])
    | none => none
def mSl (m : ME DV) (l h : MO) : ME DV := ME.bind m fun x => ME.bind l fun lo => ME.bind h fun hi => fun _ st => gSl x lo hi st
theorem cut_all {vs : List V} {lo hi : Option Int} (h : HT.sIx vs.length 0 lo = 0 ∧ HT.sIx vs.length vs.length hi = vs.length) : cutV vs lo hi = vs := by
  unfold cutV
  rw [h.1, h.2, List.drop_zero, Nat.sub_zero, List.take_length]
theorem lst_read {K : PySem.W.Frag} {H : Hp} {μ : List Addr} {st : Sto} {l : Nat} {a : Addr} {ds : List DV} (hs : RS K H μ st) (h : itemsOf st (.ref l) = some ds) (hl : μ[l]? = some a) : ∃ vs, H a = some (.lst vs) ∧ vs.length ≤ sizeLine ∧ RVs K H μ ds vs := by
  have h : (match st[l]? with
    | some (.lst ds) => some ds
    | _ => none) = some ds := h
  split at h
  · rename_i ds' e'
    injection h with h
    subst h
    have := hs.cell l a _ hl e'
    cases this with
    | lst h z rs => exact ⟨_, h, z, rs⟩
  · exact nomatch h
theorem de_sl {lo hi : Option Expr} {ml mh : MO} {p2 : Pos} (ha : DE X a ma) (hl : DO' X lo ml) (hh : DO' X hi mh) : DE X (.Subscript a (.Slice lo hi none p2) pos) (mSl ma ml mh) := by
  refine pe_imp (pe_slice (sl_tupA.or sl_list) ha hl hh) fun σ H Q ⟨e, st, μ, d, st', he, hs, hm, hq⟩ => ?_
  obtain ⟨x, st1, h1, hm⟩ := bind_some hm
  obtain ⟨lo', st2, h2, hm⟩ := bind_some hm
  obtain ⟨hi', st3, h3, hm⟩ := bind_some hm
  refine ⟨e, st, μ, x, st1, he, hs, h1, fun H1 μ1 v x1 hs1 rv => ?_⟩
  refine ⟨e, st1, μ1, lo', st2, he.ext x1, hs1, h2, fun H2 μ2 x2 hs2 => ?_⟩
  refine ⟨e, st2, μ2, hi', st3, he.ext (x1.trans x2), hs2, h3, fun H3 μ3 x3 hs3 => ?_⟩
  have rv3 := (rv.ext x2).ext x3
  have x123 := x1.trans (x2.trans x3)
  have lst : ∀ {ds : List DV} {ad : Addr} {vs : List V}, v = .ref ad → SqL X.K H3 ad vs → vs.length ≤ sizeLine → RVs X.K H3 μ3 ds vs → d = .ref st3.length → st' = st3 ++ [.lst (cutD ds lo' hi')] → rSlA X.K v lo' hi' H3 Q ∨ rSlL X.K v lo' hi' H3 Q := by
    intro ds ad vs ev sq z rs ed est
    subst ed est
    refine .inr ⟨ad, vs, ev, sq, fun p hp => ?_⟩
    have hs' := hs3.new (o := .lst (cutV vs lo' hi')) hp
    have hpm : p ∉ μ3 := fun z => hs3.trk z hp
    have z2 : (cutV vs lo' hi').length ≤ sizeLine := Nat.le_trans (cutV_length _ _ _) z
    exact hq _ (μ3 ++ [p]) (.ref p) (x123.trans (ext_mu hp (ext_new hp) hp)) (hs'.adopt hpm (.lst upd_same z2 ((cut_rel rs lo' hi').ext (ext_new hp)))) (.ref (at_end hs3.len))
  cases rv3 with
  | @tup ad ds vs sq z rs =>
    cases hm
    refine .inl ⟨ad, vs, rfl, sq, fun hw => ?_, fun hw p hp => ?_⟩
    · refine hq H3 μ3 _ x123 hs3 (.tup sq z ?_)
      have := cut_rel rs lo' hi'
      rw [cut_all hw] at this
      exact this
    · have z2 : (cutV vs lo' hi').length ≤ sizeLine := Nat.le_trans (cutV_length _ _ _) z
      exact hq _ μ3 _ (x123.trans (ext_new hp)) (hs3.new hp) (.tup (SqT.of upd_same) z2 ((cut_rel rs lo' hi').ext (ext_new hp)))
  | @scr ad ds vs sq z rs =>
    cases hm
    exact lst rfl sq.sql z rs rfl rfl
  | @ref l ad hl =>
    have hm : (match itemsOf st3 (.ref l) with
      | some ds => some (DV.ref st3.length, st3 ++ [DO.lst (cutD ds lo' hi')])
      | none => none) = some (d, st') := hm
    split at hm
    · rename_i ds e
      cases hm
      obtain ⟨vs, h, z, rs⟩ := lst_read hs3 e hl
      exact lst rfl (SqL.of h) z rs rfl rfl
    · cases hm
  | non => cases hm
  | bl b => cases hm
  | int b => cases hm
  | str b => cases hm
end
end DL

/-! DL5: calls by data. -/
namespace DL
open PySem PySem.Spec PyProof.Rows L2

section
variable {X : Cx} {a b c e o : Expr} {es : List Expr} {ma mb mc : ME DV} {mq : ME (List DV)} {pos p apos : Pos}
/-! ### built-ins of a sequence -/
def mLen (m : ME (List DV)) : ME DV := ME.bind m fun ds => ME.pure (.int ds.length)
theorem de_len (hm : X.mg "len" = none) (h : DQ X e mq) (hg : Gl X "len" := by rfl) (hs : starEach [e] X.env = (false, eval e X.env) :: starEach [] X.env := by rfl) (hpl : (backTo pos (starEach [] X.env)).any (·.1) = false := by rfl) : DE X (.Call (.Name "len" p) [e] [] pos) (mLen mq) := by
  refine pe_imp (pe_callB call_len_seq hg hm PySem.boot_len (pa_cons h pa_nil hs) (he := hs) (hpl := hpl)) fun σ H Q ⟨e, st, μ, d, st', he, hs, hm, hq⟩ => ?_
  obtain ⟨ds, st1, h1, hm⟩ := bind_some hm
  cases hm
  refine ⟨e, st, μ, ds, _, he, hs, h1, fun H1 μ1 a vs x1 hs1 sq z rs => ⟨a, vs, rfl, sq, ?_⟩⟩
  rw [← rs.length]
  exact hq H1 μ1 _ x1 hs1 (.int _)
def mTupOf (m : ME (List DV)) : ME DV := ME.bind m fun ds => ME.pure (.tup ds)
theorem de_tupOf (hm : X.mg "tuple" = none) (h : DQ X e mq) (hg : Gl X "tuple" := by rfl) (hs : starEach [e] X.env = (false, eval e X.env) :: starEach [] X.env := by rfl) (hpl : (backTo pos (starEach [] X.env)).any (·.1) = false := by rfl) : DE X (.Call (.Name "tuple" p) [e] [] pos) (mTupOf mq) := by
  refine pe_imp (pe_callTy call_tuple_of hg hm (by decide +kernel) (pa_cons h pa_nil hs) (he := hs) (hpl := hpl)) fun σ H Q ⟨e, st, μ, d, st', he, hs, hm, hq⟩ => ?_
  obtain ⟨ds, st1, h1, hm⟩ := bind_some hm
  cases hm
  refine ⟨e, st, μ, ds, _, he, hs, h1, fun H1 μ1 a vs x1 hs1 sq z rs => ⟨a, vs, rfl, ?_⟩⟩
  rcases sq with sq | sq
  · exact .inl ⟨sq, fun l hl => hq _ μ1 _ (x1.trans (ext_new hl)) (hs1.new hl) (.tup (SqT.of upd_same) z (rs.ext (ext_new hl)))⟩
  · exact .inr ⟨sq, hq H1 μ1 _ x1 hs1 (.tup sq z rs)⟩
theorem df_listOf (hm : X.mg "list" = none) (h : DQ X e mq) (hg : Gl X "list" := by rfl) (hs : starEach [e] X.env = (false, eval e X.env) :: starEach [] X.env := by rfl) (hpl : (backTo pos (starEach [] X.env)).any (·.1) = false := by rfl) : DF X (.Call (.Name "list" p) [e] [] pos) mq := by
  refine pe_imp (pe_callTy call_list_of hg hm (by decide +kernel) (pa_cons h pa_nil hs) (he := hs) (hpl := hpl)) fun σ H Q ⟨e, st, μ, d, st', he, hs, hm, hq⟩ => ?_
  refine ⟨e, st, μ, d, st', he, hs, hm, fun H1 μ1 a vs x1 hs1 sq z rs => ⟨a, vs, rfl, sq, fun l hl => ?_⟩⟩
  obtain ⟨n1, n2⟩ := fresh_new x1 hs1 hl
  exact hq _ μ1 l vs (x1.trans (ext_new hl)) (hs1.new hl) n1 n2 upd_same z (rs.ext (ext_new hl))
/-! ### all, any, sum of a new list -/
def toBls : List DV → Option (List Bool)
  | [] => some []
  | .bl b :: ds => (toBls ds).map (b :: ·)
  | _ :: _ => none
theorem bls_of {K : PySem.W.Frag} {H : Hp} {μ : List Addr} : ∀ {ds : List DV} {vs : List V} {bs : List Bool}, RVs K H μ ds vs → toBls ds = some bs → vs = bs.map V.bl
  | _, _, _, .nil, h => by cases h; rfl
  | d :: ds, _, bs, .cons r rs, h => by
    cases r with
    | bl b =>
      have h : (toBls ds).map (b :: ·) = some bs := h
      cases q : toBls ds with
      | none => rw [q] at h; cases h
      | some bs' =>
        rw [q] at h
        cases h
        rw [bls_of rs q, List.map_cons]
    | _ => cases h
def toIs : List DV → Option (List Int)
  | [] => some []
  | .int i :: ds => (toIs ds).map (i :: ·)
  | _ :: _ => none
theorem is_of {K : PySem.W.Frag} {H : Hp} {μ : List Addr} : ∀ {ds : List DV} {vs : List V} {bs : List Int}, RVs K H μ ds vs → toIs ds = some bs → vs = bs.map V.int
  | _, _, _, .nil, h => by cases h; rfl
  | d :: ds, _, bs, .cons r rs, h => by
    cases r with
    | int b =>
      have h : (toIs ds).map (b :: ·) = some bs := h
      cases q : toIs ds with
      | none => rw [q] at h; cases h
      | some bs' =>
        rw [q] at h
        cases h
        rw [is_of rs q, List.map_cons]
    | _ => cases h
theorem is_to {K : PySem.W.Frag} {H : Hp} {μ : List Addr} : ∀ (ns : List Int), RVs K H μ (ns.map DV.int) (ns.map V.int)
  | [] => .nil
  | n :: ns => .cons (.int n) (is_to ns)
def mAll (m : ME (List DV)) : ME DV := ME.bind m fun ds => fun _ st => match toBls ds with | some bs => some (.bl (bs.all id), st) | none => none
def mAny (m : ME (List DV)) : ME DV := ME.bind m fun ds => fun _ st => match toBls ds with | some bs => some (.bl (bs.any id), st) | none => none
def mSum (m : ME (List DV)) : ME DV := ME.bind m fun ds => fun _ st => match toIs ds with | some bs => some (.int bs.sum, st) | none => none
theorem de_all (hc : X.calm = true) (hm : X.mg "all" = none) (h : DF X e mq) (hg : Gl X "all" := by rfl) (hs : starEach [e] X.env = (false, eval e X.env) :: starEach [] X.env := by rfl) (hpl : (backTo pos (starEach [] X.env)).any (·.1) = false := by rfl) : DE X (.Call (.Name "all" p) [e] [] pos) (mAll mq) := by
  refine pe_imp (pe_callB (cr_all hc) hg hm (by decide +kernel) (pa_cons h pa_nil hs) (he := hs) (hpl := hpl)) fun σ H Q ⟨e, st, μ, d, st', he, hs, hm, hq⟩ => ?_
  obtain ⟨ds, st1, h1, hm⟩ := bind_some hm
  split at hm
  · rename_i bs eb
    cases hm
    refine ⟨e, st, μ, ds, _, he, hs, h1, fun H1 μ1 a vs x1 hs1 n1 n2 ha z rs => ⟨a, bs, rfl, ?_, hq H1 μ1 _ x1 hs1 (.bl _)⟩⟩
    rw [← bls_of rs eb]
    exact SqL.of ha
  · cases hm
theorem de_any (hc : X.calm = true) (hm : X.mg "any" = none) (h : DF X e mq) (hg : Gl X "any" := by rfl) (hs : starEach [e] X.env = (false, eval e X.env) :: starEach [] X.env := by rfl) (hpl : (backTo pos (starEach [] X.env)).any (·.1) = false := by rfl) : DE X (.Call (.Name "any" p) [e] [] pos) (mAny mq) := by
  refine pe_imp (pe_callB (cr_any hc) hg hm (by decide +kernel) (pa_cons h pa_nil hs) (he := hs) (hpl := hpl)) fun σ H Q ⟨e, st, μ, d, st', he, hs, hm, hq⟩ => ?_
  obtain ⟨ds, st1, h1, hm⟩ := bind_some hm
  split at hm
  · rename_i bs eb
    cases hm
    refine ⟨e, st, μ, ds, _, he, hs, h1, fun H1 μ1 a vs x1 hs1 n1 n2 ha z rs => ⟨a, bs, rfl, ?_, hq H1 μ1 _ x1 hs1 (.bl _)⟩⟩
    rw [← bls_of rs eb]
    exact SqL.of ha
  · cases hm
theorem de_sum (hc : X.calm = true) (hm : X.mg "sum" = none) (h : DF X e mq) (hg : Gl X "sum" := by rfl) (hs : starEach [e] X.env = (false, eval e X.env) :: starEach [] X.env := by rfl) (hpl : (backTo pos (starEach [] X.env)).any (·.1) = false := by rfl) : DE X (.Call (.Name "sum" p) [e] [] pos) (mSum mq) := by
  refine pe_imp (pe_callB (cr_sum hc) hg hm (by decide +kernel) (pa_cons h pa_nil hs) (he := hs) (hpl := hpl)) fun σ H Q ⟨e, st, μ, d, st', he, hs, hm, hq⟩ => ?_
  obtain ⟨ds, st1, h1, hm⟩ := bind_some hm
  split at hm
  · rename_i bs eb
    cases hm
    refine ⟨e, st, μ, ds, _, he, hs, h1, fun H1 μ1 a vs x1 hs1 n1 n2 ha z rs => ⟨a, bs, rfl, ?_, hq H1 μ1 _ x1 hs1 (.int _)⟩⟩
    rw [← is_of rs eb]
    exact SqL.of ha
  · cases hm
/-! ### int, min, max -/
def mInt (m : ME DV) : ME DV := ME.bind m fun d => match d with
  | .int i => ME.pure (.int i)
  | .bl b => ME.pure (.int (if b then 1 else 0))
  | _ => fun _ _ => none
theorem de_intOf (hm : X.mg "int" = none) (h : DE X e ma) (hg : Gl X "int" := by rfl) (hs : starEach [e] X.env = (false, eval e X.env) :: starEach [] X.env := by rfl) (hpl : (backTo pos (starEach [] X.env)).any (·.1) = false := by rfl) : DE X (.Call (.Name "int" p) [e] [] pos) (mInt ma) := by
  refine pe_imp (pe_callTy call_int1 hg hm (by decide +kernel) (pa_cons h pa_nil hs) (he := hs) (hpl := hpl)) fun σ H Q ⟨e, st, μ, d, st', he, hs, hm, hq⟩ => ?_
  obtain ⟨x, st1, h1, hm⟩ := bind_some hm
  refine ⟨e, st, μ, x, st1, he, hs, h1, fun H1 μ1 v x1 hs1 rv => ?_⟩
  cases x with
  | int i => cases rv; cases hm; exact .inl ⟨i, rfl, hq H1 μ1 _ x1 hs1 (.int _)⟩
  | bl i => cases rv; cases hm; exact .inr ⟨i, rfl, hq H1 μ1 _ x1 hs1 (.int _)⟩
  | _ => cases hm
def mMin2 (m n : ME DV) : ME DV := ME.bind m fun x => ME.bind n fun y => match x, y with
  | .int i, .int j => ME.pure (.int (if j < i then j else i))
  | _, _ => fun _ _ => none
def mMax2 (m n : ME DV) : ME DV := ME.bind m fun x => ME.bind n fun y => match x, y with
  | .int i, .int j => ME.pure (.int (if j > i then j else i))
  | _, _ => fun _ _ => none
theorem de_min2 (hc : X.calm = true) (hm : X.mg "min" = none) (h : DE X a ma) (h' : DE X b mb) (hg : Gl X "min" := by rfl) (hs : starEach [a, b] X.env = (false, eval a X.env) :: starEach [b] X.env := by rfl) (hs2 : starEach [b] X.env = (false, eval b X.env) :: starEach [] X.env := by rfl) (hpl : (backTo pos (starEach [b] X.env)).any (·.1) = false := by rfl) : DE X (.Call (.Name "min" p) [a, b] [] pos) (mMin2 ma mb) := by
  refine pe_imp (pe_callB (call_min2 hc) hg hm (by decide +kernel) (pa_cons h (pa_cons h' pa_nil hs2) hs) (he := hs) (hpl := hpl)) fun σ H Q ⟨e, st, μ, d, st', he, hs, hm, hq⟩ => ?_
  obtain ⟨x, st1, h1, hm⟩ := bind_some hm
  obtain ⟨y, st2, h2, hm⟩ := bind_some hm
  refine ⟨e, st, μ, x, st1, he, hs, h1, fun H1 μ1 v x1 hs1 rv => ⟨e, st1, μ1, y, st2, he.ext x1, hs1, h2, fun H2 μ2 w x2 hs2 rw' => ?_⟩⟩
  cases x with
  | int i =>
    cases y with
    | int j => cases rv; cases rw'; cases hm; exact ⟨i, j, rfl, hq H2 μ2 _ (x1.trans x2) hs2 (.int _)⟩
    | _ => cases hm
  | _ => cases hm
theorem de_max2 (hc : X.calm = true) (hm : X.mg "max" = none) (h : DE X a ma) (h' : DE X b mb) (hg : Gl X "max" := by rfl) (hs : starEach [a, b] X.env = (false, eval a X.env) :: starEach [b] X.env := by rfl) (hs2 : starEach [b] X.env = (false, eval b X.env) :: starEach [] X.env := by rfl) (hpl : (backTo pos (starEach [b] X.env)).any (·.1) = false := by rfl) : DE X (.Call (.Name "max" p) [a, b] [] pos) (mMax2 ma mb) := by
  refine pe_imp (pe_callB (call_max2 hc) hg hm (by decide +kernel) (pa_cons h (pa_cons h' pa_nil hs2) hs) (he := hs) (hpl := hpl)) fun σ H Q ⟨e, st, μ, d, st', he, hs, hm, hq⟩ => ?_
  obtain ⟨x, st1, h1, hm⟩ := bind_some hm
  obtain ⟨y, st2, h2, hm⟩ := bind_some hm
  refine ⟨e, st, μ, x, st1, he, hs, h1, fun H1 μ1 v x1 hs1 rv => ⟨e, st1, μ1, y, st2, he.ext x1, hs1, h2, fun H2 μ2 w x2 hs2 rw' => ?_⟩⟩
  cases x with
  | int i =>
    cases y with
    | int j => cases rv; cases rw'; cases hm; exact ⟨i, j, rfl, hq H2 μ2 _ (x1.trans x2) hs2 (.int _)⟩
    | _ => cases hm
  | _ => cases hm
/-! ### isinstance -/
def tyN (st : Sto) : DV → Option String
  | .non => some "NoneType"
  | .bl _ => some "bool"
  | .int _ => some "int"
  | .str _ => some "str"
  | .tup _ => some "tuple"
  | .scr _ => some "list"
  | .ref l => match st[l]? with
    | some (.lst _) => some "list"
    | some (.dct _) => some "dict"
    | _ => none
theorem ty_of {K : PySem.W.Frag} {H : Hp} {μ : List Addr} {st : Sto} {d : DV} {v : V} {t : String} (hs : RS K H μ st) (r : RV K H μ d v) (h : tyN st d = some t) : TyX K H v (.type t) := by
  cases r with
  | non => cases h; exact .base .non
  | bl b => cases h; exact .base (.bl b)
  | int b => cases h; exact .base (.int b)
  | str b => cases h; exact .base (.str b)
  | tup sq z rs =>
    cases h
    rcases sq with (sq | ⟨o, sq⟩) | ⟨o, its, n, h1, h2, _⟩
    · exact .base (.tup sq)
    · exact .fTuple sq
    · exact .kTuple h1 h2
  | scr sq z rs =>
    cases h
    rcases sq with ⟨o, sq⟩ | ⟨o, its, n, h1, h2, _⟩
    · exact .base (.frz sq)
    · exact .kList h1 h2
  | @ref l a hl =>
    have h : (match st[l]? with
      | some (.lst _) => some "list"
      | some (.dct _) => some "dict"
      | _ => none) = some t := h
    split at h
    · rename_i e
      cases h
      have c := hs.cell l a _ hl e
      cases c with
      | lst h _ _ => exact .base (.lst h)
    · rename_i e
      cases h
      have c := hs.cell l a _ hl e
      cases c with
      | dct h _ _ => exact .base (.dK h)
    · cases h
def isT (T t : String) : Bool := t == T || (T == "int" && t == "bool")
def mIsi (T : String) (m : ME DV) : ME DV := ME.bind m fun d => fun _ st => match tyN st d with
  | some t => some (.bl (isT T t), st)
  | none => none
theorem tyN_in {st : Sto} {d : DV} {t : String} (h : tyN st d = some t) : t = "NoneType" ∨ t = "bool" ∨ t = "int" ∨ t = "str" ∨ t = "tuple" ∨ t = "list" ∨ t = "dict" := by
  unfold tyN at h
  split at h
  · cases h; simp
  · cases h; simp
  · cases h; simp
  · cases h; simp
  · cases h; simp
  · cases h; simp
  · split at h <;> cases h <;> simp
theorem de_isi (T : String) (hm : X.mg "isinstance" = none) (hT : X.mg (Str.ofString T) = none) (hb : bootBuiltins (Str.ofString T) = some (.type T)) (hk : ∀ t, (t = "NoneType" ∨ t = "bool" ∨ t = "int" ∨ t = "str" ∨ t = "tuple" ∨ t = "list" ∨ t = "dict") → PySem.W.kitOne X.K (.type t) (.type T) = some (isT T t)) (h : DE X a ma) {q : Pos} {nT : Str}
    (hnT : nT = Str.ofString T) (gT : Gl X nT) (hnn : nT ≠ "__name__" := by decide) (hnd : (nT == ("__debug__" : Str)) = false := by decide)
    (hg : Gl X "isinstance" := by rfl) (hs : starEach [a, .Name nT q] X.env = (false, eval a X.env) :: starEach [.Name nT q] X.env := by rfl) (hs2 : starEach [.Name nT q] X.env = (false, eval (.Name nT q) X.env) :: starEach [] X.env := by rfl) (hpl : (backTo pos (starEach [.Name nT q] X.env)).any (·.1) = false := by rfl) :
    DE X (.Call (.Name "isinstance" p) [a, .Name nT q] [] pos) (mIsi T ma) := by
  subst hnT
  refine pe_imp (pe_callB call_isi hg hm (by decide +kernel) (pa_cons h (pa_cons (pe_bltn (v := .ty T) gT hT hb rfl hnn hnd) pa_nil hs2) hs) (he := hs) (hpl := hpl)) fun σ H Q ⟨e, st, μ, d, st', he, hs, hm, hq⟩ => ?_
  obtain ⟨x, st1, h1, hm⟩ := bind_some hm
  refine ⟨e, st, μ, x, st1, he, hs, h1, fun H1 μ1 v x1 hs1 rv => ?_⟩
  split at hm
  · rename_i t et
    cases hm
    exact ⟨v, .ty T, .type t, .type T, isT T t, rfl, .ty T, ty_of hs1 rv et, hk t (tyN_in et), hq H1 μ1 _ x1 hs1 (.bl _)⟩
  · cases hm
theorem kits {K : PySem.W.Frag} {T : String} (h1 : kitB "NoneType" T = some (isT T "NoneType")) (h2 : kitB "bool" T = some (isT T "bool")) (h3 : kitB "int" T = some (isT T "int")) (h4 : kitB "str" T = some (isT T "str")) (h5 : kitB "tuple" T = some (isT T "tuple")) (h6 : kitB "list" T = some (isT T "list")) (h7 : kitB "dict" T = some (isT T "dict")) :
    ∀ t, (t = "NoneType" ∨ t = "bool" ∨ t = "int" ∨ t = "str" ∨ t = "tuple" ∨ t = "list" ∨ t = "dict") → PySem.W.kitOne K (.type t) (.type T) = some (isT T t) := by
  rintro t (rfl | rfl | rfl | rfl | rfl | rfl | rfl)
  · exact kit_ty h1
  · exact kit_ty h2
  · exact kit_ty h3
  · exact kit_ty h4
  · exact kit_ty h5
  · exact kit_ty h6
  · exact kit_ty h7
theorem kit_tuple {K : PySem.W.Frag} : ∀ t, (t = "NoneType" ∨ t = "bool" ∨ t = "int" ∨ t = "str" ∨ t = "tuple" ∨ t = "list" ∨ t = "dict") → PySem.W.kitOne K (.type t) (.type "tuple") = some (isT "tuple" t) :=
  kits (by decide +kernel) (by decide +kernel) (by decide +kernel) (by decide +kernel) (by decide +kernel) (by decide +kernel) (by decide +kernel)
theorem kit_list {K : PySem.W.Frag} : ∀ t, (t = "NoneType" ∨ t = "bool" ∨ t = "int" ∨ t = "str" ∨ t = "tuple" ∨ t = "list" ∨ t = "dict") → PySem.W.kitOne K (.type t) (.type "list") = some (isT "list" t) :=
  kits (by decide +kernel) (by decide +kernel) (by decide +kernel) (by decide +kernel) (by decide +kernel) (by decide +kernel) (by decide +kernel)
theorem kit_int {K : PySem.W.Frag} : ∀ t, (t = "NoneType" ∨ t = "bool" ∨ t = "int" ∨ t = "str" ∨ t = "tuple" ∨ t = "list" ∨ t = "dict") → PySem.W.kitOne K (.type t) (.type "int") = some (isT "int" t) :=
  kits (by decide +kernel) (by decide +kernel) (by decide +kernel) (by decide +kernel) (by decide +kernel) (by decide +kernel) (by decide +kernel)
theorem kit_bool {K : PySem.W.Frag} : ∀ t, (t = "NoneType" ∨ t = "bool" ∨ t = "int" ∨ t = "str" ∨ t = "tuple" ∨ t = "list" ∨ t = "dict") → PySem.W.kitOne K (.type t) (.type "bool") = some (isT "bool" t) :=
  kits (by decide +kernel) (by decide +kernel) (by decide +kernel) (by decide +kernel) (by decide +kernel) (by decide +kernel) (by decide +kernel)
theorem kit_str {K : PySem.W.Frag} : ∀ t, (t = "NoneType" ∨ t = "bool" ∨ t = "int" ∨ t = "str" ∨ t = "tuple" ∨ t = "list" ∨ t = "dict") → PySem.W.kitOne K (.type t) (.type "str") = some (isT "str" t) :=
  kits (by decide +kernel) (by decide +kernel) (by decide +kernel) (by decide +kernel) (by decide +kernel) (by decide +kernel) (by decide +kernel)
theorem de_isTuple (hm : X.mg "isinstance" = none) (hT : X.mg "tuple" = none) (h : DE X a ma) {q : Pos} (gT : Gl X "tuple" := by rfl) (hg : Gl X "isinstance" := by rfl) (hs : starEach [a, .Name "tuple" q] X.env = (false, eval a X.env) :: starEach [.Name "tuple" q] X.env := by rfl) (hs2 : starEach [.Name "tuple" q] X.env = (false, eval (.Name "tuple" q) X.env) :: starEach [] X.env := by rfl) (hpl : (backTo pos (starEach [.Name "tuple" q] X.env)).any (·.1) = false := by rfl) :
    DE X (.Call (.Name "isinstance" p) [a, .Name "tuple" q] [] pos) (mIsi "tuple" ma) := de_isi "tuple" hm hT (by decide +kernel) kit_tuple h rfl gT (by decide) (by decide) hg hs hs2 hpl
theorem de_isList (hm : X.mg "isinstance" = none) (hT : X.mg "list" = none) (h : DE X a ma) {q : Pos} (gT : Gl X "list" := by rfl) (hg : Gl X "isinstance" := by rfl) (hs : starEach [a, .Name "list" q] X.env = (false, eval a X.env) :: starEach [.Name "list" q] X.env := by rfl) (hs2 : starEach [.Name "list" q] X.env = (false, eval (.Name "list" q) X.env) :: starEach [] X.env := by rfl) (hpl : (backTo pos (starEach [.Name "list" q] X.env)).any (·.1) = false := by rfl) :
    DE X (.Call (.Name "isinstance" p) [a, .Name "list" q] [] pos) (mIsi "list" ma) := de_isi "list" hm hT (by decide +kernel) kit_list h rfl gT (by decide) (by decide) hg hs hs2 hpl
theorem de_isInt (hm : X.mg "isinstance" = none) (hT : X.mg "int" = none) (h : DE X a ma) {q : Pos} (gT : Gl X "int" := by rfl) (hg : Gl X "isinstance" := by rfl) (hs : starEach [a, .Name "int" q] X.env = (false, eval a X.env) :: starEach [.Name "int" q] X.env := by rfl) (hs2 : starEach [.Name "int" q] X.env = (false, eval (.Name "int" q) X.env) :: starEach [] X.env := by rfl) (hpl : (backTo pos (starEach [.Name "int" q] X.env)).any (·.1) = false := by rfl) :
    DE X (.Call (.Name "isinstance" p) [a, .Name "int" q] [] pos) (mIsi "int" ma) := de_isi "int" hm hT (by decide +kernel) kit_int h rfl gT (by decide) (by decide) hg hs hs2 hpl
theorem de_isBool (hm : X.mg "isinstance" = none) (hT : X.mg "bool" = none) (h : DE X a ma) {q : Pos} (gT : Gl X "bool" := by rfl) (hg : Gl X "isinstance" := by rfl) (hs : starEach [a, .Name "bool" q] X.env = (false, eval a X.env) :: starEach [.Name "bool" q] X.env := by rfl) (hs2 : starEach [.Name "bool" q] X.env = (false, eval (.Name "bool" q) X.env) :: starEach [] X.env := by rfl) (hpl : (backTo pos (starEach [.Name "bool" q] X.env)).any (·.1) = false := by rfl) :
    DE X (.Call (.Name "isinstance" p) [a, .Name "bool" q] [] pos) (mIsi "bool" ma) := de_isi "bool" hm hT (by decide +kernel) kit_bool h rfl gT (by decide) (by decide) hg hs hs2 hpl
theorem de_isStr (hm : X.mg "isinstance" = none) (hT : X.mg "str" = none) (h : DE X a ma) {q : Pos} (gT : Gl X "str" := by rfl) (hg : Gl X "isinstance" := by rfl) (hs : starEach [a, .Name "str" q] X.env = (false, eval a X.env) :: starEach [.Name "str" q] X.env := by rfl) (hs2 : starEach [.Name "str" q] X.env = (false, eval (.Name "str" q) X.env) :: starEach [] X.env := by rfl) (hpl : (backTo pos (starEach [.Name "str" q] X.env)).any (·.1) = false := by rfl) :
    DE X (.Call (.Name "isinstance" p) [a, .Name "str" q] [] pos) (mIsi "str" ma) := de_isi "str" hm hT (by decide +kernel) kit_str h rfl gT (by decide) (by decide) hg hs hs2 hpl

/-! ### dicts -/
def mDNew : ME DV := fun _ st => some (.ref st.length, st ++ [.dct []])
theorem de_dnew : DE X (.Dict [] [] pos) mDNew := by
  refine pe_imp pe_dnewK fun σ H Q ⟨e, st, μ, d, st', he, hs, hm, hq⟩ p hp => ?_
  cases hm
  have hs' := hs.new (o := .dK []) hp
  have hpm : p ∉ μ := fun z => hs.trk z hp
  exact hq _ (μ ++ [p]) (.ref p) (ext_mu hp (ext_new hp) hp) (hs'.adopt hpm (.dct upd_same (Nat.zero_le _) .nil)) (.ref (at_end hs.len))
def mDictOf (m : ME DV) : ME DV := ME.bind m fun d => fun _ st => match d with
  | .ref l => match st[l]? with
    | some (.dct kvs) => some (.ref st.length, st ++ [.dct kvs])
    | _ => none
  | _ => none
theorem de_dictOf (hm : X.mg "dict" = none) (h : DE X e ma) (hg : Gl X "dict" := by rfl) (hs : starEach [e] X.env = (false, eval e X.env) :: starEach [] X.env := by rfl) (hpl : (backTo pos (starEach [] X.env)).any (·.1) = false := by rfl) : DE X (.Call (.Name "dict" p) [e] [] pos) (mDictOf ma) := by
  refine pe_imp (pe_callTy call_dictD hg hm (by decide +kernel) (pa_cons h pa_nil hs) (he := hs) (hpl := hpl)) fun σ H Q ⟨e, st, μ, d, st', he, hs, hm, hq⟩ => ?_
  obtain ⟨x, st1, h1, hm⟩ := bind_some hm
  refine ⟨e, st, μ, x, st1, he, hs, h1, fun H1 μ1 v x1 hs1 rv => ?_⟩
  split at hm
  · rename_i l
    split at hm
    · rename_i kvs ek
      cases hm
      cases rv with
      | @ref _ ad hl =>
        obtain ⟨ws, h3, z, rk⟩ := dct_read hs1 ek hl
        refine ⟨ad, ws, rfl, .inl h3, fun q hq' => ?_⟩
        have hs' := hs1.new (o := .dK ws) hq'
        have hpm : q ∉ μ1 := fun z => hs1.trk z hq'
        exact hq _ (μ1 ++ [q]) (.ref q) (x1.trans (ext_mu hq' (ext_new hq') hq')) (hs'.adopt hpm (.dct upd_same z (rk.ext (ext_new hq')))) (.ref (at_end hs1.len))
    · cases hm
  · cases hm
/-! ### list(range(..)), tuple(range(..)) -/
def rgD (i j : Int) : List DV := (List.range (j - i).toNat).map fun k => DV.int (i + (k : Nat))
def okR (i j : Int) : Bool := decide (-100000 ≤ i) && decide (i ≤ 100000) && decide (-100000 ≤ j) && decide (j ≤ 100000)
theorem rg_to {K : PySem.W.Frag} {H : Hp} {μ : List Addr} {f : Nat → Int} : ∀ (ns : List Nat), RVs K H μ (ns.map fun k => DV.int (f k)) (ns.map fun k => V.int (f k))
  | [] => .nil
  | n :: ns => .cons (.int _) (rg_to ns)
def mRg1 (m : ME DV) : ME (List DV) := ME.bind m fun x => fun _ st => match x with
  | .int n => if okR 0 n = true then some (rgD 0 n, st) else none
  | _ => none
def mRg2 (m n : ME DV) : ME (List DV) := ME.bind m fun x => ME.bind n fun y => fun _ st => match x, y with
  | .int i, .int j => if okR i j = true then some (rgD i j, st) else none
  | _, _ => none
def tRD (K : PySem.W.Frag) (m : ME (List DV)) : L2.St → Hp → (Int → Int → Hp → Prop) → Prop := fun σ H Q => ∃ e st μ ds st', RE K H μ e σ ∧ RS K H μ st ∧ m e st = some (ds, st') ∧
  ∀ H' μ' i j, Ext H μ H' μ' → RS K H' μ' st' → okR i j = true → ds = rgD i j → Q i j H'
/-- a range -/
def DR (X : Cx) (e : Expr) (m : ME (List DV)) : Prop := PRg X e (tRD X.K m)
theorem dr_1 (hm : X.mg "range" = none) (ha : DE X a ma) (hg : Gl X "range" := by rfl) (na : starEach [a] X.env = (false, eval a X.env) :: starEach [] X.env := by rfl) : DR X (.Call (.Name "range" p) [a] [] pos) (mRg1 ma) := by
  intro pins s σ H Q I h
  refine prg_1 hg hm ha na pins s σ H Q I ?_
  obtain ⟨e, st, μ, ds, st', he, hs, hm, hq⟩ := h
  obtain ⟨x, st1, h1, hm⟩ := bind_some hm
  refine ⟨e, st, μ, x, st1, he, hs, h1, fun H1 μ1 v x1 hs1 rv => ?_⟩
  cases x with
  | int n =>
    cases rv
    have hm : (if okR 0 n = true then some (rgD 0 n, st1) else none) = some (ds, st') := hm
    split at hm
    · rename_i hk
      cases hm
      exact ⟨n, rfl, hq H1 μ1 0 n x1 hs1 hk rfl⟩
    · cases hm
  | _ => cases hm
theorem dr_2 (hm : X.mg "range" = none) (ha : DE X a ma) (hb : DE X b mb) (hg : Gl X "range" := by rfl) (na : starEach [a, b] X.env = (false, eval a X.env) :: starEach [b] X.env := by rfl) (nb : starEach [b] X.env = (false, eval b X.env) :: starEach [] X.env := by rfl) (hpl : (backTo pos (starEach [b] X.env)).any (·.1) = false := by rfl) : DR X (.Call (.Name "range" p) [a, b] [] pos) (mRg2 ma mb) := by
  intro pins s σ H Q I h
  refine prg_2 hg hm ha hb na nb hpl pins s σ H Q I ?_
  obtain ⟨e, st, μ, ds, st', he, hs, hm, hq⟩ := h
  obtain ⟨x, st1, h1, hm⟩ := bind_some hm
  obtain ⟨y, st2, h2, hm⟩ := bind_some hm
  refine ⟨e, st, μ, x, st1, he, hs, h1, fun H1 μ1 v x1 hs1 rv => ⟨e, st1, μ1, y, st2, he.ext x1, hs1, h2, fun H2 μ2 w x2 hs2 rw' => ?_⟩⟩
  cases x with
  | int i =>
    cases y with
    | int j =>
      cases rv
      cases rw'
      have hm : (if okR i j = true then some (rgD i j, st2) else none) = some (ds, st') := hm
      split at hm
      · rename_i hk
        cases hm
        exact ⟨i, j, rfl, rfl, hq H2 μ2 i j (x1.trans x2) hs2 hk rfl⟩
      · cases hm
    | _ => cases hm
  | _ => cases hm
theorem okR_ok {i j : Int} (h : okR i j = true) : RgOk i j := by
  simp only [okR, Bool.and_eq_true, decide_eq_true_eq] at h
  exact ⟨by omega, by omega, by omega, by omega, by omega⟩
theorem rgV_len {i j : Int} (h : okR i j = true) : (rgV i j).length ≤ sizeLine := by
  rw [rgV_length]
  simp only [okR, Bool.and_eq_true, decide_eq_true_eq] at h
  rw [sizeLine_eq]
  omega
theorem df_listRg (hc : X.calm = true) (hm : X.mg "list" = none) (h : DR X e mq) (hg : Gl X "list" := by rfl) (na : starEach [e] X.env = (false, eval e X.env) :: starEach [] X.env := by rfl) : DF X (.Call (.Name "list" p) [e] [] pos) mq := by
  refine pe_imp (pe_listRg hc hg hm h na) fun σ H Q ⟨e, st, μ, ds, st', he, hs, hm, hq⟩ => ?_
  refine ⟨e, st, μ, ds, st', he, hs, hm, fun H1 μ1 i j x1 hs1 hk ed => ⟨okR_ok hk, fun l hl => ?_⟩⟩
  subst ed
  obtain ⟨n1, n2⟩ := fresh_new x1 hs1 hl
  exact hq _ μ1 l (rgV i j) (x1.trans (ext_new hl)) (hs1.new hl) n1 n2 upd_same (rgV_len hk) (rg_to _)
theorem de_tupRg (hc : X.calm = true) (hm : X.mg "tuple" = none) (h : DR X e mq) (hg : Gl X "tuple" := by rfl) (na : starEach [e] X.env = (false, eval e X.env) :: starEach [] X.env := by rfl) : DE X (.Call (.Name "tuple" p) [e] [] pos) (mTupOf mq) := by
  refine pe_imp (pe_tupRg hc hg hm h na) fun σ H Q ⟨e, st, μ, ds, st', he, hs, hm, hq⟩ => ?_
  obtain ⟨ds, st1, h1, hm⟩ := bind_some hm
  cases hm
  refine ⟨e, st, μ, ds, _, he, hs, h1, fun H1 μ1 i j x1 hs1 hk ed => ⟨okR_ok hk, fun l hl => ?_⟩⟩
  subst ed
  exact hq _ μ1 (.ref l) (x1.trans (ext_new hl)) (hs1.new hl) (.tup (SqT.of upd_same) (rgV_len hk) (rg_to _))
end
end DL

/-! DL6: targets, statements, loops by data. -/
namespace DL
open PySem PySem.Spec PyProof.Rows L2

/-- how a statement ends -/
inductive Fl where
  | nx | rt (d : DV) | bk | ct
abbrev MS := Env → Sto → Option (Fl × Env × Sto)
/-- a target -/
abbrev MG := DV → Env → Sto → Option (Env × Sto)
/-- what is wanted behind it -/
def Fin (K : PySem.W.Frag) (H : Hp) (μ : List Addr) (D : Ends) : Fl × Env × Sto → Prop
  | (.nx, e, st) => ∀ σ' H' μ', Ext H μ H' μ' → RE K H' μ' e σ' → RS K H' μ' st → D.nx σ' H'
  | (.bk, e, st) => ∀ σ' H' μ', Ext H μ H' μ' → RE K H' μ' e σ' → RS K H' μ' st → D.bk σ' H'
  | (.ct, e, st) => ∀ σ' H' μ', Ext H μ H' μ' → RE K H' μ' e σ' → RS K H' μ' st → D.ct σ' H'
  | (.rt d, _, st) => ∀ v H' μ', Ext H μ H' μ' → RS K H' μ' st → RV K H' μ' d v → D.rt v H'
theorem Fin.ext {K : PySem.W.Frag} {H H1 : Hp} {μ μ1 : List Addr} {D : Ends} {o : Fl × Env × Sto} (x : Ext H μ H1 μ1) (h : Fin K H μ D o) : Fin K H1 μ1 D o := by
  obtain ⟨f, e, st⟩ := o
  cases f with
  | nx => exact fun σ' H' μ' y => h σ' H' μ' (x.trans y)
  | bk => exact fun σ' H' μ' y => h σ' H' μ' (x.trans y)
  | ct => exact fun σ' H' μ' y => h σ' H' μ' (x.trans y)
  | rt d => exact fun v H' μ' y => h v H' μ' (x.trans y)
def tSD (K : PySem.W.Frag) (m : MS) : TS := fun D σ H => ∃ e st μ o, RE K H μ e σ ∧ RS K H μ st ∧ m e st = some o ∧ Fin K H μ D o
def DS (X : Cx) (s : Stmt) (m : MS) : Prop := PS X s (tSD X.K m)
def DSs (X : Cx) (s : List Stmt) (m : MS) : Prop := PSs X s (tSD X.K m)
def tGD (K : PySem.W.Frag) (g : MG) : TG := fun v σ H Q => ∃ e st μ d e' st', RE K H μ e σ ∧ RS K H μ st ∧ RV K H μ d v ∧ g d e st = some (e', st') ∧
  ∀ σ' H' μ', Ext H μ H' μ' → RE K H' μ' e' σ' → RS K H' μ' st' → Q σ' H'
def DG (X : Cx) (t : Expr) (g : MG) : Prop := PG X t (tGD X.K g)
theorem pg_imp {X : Cx} {e : Expr} {t t' : TG} (h : PG X e t) (i : ∀ v σ H Q, t' v σ H Q → t v σ H Q) : PG X e t' := ⟨fun pins s σ H v u Q I r q => h.run pins s σ H v u Q I r (i _ _ _ _ q)⟩

section
variable {X : Cx} {a b c e o : Expr} {es : List Expr} {ma mb mc : ME DV} {mq : ME (List DV)} {pos p apos : Pos} {s : Stmt} {ss : List Stmt} {m n : MS}
/-! ### targets -/
def tgN (i : Nat) : MG := fun d e st => some (e.set i (some d), st)
theorem dg_name {i : Nat} {x : Str} (hN : X.N.Nodup) (hi : X.N[i]? = some x := by rfl) (hx : Loc X.env.scope x := by first | exact Or.inl rfl | exact Or.inr rfl) (hf : X.fn x = true ∨ X.env.scope.names.lookup x = some .local := by first | exact .inl rfl | exact .inr rfl) : DG X (.Name x pos) (tgN i) :=
  pg_imp (pg_name hN hi hx hf) fun v σ H Q ⟨e, st, μ, d, e', st', he, hs, hv, hg, hq⟩ => by
    cases hg
    exact hq _ H μ Ext.refl (he.set i hv) hs
/-- several, one after another -/
def tgs : List MG → List DV → Env → Sto → Option (Env × Sto)
  | [], [], e, st => some (e, st)
  | g :: gs, d :: ds, e, st => match g d e st with
    | some (e1, st1) => tgs gs ds e1 st1
    | none => none
  | _, _, _, _ => none
def tGsD (K : PySem.W.Frag) (gs : List MG) : TGs := fun vs σ H Q => ∃ e st μ ds e' st', RE K H μ e σ ∧ RS K H μ st ∧ RVs K H μ ds vs ∧ tgs gs ds e st = some (e', st') ∧
  ∀ σ' H' μ', Ext H μ H' μ' → RE K H' μ' e' σ' → RS K H' μ' st' → Q σ' H'
def DGs (X : Cx) (ts : List Expr) (gs : List MG) : Prop := PGs X ts (tGsD X.K gs)
theorem pgs_imp {es : List Expr} {t t' : TGs} (h : PGs X es t) (i : ∀ v σ H Q, t' v σ H Q → t v σ H Q) : PGs X es t' := ⟨fun pins s σ H v u Q I r q => h.run pins s σ H v u Q I r (i _ _ _ _ q)⟩
theorem dgs_nil : DGs X [] [] := pgs_imp pgs_nil fun v σ H Q ⟨e, st, μ, ds, e', st', he, hs, hv, hg, hq⟩ => by
  cases ds with
  | nil =>
    cases hg
    cases hv
    exact ⟨rfl, hq _ H μ Ext.refl he hs⟩
  | cons d ds => cases hg
theorem dgs_cons {g : MG} {gs : List MG} (h1 : DG X e g) (h2 : DGs X es gs) (hs : (assignEach (e :: es) X.env).map (·.2) = assign e X.env :: (assignEach es X.env).map (·.2) := by rfl) : DGs X (e :: es) (g :: gs) :=
  pgs_imp (pgs_cons h1 h2 hs) fun v σ H Q ⟨e, st, μ, ds, e', st', he, hs, hv, hg, hq⟩ => by
    cases ds with
    | nil => cases hg
    | cons d ds =>
      cases hv with
      | cons r rs =>
        have hg : (match g d e st with
          | some (e1, st1) => tgs gs ds e1 st1
          | none => none) = some (e', st') := hg
        split at hg
        · rename_i e1 st1 q
          refine ⟨_, _, rfl, e, st, μ, d, e1, st1, he, hs, r, q, fun σ1 H1 μ1 x1 he1 hs1 => ?_⟩
          exact ⟨e1, st1, μ1, ds, e', st', he1, hs1, rs.ext x1, hg, fun σ2 H2 μ2 x2 he2 hs2 => hq σ2 H2 μ2 (x1.trans x2) he2 hs2⟩
        · cases hg
def tgT (gs : List MG) : MG := fun d e st => match d with
  | .tup ds => tgs gs ds e st
  | _ => none
theorem tgs_len : ∀ (gs : List MG) (ds : List DV) (e : Env) (st : Sto) (r : Env × Sto), tgs gs ds e st = some r → ds.length = gs.length
  | [], [], _, _, _, _ => rfl
  | [], _ :: _, _, _, _, h => by cases h
  | _ :: _, [], _, _, _, h => by cases h
  | g :: gs, d :: ds, e, st, r, h => by
    have h : (match g d e st with
      | some (e1, st1) => tgs gs ds e1 st1
      | none => none) = some r := h
    split at h
    · rw [List.length_cons, List.length_cons, tgs_len gs ds _ _ _ h]
    · cases h
theorem dg_tup {k : Nat} {gs : List MG} (hc : X.calm = true) (h : DGs X es gs) (hn : (assignEach es X.env).length = gs.length := by rfl) (hst : (assignEach es X.env).findIdx? (·.1) = none := by rfl) : DG X (.Tuple es k pos) (tgT gs) :=
  pg_imp (pg_tup hc h hn hst) fun v σ H Q ⟨e, st, μ, d, e', st', he, hs, hv, hg, hq⟩ => by
    unfold tgT at hg
    split at hg
    · rename_i ds
      cases hv with
      | @tup a _ vs sq z rs => exact ⟨a, vs, rfl, sq, by rw [← rs.length]; exact tgs_len _ _ _ _ _ hg, e, st, μ, ds, e', st', he, hs, rs, hg, hq⟩
    · cases hg
/-- xs[i] = v; d[k] = v -/
def putD (kvs : List (Key × DV)) (k : Key) (d : DV) : List (Key × DV) :=
  if (valD kvs k).isSome then kvs.map fun kv => if kv.1 = k then (kv.1, d) else kv else kvs ++ [(k, d)]
def gSet (x y d : DV) (st : Sto) : Option Sto := match x with
  | .ref l => match st[l]? with
    | some (.lst ds) => match y with
      | .int i => match ixN ds.length i with
        | some j => some (st.set l (.lst (ds.set j d)))
        | none => none
      | _ => none
    | some (.dct kvs) => match keyD y with
      | some k => if kvs.length < LIM then some (st.set l (.dct (putD kvs k d))) else none
      | none => none
    | _ => none
  | _ => none
def tgI (mx my : ME DV) : MG := fun d e st => match mx e st with
  | none => none
  | some (x, st1) => match my e st1 with
    | none => none
    | some (y, st2) => match gSet x y d st2 with
      | none => none
      | some st3 => some (e, st3)
theorem put_rel {K : PySem.W.Frag} {H : Hp} {μ : List Addr} {k : Key} {d : DV} {v : V} (r : RV K H μ d v) {ds : List (Key × DV)} {vs : List (Key × V)} (rs : RKs K H μ ds vs) : RKs K H μ (putD ds k d) (putK vs k v) := by
  have hmap : ∀ {ds : List (Key × DV)} {vs : List (Key × V)}, RKs K H μ ds vs → RKs K H μ (ds.map fun kv => if kv.1 = k then (kv.1, d) else kv) (vs.map fun kv => if kv.1 = k then (kv.1, v) else kv) := by
    intro ds vs rs
    induction rs with
    | nil => exact .nil
    | @cons k' d' v' ds vs r' rs ih =>
      rw [List.map_cons, List.map_cons]
      by_cases e : k' = k
      · simp only [e, if_pos]
        exact .cons r ih
      · simp only [if_neg e]
        exact .cons r' ih
  have happ : ∀ {ds : List (Key × DV)} {vs : List (Key × V)}, RKs K H μ ds vs → RKs K H μ (ds ++ [(k, d)]) (vs ++ [(k, v)]) := by
    intro ds vs rs
    induction rs with
    | nil => exact .cons r .nil
    | cons r' rs ih => exact .cons r' ih
  have ea : (vs.any fun kv => decide (kv.1 = k)) = (valD ds k).isSome := by
    rw [valV_any]
    rcases val_of k rs with ⟨h1, h2⟩ | ⟨d', v', h1, h2, _⟩
    · rw [h1, h2]; rfl
    · rw [h1, h2]; rfl
  unfold putD putK
  rw [ea]
  split
  · exact hmap rs
  · exact happ rs
theorem RKs.length {K : PySem.W.Frag} {H : Hp} {μ : List Addr} : ∀ {ds : List (Key × DV)} {vs : List (Key × V)}, RKs K H μ ds vs → ds.length = vs.length
  | _, _, .nil => rfl
  | _, _, .cons _ t => by rw [List.length_cons, List.length_cons, RKs.length t]
/-- a store at a place, by values -/
def tSetD (K : PySem.W.Frag) : TSet := fun o i v H Q => ∃ st μ x y d st', RS K H μ st ∧ RV K H μ x o ∧ RV K H μ y i ∧ RV K H μ d v ∧ gSet x y d st = some st' ∧ ∀ H', Ext H μ H' μ → RS K H' μ st' → Q H'
theorem putK_len {vs : List (Key × V)} {k : Key} {v : V} : (putK vs k v).length ≤ vs.length + 1 := by
  unfold putK
  split
  · rw [List.length_map]; omega
  · rw [List.length_append]; simp
theorem set_any (hu : X.A.units + 1 < cLine) : PSet X (tSetD X.K) := by
  intro pins s σ H o i v ov iv u Q I ro ri rv ⟨st, μ, x, y, d, st', hs, rx, ry, rd, hg, hq⟩
  unfold gSet at hg
  split at hg
  · rename_i l
    cases rx with
    | @ref _ ad hl =>
      split at hg
      · rename_i ds e1
        split at hg
        · rename_i i'
          split at hg
          · rename_i j ej
            cases hg
            cases ry
            have c := hs.cell l ad _ hl e1
            cases c with
            | @lst _ vs _ h z rs =>
              have n1 : ∀ xs, HO.lst vs ≠ .tup xs := fun xs q => by cases q
              have n2 : ∀ ob w, HO.lst vs ≠ .frz ob w := fun ob w q => by cases q
              have x1 : Ext H μ (upd H ad (.lst (vs.set j v))) μ := ext_write h (List.mem_of_getElem? hl) n1 n2
              refine set_list pins s σ H _ _ _ ov iv u Q I ro ri rv ⟨ad, vs, i', j, rfl, rfl, h, by rw [← rs.length]; exact ej, hq _ x1 ?_⟩
              exact hs.write hl h n1 n2 (.lst upd_same (by rw [List.length_set]; exact z) (RVs.set (rd.ext x1) j (rs.ext x1)))
          · cases hg
        · cases hg
      · rename_i kvs e1
        split at hg
        · rename_i k ek
          split at hg
          · rename_i hz
            cases hg
            have c := hs.cell l ad _ hl e1
            cases c with
            | @dct _ ws _ h z rk =>
              have n1 : ∀ xs, HO.dK ws ≠ .tup xs := fun xs q => by cases q
              have n2 : ∀ ob w, HO.dK ws ≠ .frz ob w := fun ob w q => by cases q
              have x1 : Ext H μ (upd H ad (.dK (putK ws k v))) μ := ext_write h (List.mem_of_getElem? hl) n1 n2
              have ek2 := key_of ry ek
              subst ek2
              cases ro
              have hz' : ws.length < sizeLine := by rw [← rk.length]; exact lim_lt hz
              refine d_setItem hu I (DPut.k h hz') ri rv fun s' I' => ⟨_, I', hq _ x1 ?_⟩
              exact hs.write hl h n1 n2 (.dct upd_same (Nat.le_trans putK_len hz') (put_rel (rd.ext x1) (rk.ext x1)))
          · cases hg
        · cases hg
      · cases hg
  · cases hg
theorem dg_sub (hu : X.A.units + 1 < cLine) (ho : DE X o ma) (hi : DE X a mb) (hs : ∀ v, assign (.Subscript o a pos) X.env v = (do
      let ov ← holding [v] (eval o X.env)
      let iv ← holding [v, ov] (eval a X.env)
      standAt pos
      holding [v, ov, iv] (setItem ov iv v)
      release [v, ov, iv] []) := by intro _; rfl) : DG X (.Subscript o a pos) (tgI ma mb) :=
  pg_imp (pg_sub ho hi (set_any hu) hs) fun v σ H Q ⟨e, st, μ, d, e', st', he, hs, hv, hg, hq⟩ => by
    unfold tgI at hg
    split at hg
    · cases hg
    · rename_i x st1 h1
      split at hg
      · cases hg
      · rename_i y st2 h2
        split at hg
        · cases hg
        · rename_i st3 h3
          cases hg
          refine ⟨e, st, μ, x, st1, he, hs, h1, fun H1 μ1 w x1 hs1 rw' => ⟨e, st1, μ1, y, st2, he.ext x1, hs1, h2, fun H2 μ2 w2 x2 hs2 rw2 => ?_⟩⟩
          exact ⟨st2, μ2, x, y, d, _, hs2, rw'.ext x2, rw2, (hv.ext x1).ext x2, h3, fun H3 x3 hs3 => hq σ H3 μ2 (x1.trans (x2.trans x3)) (he.ext (x1.trans (x2.trans x3))) hs3⟩

/-! ### statements -/
def sSkip : MS := fun e st => some (.nx, e, st)
theorem dss_nil : DSs X [] sSkip := pss_imp pss_nil fun D σ H ⟨e, st, μ, o, he, hs, hm, hq⟩ => by
  cases hm
  exact hq σ H μ Ext.refl he hs
def sSeq (m n : MS) : MS := fun e st => match m e st with
  | some (.nx, e1, st1) => n e1 st1
  | r => r
theorem dss_cons (h : DS X s m) (hr : DSs X ss n) : DSs X (s :: ss) (sSeq m n) := pss_imp (pss_cons h hr) fun D σ H ⟨e, st, μ, o, he, hs, hm, hq⟩ => by
  unfold sSeq at hm
  split at hm
  · rename_i e1 st1 h1
    refine ⟨e, st, μ, _, he, hs, h1, fun σ1 H1 μ1 x1 he1 hs1 => ?_⟩
    exact ⟨e1, st1, μ1, o, he1, hs1, hm, hq.ext x1⟩
  · rename_i h1 h2
    refine ⟨e, st, μ, o, he, hs, hm, ?_⟩
    obtain ⟨f, e1, st1⟩ := o
    cases f with
    | nx => exact absurd hm (h2 e1 st1)
    | rt d => exact hq
    | bk => exact hq
    | ct => exact hq
theorem dss_one (h : DS X s m) : DSs X [s] m := pss_one h
theorem ds_pass : DS X (.Pass pos) sSkip := ps_imp ps_pass fun D σ H ⟨e, st, μ, o, he, hs, hm, hq⟩ => by
  cases hm
  exact hq σ H μ Ext.refl he hs
theorem ds_break : DS X (.Break pos) (fun e st => some (.bk, e, st)) := ps_imp ps_break fun D σ H ⟨e, st, μ, o, he, hs, hm, hq⟩ => by
  cases hm
  exact hq σ H μ Ext.refl he hs
theorem ds_cont : DS X (.Continue pos) (fun e st => some (.ct, e, st)) := ps_imp ps_continue fun D σ H ⟨e, st, μ, o, he, hs, hm, hq⟩ => by
  cases hm
  exact hq σ H μ Ext.refl he hs
def sExpr (m : ME DV) : MS := fun e st => match m e st with
  | some (_, st1) => some (.nx, e, st1)
  | none => none
theorem ds_expr (h : DE X e ma) (hs : swapsWith e none pos.line X.env = pure false := by rfl) : DS X (.Expr e pos) (sExpr ma) := ps_imp (ps_expr h hs) fun D σ H ⟨e, st, μ, o, he, hs, hm, hq⟩ => by
  unfold sExpr at hm
  split at hm
  · rename_i d st1 h1
    cases hm
    exact ⟨e, st, μ, d, st1, he, hs, h1, fun H1 μ1 v x1 hs1 rv => hq σ H1 μ1 x1 (he.ext x1) hs1⟩
  · cases hm
def sRet (m : ME DV) : MS := fun e st => match m e st with
  | some (d, st1) => some (.rt d, e, st1)
  | none => none
theorem ds_ret (h : DE X e ma) : DS X (.Return (some e) pos) (sRet ma) := ps_imp (ps_ret h) fun D σ H ⟨e, st, μ, o, he, hs, hm, hq⟩ => by
  unfold sRet at hm
  split at hm
  · rename_i d st1 h1
    cases hm
    exact ⟨e, st, μ, d, st1, he, hs, h1, fun H1 μ1 v x1 hs1 rv => hq v H1 μ1 x1 hs1 rv⟩
  · cases hm
theorem ds_retN : DS X (.Return none pos) (sRet (mC .non)) := ps_imp ps_retN fun D σ H ⟨e, st, μ, o, he, hs, hm, hq⟩ => by
  cases hm
  exact hq .non H μ Ext.refl hs .non
def sIf (t : ME Bool) (m n : MS) : MS := fun e st => match t e st with
  | some (true, st1) => m e st1
  | some (false, st1) => n e st1
  | none => none
theorem ds_if {t : Expr} {mt : ME Bool} {tt : List Stmt} (ht : DT X t mt) (h : DSs X ss m) (h' : DSs X tt n) : DS X (.If t ss tt pos) (sIf mt m n) := ps_imp (ps_if ht h h') fun D σ H ⟨e, st, μ, o, he, hs, hm, hq⟩ => by
  unfold sIf at hm
  split at hm
  · rename_i st1 h1
    refine ⟨e, st, μ, true, st1, he, hs, h1, fun H1 μ1 x1 hs1 => ?_⟩
    refine iteT ?_
    exact ⟨e, st1, μ1, o, he.ext x1, hs1, hm, hq.ext x1⟩
  · rename_i st1 h1
    refine ⟨e, st, μ, false, st1, he, hs, h1, fun H1 μ1 x1 hs1 => ?_⟩
    refine iteF ?_
    exact ⟨e, st1, μ1, o, he.ext x1, hs1, hm, hq.ext x1⟩
  · cases hm
def sAsg (g : MG) (m : ME DV) : MS := fun e st => match m e st with
  | some (d, st1) => match g d e st1 with
    | some (e2, st2) => some (.nx, e2, st2)
    | none => none
  | none => none
theorem asg_read {g : MG} {te : TE} (i : ∀ σ H Q, tD X.K ma σ H Q → te σ H Q) : ∀ D σ H, tSD X.K (sAsg g ma) D σ H → tAsg te (tGD X.K g) D σ H := by
  intro D σ H ⟨e, st, μ, o, he, hs, hm, hq⟩
  unfold sAsg at hm
  split at hm
  · rename_i d st1 h1
    split at hm
    · rename_i e2 st2 h2
      cases hm
      refine i _ _ _ ⟨e, st, μ, d, st1, he, hs, h1, fun H1 μ1 v x1 hs1 rv => ?_⟩
      exact ⟨e, st1, μ1, d, e2, st2, he.ext x1, hs1, rv, h2, fun σ3 H3 μ3 x3 he3 hs3 => hq σ3 H3 μ3 (x1.trans x3) he3 hs3⟩
    · cases hm
  · cases hm
theorem ds_asg {t : Expr} {g : MG} (h : DE X e ma) (hg : DG X t g) (hs : swapsWithSole [t] e pos.line X.env = pure false := by rfl) (hw : swappedStores [t] e X.env = pure none := by rfl) (h1 : (assignEach [t] X.env).map (·.2) = [assign t X.env] := by rfl) : DS X (.Assign [t] e pos) (sAsg g ma) :=
  ps_imp (ps_asg h hg hs hw h1) (asg_read fun _ _ _ h => h)
def sSet (i : Nat) (m : ME DV) : MS := sAsg (tgN i) m
theorem set_read {i : Nat} {te : TE} (j : ∀ σ H Q, tD X.K ma σ H Q → te σ H Q) : ∀ D σ H, tSD X.K (sSet i ma) D σ H → tAsg te (gName i) D σ H := by
  intro D σ H ⟨e, st, μ, o, he, hs, hm, hq⟩
  unfold sSet sAsg at hm
  split at hm
  · rename_i d st1 h1
    cases hm
    exact j _ _ _ ⟨e, st, μ, d, st1, he, hs, h1, fun H1 μ1 v x1 hs1 rv => hq _ H1 μ1 x1 ((he.ext x1).set i rv) hs1⟩
  · cases hm
theorem ds_set {i : Nat} {x : Str} {p' : Pos} (hN : X.N.Nodup) (h : DE X e ma) (hi : X.N[i]? = some x := by rfl) (hx : Loc X.env.scope x := by first | exact Or.inl rfl | exact Or.inr rfl) (hs : swapsWith e (some (.Name x p')) pos.line X.env = pure false := by rfl) (hf : X.fn x = true ∨ X.env.scope.names.lookup x = some .local := by first | exact .inl rfl | exact .inr rfl) : DS X (.Assign [.Name x p'] e pos) (sSet i ma) :=
  ps_imp (ps_set hN hi hx h hs hf) (set_read fun _ _ _ h => h)
/-- a, b = x, y, two locals -/
def sPar (i j : Nat) (m n : ME DV) : MS := fun e st => match mArgs [m, n] e st with
  | some ([c, d], st1) => some (.nx, (e.set i (some c)).set j (some d), st1)
  | _ => none
theorem ds_par {i j : Nat} {x y : Str} {px py pt : Pos} {kt k2 : Nat} {pt2 : Pos} (hc : X.calm = true) (hN : X.N.Nodup) (hij : i ≠ j) (ha : DE X a ma) (hb : DE X b mb) (hi : X.N[i]? = some x := by rfl) (hj : X.N[j]? = some y := by rfl)
    (hx : X.env.scope.names.lookup x = some .local := by rfl) (hy : X.env.scope.names.lookup y = some .local := by rfl)
    (hw : swappedStores [.Tuple [.Name x px, .Name y py] kt pt] (.Tuple [a, b] k2 pt2) X.env = pure (some [x, y]) := by rfl)
    (hs : swapsWithSole [.Tuple [.Name x px, .Name y py] kt pt] (.Tuple [a, b] k2 pt2) pos.line X.env = pure false := by rfl)
    (e1 : starEach [a, b] X.env = (false, eval a X.env) :: starEach [b] X.env := by rfl) (e2 : starEach [b] X.env = (false, eval b X.env) :: starEach [] X.env := by rfl) :
    DS X (.Assign [.Tuple [.Name x px, .Name y py] kt pt] (.Tuple [a, b] k2 pt2) pos) (sPar i j ma mb) :=
  ps_imp (ps_par hc hN hi hj hij hx hy (da_cons ha (da_cons hb da_nil e2) e1) hw hs) fun D σ H ⟨e, st, μ, o, he, hs, hm, hq⟩ => by
    unfold sPar at hm
    split at hm
    · rename_i c d st1 h1
      cases hm
      refine ⟨e, st, μ, [c, d], st1, he, hs, h1, fun H1 μ1 vs x1 hs1 rvs => ?_⟩
      cases rvs with
      | cons r1 rr =>
        cases rr with
        | cons r2 rr =>
          cases rr
          exact ⟨_, _, rfl, hq _ H1 μ1 x1 (((he.ext x1).set i r1).set j r2) hs1⟩
    · cases hm
/-! ### name op= e -/
def sAug (i : Nat) (g : G2) (m : ME DV) : MS := fun e st => match mVar i e st with
  | some (x, _) => match m e st with
    | some (y, st1) => match g x y st1 with
      | some (z, st2) => some (.nx, e.set i (some z), st2)
      | none => none
    | none => none
  | none => none
def tIpD (K : PySem.W.Frag) (g : G2) : TIp := rB K g
theorem ip_of {op : Operator} {g : G2} (h : OpD X (inplaceOp op) g) : PIp X op (tIpD X.K g) := h
theorem ds_aug {i : Nat} {x : Str} {op : Operator} {g : G2} {p' : Pos} (hN : X.N.Nodup) (ho : OpD X (inplaceOp op) g) (h : DE X e ma) (hi : X.N[i]? = some x := by rfl) (hx : Loc X.env.scope x := by first | exact Or.inl rfl | exact Or.inr rfl) (hf : X.fn x = true ∨ X.env.scope.names.lookup x = some .local := by first | exact .inl rfl | exact .inr rfl) : DS X (.AugAssign (.Name x p') op e pos) (sAug i g ma) :=
  ps_imp (ps_aug hN hi hx h (ip_of ho) hf) fun D σ H ⟨e, st, μ, o, he, hs, hm, hq⟩ => by
    unfold sAug at hm
    split at hm
    · rename_i xd sx hx
      unfold mVar at hx
      split at hx
      · rename_i d' hd'
        cases hx
        obtain ⟨v, h1, h2⟩ := he.val i _ hd'
        split at hm
        · rename_i y st1 hy
          split at hm
          · rename_i z st2 hz
            cases hm
            refine ⟨v, h1, e, st, μ, y, st1, he, hs, hy, fun H1 μ1 w x1 hs1 rw' => ?_⟩
            exact ⟨st1, μ1, _, y, z, st2, hs1, h2.ext x1, rw', hz, fun H2 μ2 zv x2 hs2 rz => hq _ H2 μ2 (x1.trans x2) ((he.ext (x1.trans x2)).set i rz) hs2⟩
          · cases hm
        · cases hm
      · cases hx
    · cases hm
theorem od_iaddI : OpD X (inplaceOp .Add) (gI yes2 fun i j => .int (i + j)) := od_I (rI_of iop_add) (fun _ _ _ => trivial) fun _ _ _ i j => .int _

/-! ### while -/
def sWhile (t : ME Bool) (m : MS) : Nat → MS
  | 0, _, _ => none
  | k + 1, e, st => match t e st with
    | some (true, st1) => match m e st1 with
      | some (.nx, e2, st2) => sWhile t m k e2 st2
      | some (.ct, e2, st2) => sWhile t m k e2 st2
      | some (.bk, e2, st2) => some (.nx, e2, st2)
      | r => r
    | some (false, st1) => some (.nx, e, st1)
    | none => none
theorem ds_while (k : Nat) {t : Expr} {mt : ME Bool} (hp : PassesOwn (model X.prog X.w) X.A X.env X.xe) (ht : DT X t mt) (h : DSs X ss m) : DS X (.While t ss [] pos) (sWhile mt m k) :=
  ps_imp (ps_while hp ht h) fun D σ H ⟨e, st, μ, o, he, hs, hm, hq⟩ => by
    refine ⟨fun k σ H => ∃ e st μ o, RE X.K H μ e σ ∧ RS X.K H μ st ∧ sWhile mt m k e st = some o ∧ Fin X.K H μ { D with bk := fun _ _ => False, ct := fun _ _ => False } o, ⟨k, e, st, μ, o, he, hs, hm, ?_⟩, fun k σ H ⟨e, st, μ, o, he, hs, hm, hq⟩ => ?_⟩
    · have key : ∀ k e st o, sWhile mt m k e st = some o → (∃ e1 st1, o = (.nx, e1, st1)) ∨ ∃ d e1 st1, o = (.rt d, e1, st1) := by
        intro k
        induction k with
        | zero => intro e st o h; cases h
        | succ k ih =>
          intro e st o h
          unfold sWhile at h
          split at h
          · split at h
            · exact ih _ _ _ h
            · exact ih _ _ _ h
            · cases h; exact .inl ⟨_, _, rfl⟩
            · rename_i h1 h2 h3
              obtain ⟨f, e1, st1⟩ := o
              cases f with
              | nx => exact absurd h (h1 _ _)
              | ct => exact absurd h (h2 _ _)
              | bk => exact absurd h (h3 _ _)
              | rt d => exact .inr ⟨d, e1, st1, rfl⟩
          · cases h; exact .inl ⟨_, _, rfl⟩
          · cases h
      rcases key k e st o hm with ⟨e1, st1, rfl⟩ | ⟨d, e1, st1, rfl⟩
      · exact hq
      · exact hq
    · cases k with
      | zero => cases hm
      | succ k =>
        unfold sWhile at hm
        split at hm
        · rename_i st1 h1
          refine ⟨e, st, μ, true, st1, he, hs, h1, fun H1 μ1 x1 hs1 => ?_⟩
          refine iteT ?_
          refine ⟨fun σ H => ∃ e st μ o, RE X.K H μ e σ ∧ RS X.K H μ st ∧ sWhile mt m k e st = some o ∧ Fin X.K H μ { D with bk := fun _ _ => False, ct := fun _ _ => False } o, fun σ' H' n => ⟨k, Nat.lt_succ_self k, n⟩, ?_⟩
          split at hm
          · rename_i e2 st2 h2
            exact ⟨e, st1, μ1, _, he.ext x1, hs1, h2, fun σ2 H2 μ2 x2 he2 hs2 => ⟨e2, st2, μ2, o, he2, hs2, hm, hq.ext (x1.trans x2)⟩⟩
          · rename_i e2 st2 h2
            exact ⟨e, st1, μ1, _, he.ext x1, hs1, h2, fun σ2 H2 μ2 x2 he2 hs2 => ⟨e2, st2, μ2, o, he2, hs2, hm, hq.ext (x1.trans x2)⟩⟩
          · rename_i e2 st2 h2
            cases hm
            exact ⟨e, st1, μ1, _, he.ext x1, hs1, h2, fun σ2 H2 μ2 x2 he2 hs2 => hq σ2 H2 μ2 (x1.trans x2) he2 hs2⟩
          · rename_i n1 n2 n3
            refine ⟨e, st1, μ1, o, he.ext x1, hs1, hm, ?_⟩
            obtain ⟨f, e1, st1'⟩ := o
            cases f with
            | nx => exact absurd hm (n1 _ _)
            | ct => exact absurd hm (n2 _ _)
            | bk => exact absurd hm (n3 _ _)
            | rt d => exact hq.ext x1
        · rename_i st1 h1
          cases hm
          refine ⟨e, st, μ, false, st1, he, hs, h1, fun H1 μ1 x1 hs1 => ?_⟩
          refine iteF ?_
          exact hq σ H1 μ1 x1 (he.ext x1) hs1
        · cases hm
end
end DL

/-! DL7: what is walked; for, list comprehensions by data. -/
namespace DL
open PySem PySem.Spec PyProof.Rows L2

theorem bind_eq {α β : Type} {m : ME α} {f : α → ME β} {e : Env} {st st1 : Sto} {a : α} (h : m e st = some (a, st1)) : ME.bind m f e st = f a e st1 := by
  unfold ME.bind
  rw [h]
/-- the cell that is walked stays as it is -/
def stays (s : Option Nat) (ds : List DV) (st : Sto) : Prop := match s with
  | none => True
  | some l => st[l]? = some (.lst ds)
/-- items, and the cell that they stand in -/
abbrev MI := ME (Option Nat × List DV)
/-- what stays of what is new since Hs; all tuples -/
structure Ext2 (Hs H : Hp) (μ : List Addr) (H' : Hp) (μ' : List Addr) : Prop where
  pre : ∃ t, μ' = μ ++ t ∧ ∀ a ∈ t, H a = none
  tup : ∀ a xs, H a = some (.tup xs) → H' a = some (.tup xs)
  frz : ∀ a o u, H a = some (.frz o u) → H' a = some (.frz o u)
  oth : ∀ a o, Hs a = none → a ∉ μ → H a = some o → H' a = some o
  trk : ∀ a, H' a = none → H a = none
theorem Ext.two {Hs H H1 : Hp} {μ μ1 : List Addr} (x : Ext H μ H1 μ1) : Ext2 Hs H μ H1 μ1 := ⟨x.pre, x.tup, x.frz, fun a o _ h1 h2 => x.oth a o h1 h2, x.trk⟩
theorem Ext2.after {Hs H H1 H2 : Hp} {μ μ1 μ2 : List Addr} (x : Ext H μ H1 μ1) (y : Ext2 Hs H1 μ1 H2 μ2) : Ext2 Hs H μ H2 μ2 := by
  obtain ⟨t, rfl, ht⟩ := x.pre
  obtain ⟨u, rfl, hu⟩ := y.pre
  refine ⟨⟨t ++ u, by simp, fun a h => ?_⟩, fun a xs h => y.tup _ _ (x.tup _ _ h), fun a o w h => y.frz _ _ _ (x.frz _ _ _ h), fun a o h0 h1 h2 => y.oth a o h0 (fun z => ?_) (x.oth a o h1 h2), fun a h => x.trk a (y.trk a h)⟩
  · rcases List.mem_append.mp h with h | h
    · exact ht a h
    · exact x.trk a (hu a h)
  rcases List.mem_append.mp z with z | z
  · exact h1 z
  · rw [ht a z] at h2; cases h2
theorem Ext2.sqt {K : PySem.W.Frag} {Hs H H1 : Hp} {μ μ1 : List Addr} (x : Ext2 Hs H μ H1 μ1) {a : Addr} {xs : List V} (h : SqT K H a xs) : SqT K H1 a xs := by
  rcases h with (h | ⟨o, h⟩) | h
  · exact .inl (.inl (x.tup _ _ h))
  · exact .inl (.inr ⟨o, x.frz _ _ _ h⟩)
  · exact .inr h
theorem Ext2.sqr {K : PySem.W.Frag} {Hs H H1 : Hp} {μ μ1 : List Addr} (x : Ext2 Hs H μ H1 μ1) {a : Addr} {xs : List V} (h : SqR K H a xs) : SqR K H1 a xs := by
  rcases h with ⟨o, h⟩ | h
  · exact .inl ⟨o, x.frz _ _ _ h⟩
  · exact .inr h
theorem Ext2.at {Hs H H1 : Hp} {μ μ1 : List Addr} (x : Ext2 Hs H μ H1 μ1) {l : Nat} {a : Addr} (h : μ[l]? = some a) : μ1[l]? = some a := by
  obtain ⟨t, rfl, _⟩ := x.pre
  obtain ⟨h1, _⟩ := List.getElem?_eq_some_iff.mp h
  rw [List.getElem?_append_left h1]; exact h
theorem RVs.ext2 {K : PySem.W.Frag} {Hs H H1 : Hp} {μ μ1 : List Addr} (x : Ext2 Hs H μ H1 μ1) {d : List DV} {v : List V} (r : RVs K H μ d v) : RVs K H1 μ1 d v :=
  RVs.rec (motive_1 := fun d v _ => RV K H1 μ1 d v) (motive_2 := fun d v _ => RVs K H1 μ1 d v) .non .bl .int .str (fun s z _ r => .tup (x.sqt s) z r) (fun h => .ref (x.at h)) (fun s z _ r => .scr (x.sqr s) z r) .nil (fun _ _ a b => .cons a b) r
def ItD (K : PySem.W.Frag) (J : It) (s : Option Nat) (ds : List DV) (Hs H0 : Hp) (μ0 : List Addr) : Prop :=
  ds.length ≤ sizeLine ∧ ∀ H μ st i, Ext2 Hs H0 μ0 H μ → RS K H μ st → stays s ds st →
    (∀ d, ds[i]? = some d → J.go i H ∧ ∀ x H', J.yld i H x H' → Ext H μ H' μ ∧ RS K H' μ st ∧ RV K H' μ d x) ∧ (ds.length ≤ i → J.stop i H)
def tID (K : PySem.W.Frag) (m : MI) : TI := fun σ H R => ∃ e st μ s ds st', RE K H μ e σ ∧ RS K H μ st ∧ m e st = some ((s, ds), st') ∧
  ∀ H' μ' J, Ext H μ H' μ' → RS K H' μ' st' → ItD K J s ds H H' μ' → R J H'
def DI (X : Cx) (t e : Expr) (m : MI) : Prop := PI X t e (tID X.K m)
theorem pi_imp {X : Cx} {tg e : Expr} {t t' : TI} (h : PI X tg e t) (i : ∀ σ H Q, t' σ H Q → t σ H Q) : PI X tg e t' := ⟨fun pins s σ H Q I q => h.run pins s σ H Q I (i _ _ _ q)⟩
theorem it_tup {K : PySem.W.Frag} {Hs H : Hp} {μ : List Addr} {a : Addr} {ds : List DV} {vs : List V} (sq : SqT K H a vs) (z : vs.length ≤ sizeLine) (rs : RVs K H μ ds vs) : ItD K (Itt K a) none ds Hs H μ := by
  refine ⟨by rw [rs.length]; exact z, fun H1 μ1 st i x hs _ => ⟨fun d hd => ?_, fun hl => ⟨vs, x.sqt sq, by rw [← rs.length]; exact hl⟩⟩⟩
  obtain ⟨v, h1, h2⟩ := (rs.ext2 x).get hd
  refine ⟨⟨vs, v, x.sqt sq, h1⟩, fun y H' hy => ?_⟩
  obtain ⟨rfl, hy⟩ := hy
  have := hy vs (x.sqt sq)
  rw [h1] at this
  cases this
  exact ⟨Ext.refl, hs, h2⟩
/-- the list at a holds these values as long as it may be walked -/
theorem it_lst {K : PySem.W.Frag} {Hs H : Hp} {μ : List Addr} {a : Addr} {s : Option Nat} {ds : List DV} (z : ds.length ≤ sizeLine) (h : ∀ H1 μ1 st, Ext2 Hs H μ H1 μ1 → RS K H1 μ1 st → stays s ds st → ∃ vs, SqL K H1 a vs ∧ RVs K H1 μ1 ds vs ) : ItD K (Itl K a) s ds Hs H μ := by
  refine ⟨z, fun H1 μ1 st i x hs y => ?_⟩
  obtain ⟨vs, sq, rs⟩ := h H1 μ1 st x hs y
  refine ⟨fun d hd => ?_, fun hl => ⟨vs, sq, by rw [← rs.length]; exact hl⟩⟩
  obtain ⟨v, h1, h2⟩ := rs.get hd
  refine ⟨⟨vs, v, sq, h1⟩, fun y H' hy => ?_⟩
  obtain ⟨rfl, hy⟩ := hy
  have := hy vs sq
  rw [h1] at this
  cases this
  exact ⟨Ext.refl, hs, h2⟩
section
variable {X : Cx} {a b c e o tg : Expr} {es : List Expr} {ma mb mc : ME DV} {mq : ME (List DV)} {pos p apos : Pos} {s : Stmt} {ss : List Stmt} {m n : MS}
def srcOf : DV → Option Nat
  | .ref l => some l
  | _ => none
def itV (m : ME DV) : MI := ME.bind m fun d => fun _ st => match itemsOf st d with
  | some ds => some ((srcOf d, ds), st)
  | none => none
theorem di_val (h : DE X e ma) : DI X tg e (itV ma) := by
  refine ⟨fun pins s σ H R I hr => ?_⟩
  obtain ⟨en, st, μ, sr, ds, st', he, hs, hm, hq⟩ := hr
  obtain ⟨d, st1, h1, hm⟩ := bind_some hm
  cases q : itemsOf st1 d with
  | none => rw [q] at hm; cases hm
  | some ds0 =>
    rw [q] at hm
    cases hm
    cases d with
    | tup ds0 =>
      cases q
      refine (pi_tup h).run pins s σ H R I ⟨en, st, μ, _, _, he, hs, h1, fun H1 μ1 v x1 hs1 rv => ?_⟩
      cases rv with
      | tup sq z rs => exact ⟨_, rfl, ⟨_, sq⟩, hq H1 μ1 _ x1 hs1 (it_tup sq z rs)⟩
    | scr ds0 =>
      cases q
      refine (pi_list h).run pins s σ H R I ⟨en, st, μ, _, _, he, hs, h1, fun H1 μ1 v x1 hs1 rv => ?_⟩
      cases rv with
      | @scr a _ vs sq z rs =>
        refine ⟨_, rfl, ⟨_, sq.sql⟩, hq H1 μ1 _ x1 hs1 (it_lst (by rw [rs.length]; exact z) fun H2 μ2 st2 x2 hs2 _ => ⟨vs, (x2.sqr sq).sql, rs.ext2 x2⟩)⟩
    | ref l =>
      refine (pi_list h).run pins s σ H R I ⟨en, st, μ, _, _, he, hs, h1, fun H1 μ1 v x1 hs1 rv => ?_⟩
      cases rv with
      | @ref _ a hl =>
        obtain ⟨vs, ha, z, rs⟩ := lst_read hs1 q hl
        refine ⟨_, rfl, ⟨_, SqL.of ha⟩, hq H1 μ1 _ x1 hs1 (it_lst (by rw [rs.length]; exact z) fun H2 μ2 st2 x2 hs2 hst => ?_)⟩
        have q2 : itemsOf st2 (.ref l) = some ds := by
          show (match st2[l]? with
            | some (.lst ds) => some ds
            | _ => none) = some ds
          have hst : st2[l]? = some (.lst ds) := hst
          rw [hst]
        obtain ⟨vs2, ha2, z2, rs2⟩ := lst_read hs2 q2 (x2.at hl)
        exact ⟨vs2, SqL.of ha2, rs2⟩
    | _ => cases q
def itF (m : ME (List DV)) : MI := ME.bind m fun ds => ME.pure (none, ds)
theorem di_new (h : DF X e mq) : DI X tg e (itF mq) := pi_imp (pi_list h) fun σ H R ⟨en, st, μ, sr, ds, st', he, hs, hm, hq⟩ => by
  obtain ⟨d, st1, h1, hm⟩ := bind_some hm
  cases hm
  refine ⟨en, st, μ, _, _, he, hs, h1, fun H1 μ1 a vs x1 hs1 n1 n2 ha z rs => ⟨a, rfl, ⟨vs, SqL.of ha⟩, hq H1 μ1 _ x1 hs1 (it_lst (by rw [rs.length]; exact z) fun H2 μ2 st2 x2 hs2 _ => ?_)⟩⟩
  exact ⟨vs, SqL.of (x2.oth a _ n1 n2 ha), rs.ext2 x2⟩
theorem rgD_len {i j : Int} : (rgD i j).length = (j - i).toNat := by unfold rgD; rw [List.length_map, List.length_range]
theorem it_rng {K : PySem.W.Frag} {Hs H : Hp} {μ : List Addr} {i j : Int} (h : okR i j = true) : ItD K (Itr i (j - i).toNat) none (rgD i j) Hs H μ := by
  have hz : (rgD i j).length ≤ sizeLine := by
    have := rgV_len h
    rw [rgV_length] at this
    rw [rgD_len]; exact this
  refine ⟨hz, fun H1 μ1 st k x hs _ => ⟨fun d hd => ?_, fun hl => ?_⟩⟩
  · have hk : k < (j - i).toNat := by
      have := (List.getElem?_eq_some_iff.mp hd).1
      rw [rgD_len] at this; exact this
    have ed : d = .int (i + (k : Nat)) := by
      unfold rgD at hd
      rw [List.getElem?_map, List.getElem?_range hk] at hd
      exact (Option.some.inj hd).symm
    subst ed
    refine ⟨hk, fun y H' hy => ?_⟩
    obtain ⟨rfl, rfl⟩ := hy
    exact ⟨Ext.refl, hs, .int _⟩
  · rw [rgD_len] at hl; exact hl
theorem di_rg1 (hm : X.mg "range" = none) (ha : DE X a ma) (hg : Gl X "range" := by rfl) (hs : starEach [a] X.env = [(false, eval a X.env)] := by rfl) (hs2 : starEach [a] X.env = (false, eval a X.env) :: starEach [] X.env := by rfl) : DI X tg (.Call (.Name "range" p) [a] [] pos) (itF (mRg1 ma)) :=
  pi_imp (pi_range1 hg hm (da_cons ha da_nil hs2) hs) fun σ H R ⟨en, st, μ, sr, ds, st', he, hs, hm, hq⟩ => by
    obtain ⟨d, st1, h1, hm⟩ := bind_some hm
    cases hm
    obtain ⟨x, st2, h2, h1⟩ := bind_some h1
    cases x with
    | int n =>
      have h1 : (if okR 0 n = true then some (rgD 0 n, st2) else none) = some (_, _) := h1
      split at h1
      · rename_i hk
        cases h1
        refine ⟨en, st, μ, [.int n], st', he, hs, ?_, fun H1 μ1 vs x1 hs1 rs => ?_⟩
        · show ME.bind ma _ en st = _
          unfold ME.bind
          rw [h2]
          rfl
        · cases rs with
          | cons r rr =>
            cases rr
            cases r
            have b := okR_ok hk
            refine ⟨n, rfl, b.2.2.1, b.2.2.2.1, hq H1 μ1 _ x1 hs1 ?_⟩
            have := it_rng (K := X.K) (Hs := H) (H := H1) (μ := μ1) hk
            rw [Int.sub_zero] at this
            exact this
      · cases h1
    | _ => cases h1
theorem di_rg2 (hm : X.mg "range" = none) (ha : DE X a ma) (hb : DE X b mb) (hg : Gl X "range" := by rfl) (hs : starEach [a, b] X.env = [(false, eval a X.env), (false, eval b X.env)] := by rfl) (hs2 : starEach [b] X.env = [(false, eval b X.env)] := by rfl) (hs3 : starEach [a, b] X.env = (false, eval a X.env) :: starEach [b] X.env := by rfl) (hs4 : starEach [b] X.env = (false, eval b X.env) :: starEach [] X.env := by rfl) : DI X tg (.Call (.Name "range" p) [a, b] [] pos) (itF (mRg2 ma mb)) :=
  pi_imp (pi_range2 hg hm (da_cons ha (da_cons hb da_nil hs4) hs3) hs hs2) fun σ H R ⟨en, st, μ, sr, ds, st', he, hs, hm, hq⟩ => by
    obtain ⟨d, st1, h1, hm⟩ := bind_some hm
    cases hm
    obtain ⟨x, st2, h2, h1⟩ := bind_some h1
    obtain ⟨y, st3, h3, h1⟩ := bind_some h1
    cases x with
    | int i =>
      cases y with
      | int j =>
        have h1 : (if okR i j = true then some (rgD i j, st3) else none) = some (_, _) := h1
        split at h1
        · rename_i hk
          cases h1
          refine ⟨en, st, μ, [.int i, .int j], st', he, hs, ?_, fun H1 μ1 vs x1 hs1 rs => ?_⟩
          · have e3 : mArgs [mb] en st2 = some ([.int j], st') := (bind_eq h3).trans rfl
            exact (bind_eq h2).trans ((bind_eq e3).trans rfl)
          · cases rs with
            | cons r rr =>
              cases rr with
              | cons r2 rr =>
                cases rr
                cases r
                cases r2
                have b := okR_ok hk
                exact ⟨i, j, rfl, ⟨b.1, b.2.1, b.2.2.1, b.2.2.2.1⟩, hq H1 μ1 _ x1 hs1 (it_rng hk)⟩
        · cases h1
      | _ => cases h1
    | _ => cases h1

/-! ### for -/
open Classical in
noncomputable def forD (s : Option Nat) (all : List DV) (g : MG) (m : MS) : List DV → MS
  | [], e, st => if stays s all st then some (.nx, e, st) else none
  | d :: r, e, st => if stays s all st then (match g d e st with
    | some (e1, st1) => (match m e1 st1 with
      | some (.nx, e2, st2) => forD s all g m r e2 st2
      | some (.ct, e2, st2) => forD s all g m r e2 st2
      | some (.bk, e2, st2) => some (.nx, e2, st2)
      | r => r)
    | none => none) else none
noncomputable def sFor (mi : MI) (g : MG) (m : MS) : MS := fun e st => match mi e st with
  | some ((s, ds), st1) => forD s ds g m ds e st1
  | none => none
theorem forD_out {s : Option Nat} {all : List DV} {g : MG} {m : MS} : ∀ (r : List DV) (e : Env) (st : Sto) (o : Fl × Env × Sto), forD s all g m r e st = some o → (∃ e1 st1, o = (.nx, e1, st1)) ∨ ∃ d e1 st1, o = (.rt d, e1, st1)
  | [], e, st, o, h => by
    unfold forD at h
    split at h
    · cases h; exact .inl ⟨_, _, rfl⟩
    · cases h
  | d :: r, e, st, o, h => by
    unfold forD at h
    split at h
    · split at h
      · split at h
        · exact forD_out r _ _ _ h
        · exact forD_out r _ _ _ h
        · cases h; exact .inl ⟨_, _, rfl⟩
        · rename_i h1 h2 h3
          obtain ⟨f, e1, st1⟩ := o
          cases f with
          | nx => exact absurd h (h1 _ _)
          | ct => exact absurd h (h2 _ _)
          | bk => exact absurd h (h3 _ _)
          | rt d => exact .inr ⟨d, e1, st1, rfl⟩
      · cases h
    · cases h
theorem ds_for {iter : Expr} {mi : MI} {g : MG} (hp : PassesOwn (model X.prog X.w) X.A X.env X.xe) (hc : X.calm = true) (hi : DI X tg iter mi) (hg : DG X tg g) (hb : DSs X ss m) (hs : ∀ x, foldedSetIterable iter X.env x = pure x := by intro _; rfl) : DS X (.For tg iter ss [] pos) (sFor mi g m) :=
  ps_imp (ps_for hp hc hi hg hb hs) fun D σ H ⟨e, st, μ, o, he, hs, hm, hq⟩ => by
    unfold sFor at hm
    split at hm
    · rename_i sr ds st1 h1
      refine ⟨e, st, μ, sr, ds, st1, he, hs, h1, fun H1 μ1 J x1 hs1 it => ?_⟩
      have hq' : Fin X.K H μ { D with bk := fun _ _ => False, ct := fun _ _ => False } o := by
        rcases forD_out ds e st1 o hm with ⟨e1, st2, rfl⟩ | ⟨d, e1, st2, rfl⟩
        · exact hq
        · exact hq
      refine ⟨fun i k σ H2 => k = ds.length - i ∧ i ≤ ds.length ∧ ∃ e2 st2 μ2, Ext H1 μ1 H2 μ2 ∧ RE X.K H2 μ2 e2 σ ∧ RS X.K H2 μ2 st2 ∧ forD sr ds g m (ds.drop i) e2 st2 = some o ∧ Fin X.K H2 μ2 { D with bk := fun _ _ => False, ct := fun _ _ => False } o,
        ⟨ds.length, by simp, Nat.zero_le _, e, st1, μ1, Ext.refl, he.ext x1, hs1, by simpa using hm, hq'.ext x1⟩, ?_⟩
      rintro i k σ2 H2 ⟨rfl, hle, e2, st2, μ2, x2, he2, hs2, hm2, hq2⟩
      by_cases hlt : i < ds.length
      · have ed : ds.drop i = ds[i] :: ds.drop (i + 1) := List.drop_eq_getElem_cons hlt
        rw [ed] at hm2
        unfold forD at hm2
        split at hm2
        · rename_i hst
          split at hm2
          · rename_i e3 st3 h3
            obtain ⟨i1, _⟩ := it.2 H2 μ2 st2 i x2.two hs2 hst
            obtain ⟨hgo, hy⟩ := i1 ds[i] (List.getElem?_eq_getElem hlt)
            refine .inr ⟨hgo, fun σ' H' => ∃ e4 st4 μ4, Ext H1 μ1 H' μ4 ∧ RE X.K H' μ4 e4 σ' ∧ RS X.K H' μ4 st4 ∧ forD sr ds g m (ds.drop (i + 1)) e4 st4 = some o ∧ Fin X.K H' μ4 { D with bk := fun _ _ => False, ct := fun _ _ => False } o, fun σ' H' n => ⟨ds.length - (i + 1), by omega, rfl, hlt, n⟩, fun x H' yx => ?_⟩
            obtain ⟨x3, hs3, rx⟩ := hy x H' yx
            refine ⟨e2, st2, μ2, ds[i], e3, st3, he2.ext x3, hs3, rx, h3, fun σ4 H4 μ4 x4 he4 hs4 => ?_⟩
            have x24 := x3.trans x4
            split at hm2
            · rename_i e5 st5 h5
              exact ⟨e3, st3, μ4, _, he4, hs4, h5, fun σ6 H6 μ6 x6 he6 hs6 => ⟨e5, st5, μ6, x2.trans (x24.trans x6), he6, hs6, hm2, hq2.ext (x24.trans x6)⟩⟩
            · rename_i e5 st5 h5
              exact ⟨e3, st3, μ4, _, he4, hs4, h5, fun σ6 H6 μ6 x6 he6 hs6 => ⟨e5, st5, μ6, x2.trans (x24.trans x6), he6, hs6, hm2, hq2.ext (x24.trans x6)⟩⟩
            · rename_i e5 st5 h5
              cases hm2
              exact ⟨e3, st3, μ4, _, he4, hs4, h5, fun σ6 H6 μ6 x6 he6 hs6 => hq2 σ6 H6 μ6 (x24.trans x6) he6 hs6⟩
            · rename_i n1 n2 n3
              refine ⟨e3, st3, μ4, o, he4, hs4, hm2, ?_⟩
              obtain ⟨f, e6, st6⟩ := o
              cases f with
              | nx => exact absurd hm2 (n1 _ _)
              | ct => exact absurd hm2 (n2 _ _)
              | bk => exact absurd hm2 (n3 _ _)
              | rt d => exact fun v H6 μ6 x6 => hq2 v H6 μ6 (x24.trans x6)
          · cases hm2
        · cases hm2
      · have ei : i = ds.length := by omega
        subst ei
        rw [List.drop_length] at hm2
        unfold forD at hm2
        split at hm2
        · rename_i hst
          cases hm2
          obtain ⟨_, i2⟩ := it.2 H2 μ2 st2 ds.length x2.two hs2 hst
          exact .inl ⟨i2 (Nat.le_refl _), hq2 σ2 H2 μ2 Ext.refl he2 hs2⟩
        · cases hm2
    · cases hm

/-! ### list comprehensions -/
/-- a comprehension's target: a name, or several -/
inductive CT where
  | nm (i : Nat) | tp (is : List Nat)
def setAll : List Nat → List DV → Env → Option Env
  | [], [], e => some e
  | i :: is, d :: ds, e => setAll is ds (e.set i (some d))
  | _, _, _ => none
def ctD : CT → DV → Env → Option Env
  | .nm i, d, e => some (e.set i (some d))
  | .tp is, .tup ds, e => setAll is ds e
  | .tp _, _, _ => none
def gNames : List Nat → TGs
  | [] => gNil
  | i :: is => gCons (gName i) (gNames is)
def cG (K : PySem.W.Frag) : CT → TG
  | .nm i => gName i
  | .tp is => gTup K is.length (gNames is)
def CT.ix : CT → List Nat
  | .nm i => [i]
  | .tp is => is
def wipeE (e : Env) : List Nat → Env
  | [] => e
  | v :: vs => (wipeE e vs).set v none
theorem RE.wipe {K : PySem.W.Frag} {H : Hp} {μ : List Addr} {e : Env} {σ : L2.St} (r : RE K H μ e σ) : ∀ vs, RE K H μ (wipeE e vs) (wipe σ vs)
  | [] => r
  | v :: vs => (RE.wipe r vs).unset v
theorem wipe_set {i : Nat} {v : Option V} : ∀ {vs : List Nat} {σ : L2.St}, i ∈ vs → wipe (σ.set i v) vs = wipe σ vs
  | [], _, h => by simp at h
  | w :: vs, σ, h => by
    show (wipe (σ.set i v) vs).set w none = (wipe σ vs).set w none
    by_cases hm : i ∈ vs
    · rw [wipe_set hm]
    · have ew : i = w := by
        rcases List.mem_cons.mp h with h | h
        · exact h
        · exact absurd h hm
      subst ew
      have : ∀ {vs : List Nat} {σ : L2.St}, i ∉ vs → wipe (σ.set i v) vs = (wipe σ vs).set i v := by
        intro vs
        induction vs with
        | nil => intro σ _; rfl
        | cons w vs ih =>
          intro σ hn
          show (wipe (σ.set i v) vs).set w none = ((wipe σ vs).set w none).set i v
          rw [ih (fun z => hn (List.mem_cons_of_mem _ z)), List.set_comm]
          exact fun z => hn (by rw [z]; exact List.mem_cons_self)
      rw [this hm, List.set_set]
theorem wipe_wipe (σ : L2.St) : ∀ (us vs : List Nat), (∀ i ∈ us, i ∈ vs) → wipe (wipe σ us) vs = wipe σ vs
  | [], vs, _ => rfl
  | u :: us, vs, h => by
    show wipe ((wipe σ us).set u none) vs = wipe σ vs
    rw [wipe_set (h u List.mem_cons_self), wipe_wipe σ us vs fun i hi => h i (List.mem_cons_of_mem _ hi)]
theorem names_ok {K : PySem.W.Frag} {H : Hp} {μ : List Addr} {vs : List Nat} {τ : L2.St} {Q : L2.St → Hp → Prop} : ∀ {is : List Nat} {ds : List DV} {xs : List V} {e e' : Env} {σ : L2.St}, (∀ i ∈ is, i ∈ vs) → RVs K H μ ds xs → setAll is ds e = some e' → RE K H μ e σ → wipe σ vs = τ →
    (∀ σ', RE K H μ e' σ' → wipe σ' vs = τ → Q σ' H) → gNames is xs σ H Q
  | [], [], _, e, e', σ, _, r, h, he, hw, q => by
    cases h
    cases r
    exact ⟨rfl, q σ he hw⟩
  | [], _ :: _, _, _, _, _, _, _, h, _, _, _ => by cases h
  | _ :: _, [], _, _, _, _, _, _, h, _, _, _ => by cases h
  | i :: is, d :: ds, _, e, e', σ, hi, .cons r rs, h, he, hw, q => by
    refine ⟨_, _, rfl, ?_⟩
    exact names_ok (fun j hj => hi j (List.mem_cons_of_mem _ hj)) rs h (he.set i r) (by rw [wipe_set (hi i List.mem_cons_self)]; exact hw) q
theorem setAll_len : ∀ {is : List Nat} {ds : List DV} {e e' : Env}, setAll is ds e = some e' → ds.length = is.length
  | [], [], _, _, _ => rfl
  | [], _ :: _, _, _, h => by cases h
  | _ :: _, [], _, _, h => by cases h
  | _ :: is, _ :: ds, _, _, h => by rw [List.length_cons, List.length_cons, setAll_len (is := is) h]
theorem ct_ok {K : PySem.W.Frag} {H : Hp} {μ : List Addr} {vs : List Nat} {τ : L2.St} {Q : L2.St → Hp → Prop} {t : CT} {d : DV} {x : V} {e e' : Env} {σ : L2.St} (hi : ∀ i ∈ t.ix, i ∈ vs) (r : RV K H μ d x) (h : ctD t d e = some e') (he : RE K H μ e σ) (hw : wipe σ vs = τ)
    (q : ∀ σ', RE K H μ e' σ' → wipe σ' vs = τ → Q σ' H) : cG K t x σ H Q := by
  cases t with
  | nm i =>
    cases h
    exact q _ (he.set i r) (by rw [wipe_set (hi i (by simp [CT.ix]))]; exact hw)
  | tp is =>
    cases d with
    | tup ds =>
      cases r with
      | tup sq z rs => exact ⟨_, _, rfl, sq, by rw [← rs.length]; exact setAll_len h, names_ok hi rs h he hw q⟩
    | _ => cases h
def DPt (X : Cx) (ifs : List Expr) (m : ME Bool) : Prop := PTs X ifs (tTD X.K m)
theorem dpt_nil : DPt X [] (ME.pure true) := ⟨fun pins s σ H Q I h => pts_nil.run pins s σ H Q I (by
  obtain ⟨e, st, μ, d, st', he, hs, hm, hq⟩ := h
  cases hm
  exact hq H μ Ext.refl hs)⟩
theorem dpt_one {mt : ME Bool} (h : DT X e mt) : DPt X [e] mt := pts_one h
open Classical in
noncomputable def lcD (s : Option Nat) (all : List DV) (vs : List Nat) (t : CT) (mt : ME Bool) (me : ME DV) (e : Env) : List DV → Sto → Option (List DV × Sto)
  | [], st => if stays s all st then some ([], st) else none
  | d :: r, st => if stays s all st then (match ctD t d (wipeE e vs) with
    | some e1 => (match mt e1 st with
      | some (true, st1) => (match me e1 st1 with
        | some (y, st2) => (match lcD s all vs t mt me e r st2 with
          | some (ys, st3) => some (y :: ys, st3)
          | none => none)
        | none => none)
      | some (false, st1) => lcD s all vs t mt me e r st1
      | none => none)
    | none => none) else none
noncomputable def mLc (mi : MI) (vs : List Nat) (t : CT) (mt : ME Bool) (me : ME DV) : ME (List DV) := fun e st => match mi e st with
  | some ((s, ds), st1) => lcD s ds vs t mt me e ds st1
  | none => none
theorem lcD_len {s : Option Nat} {all : List DV} {vs : List Nat} {t : CT} {mt : ME Bool} {me : ME DV} {e : Env} : ∀ (r : List DV) (st : Sto) (ys : List DV) (st' : Sto), lcD s all vs t mt me e r st = some (ys, st') → ys.length ≤ r.length
  | [], st, ys, st', h => by
    unfold lcD at h
    split at h
    · cases h; exact Nat.le_refl _
    · cases h
  | d :: r, st, ys, st', h => by
    unfold lcD at h
    split at h
    · split at h
      · split at h
        · split at h
          · split at h
            · rename_i h5
              cases h
              have := lcD_len r _ _ _ h5
              simp only [List.length_cons]; omega
            · cases h
          · cases h
        · have := lcD_len r _ _ _ h
          simp only [List.length_cons]; omega
        · cases h
      · cases h
    · cases h
theorem app_ext {H : Hp} {μ : List Addr} {D : Addr} {acc acc' : List V} (hD : H D = some (.lst acc)) (hn : D ∉ μ) : Ext H μ (upd H D (.lst acc')) μ → True := fun _ => trivial
/-- the list that is being made grows: it is no cell -/
theorem grow_ext {H0 H : Hp} {μ0 μ : List Addr} {D : Addr} {acc acc' : List V} (x : Ext H0 μ0 H μ) (h0 : H0 D = none) (hD : H D = some (.lst acc)) : Ext H0 μ0 (upd H D (.lst acc')) μ := by
  refine ⟨x.pre, fun a xs h => ?_, fun a o u h => ?_, fun a o ha h => ?_, fun a h => ?_⟩
  · rw [upd_ne (fun z : a = D => by rw [z, h0] at h; cases h)]; exact x.tup _ _ h
  · rw [upd_ne (fun z : a = D => by rw [z, h0] at h; cases h)]; exact x.frz _ _ _ h
  · rw [upd_ne (fun z : a = D => by rw [z, h0] at h; cases h)]; exact x.oth _ _ ha h
  · by_cases e : a = D
    · subst e; exact h0
    · rw [upd_ne e] at h; exact x.trk _ h
theorem grow_rv {K : PySem.W.Frag} {H : Hp} {μ : List Addr} {D : Addr} {acc acc' : List V} (hD : H D = some (.lst acc)) : (∀ {d : DV} {v : V}, RV K H μ d v → RV K (upd H D (.lst acc')) μ d v) ∧ ∀ {d : List DV} {v : List V}, RVs K H μ d v → RVs K (upd H D (.lst acc')) μ d v := by
  have sqt : ∀ {a : Addr} {xs : List V}, SqT K H a xs → SqT K (upd H D (.lst acc')) a xs := fun {a xs} h => by
    rcases h with (h | ⟨o, h⟩) | h
    · exact .inl (.inl (by rw [upd_ne (ne_of h hD (by intro z; cases z))]; exact h))
    · exact .inl (.inr ⟨o, by rw [upd_ne (ne_of h hD (by intro z; cases z))]; exact h⟩)
    · exact .inr h
  have sqr : ∀ {a : Addr} {xs : List V}, SqR K H a xs → SqR K (upd H D (.lst acc')) a xs := fun {a xs} h => by
    rcases h with ⟨o, h⟩ | h
    · exact .inl ⟨o, by rw [upd_ne (ne_of h hD (by intro z; cases z))]; exact h⟩
    · exact .inr h
  have one : ∀ {d : DV} {v : V}, RV K H μ d v → RV K (upd H D (.lst acc')) μ d v := fun {d v} r =>
    RV.rec (motive_1 := fun d v _ => RV K (upd H D (.lst acc')) μ d v) (motive_2 := fun d v _ => RVs K (upd H D (.lst acc')) μ d v) .non .bl .int .str (fun s z _ r => .tup (sqt s) z r) (fun h => .ref h) (fun s z _ r => .scr (sqr s) z r) .nil (fun _ _ a b => .cons a b) r
  refine ⟨one, fun {d v} r => ?_⟩
  exact RVs.rec (motive_1 := fun d v _ => RV K (upd H D (.lst acc')) μ d v) (motive_2 := fun d v _ => RVs K (upd H D (.lst acc')) μ d v) .non .bl .int .str (fun s z _ r => .tup (sqt s) z r) (fun h => .ref h) (fun s z _ r => .scr (sqr s) z r) .nil (fun _ _ a b => .cons a b) r
theorem grow_rk {K : PySem.W.Frag} {H : Hp} {μ : List Addr} {D : Addr} {acc acc' : List V} (hD : H D = some (.lst acc)) : ∀ {d : List (Key × DV)} {v : List (Key × V)}, RKs K H μ d v → RKs K (upd H D (.lst acc')) μ d v
  | _, _, .nil => .nil
  | _, _, .cons r s => .cons ((grow_rv hD).1 r) (grow_rk hD s)
theorem grow_rs {K : PySem.W.Frag} {H : Hp} {μ : List Addr} {st : Sto} {D : Addr} {acc acc' : List V} (hs : RS K H μ st) (hD : H D = some (.lst acc)) (hn : D ∉ μ) : RS K (upd H D (.lst acc')) μ st := ⟨hs.len, hs.nd, fun l a o h1 h2 => by
  have c := hs.cell l a o h1 h2
  have ne : a ≠ D := fun z => hn (by rw [← z]; exact List.mem_of_getElem? h1)
  cases c with
  | lst h z r => exact .lst (by rw [upd_ne ne]; exact h) z ((grow_rv hD).2 r)
  | dct h z r => exact .dct (by rw [upd_ne ne]; exact h) z (grow_rk hD r)
  | dcn h r q => exact .dcn (by rw [upd_ne ne]; exact h) (grow_rk hD r) ((grow_rv hD).1 q)⟩
theorem grow_re {K : PySem.W.Frag} {H : Hp} {μ : List Addr} {e : Env} {σ : L2.St} {D : Addr} {acc acc' : List V} (he : RE K H μ e σ) (hD : H D = some (.lst acc)) : RE K (upd H D (.lst acc')) μ e σ := ⟨he.len, fun i d h => by
  obtain ⟨v, h1, h2⟩ := he.val i d h
  exact ⟨v, h1, (grow_rv hD).1 h2⟩⟩
theorem lc_read {K : PySem.W.Frag} {mi : MI} {vs : List Nat} {t : CT} {mt : ME Bool} {me : ME DV} (hv : ∀ i ∈ t.ix, i ∈ vs) : ∀ σ H Q, tFD K (mLc mi vs t mt me) σ H Q → tLc (tID K mi) (cG K t) (tTD K mt) (tD K me) vs σ H Q := by
  intro σ H Q ⟨e, st, μ, ds', st', he, hs, hm, hq⟩
  unfold mLc at hm
  split at hm
  · rename_i sr ds st1 h1
    refine ⟨e, st, μ, sr, ds, st1, he, hs, h1, fun H1 μ1 J x1 hs1 it D hD => ?_⟩
    obtain ⟨n1, n2⟩ := fresh_new x1 hs1 hD
    have xD : Ext H1 μ1 (upd H1 D (.lst [])) μ1 := ext_new hD
    refine ⟨fun i k H2 => k = ds.length - i ∧ i ≤ ds.length ∧ ∃ st2 μ2 ys acc ads, Ext H1 μ1 H2 μ2 ∧ RS K H2 μ2 st2 ∧ lcD sr ds vs t mt me e (ds.drop i) st2 = some (ys, st') ∧ ds' = ads ++ ys ∧ H2 D = some (.lst acc) ∧ RVs K H2 μ2 ads acc ∧ acc.length ≤ i ∧ D ∉ μ2,
      ⟨ds.length, by simp, Nat.zero_le _, st1, μ1, ds', [], [], xD, hs1.new hD, by simpa using hm, rfl, upd_same, .nil, Nat.zero_le _, n2⟩, ?_⟩
    rintro i k H2 ⟨rfl, hle, st2, μ2, ys, acc, ads, x2, hs2, hm2, e2, hD2, ra, hl2, nD2⟩
    by_cases hlt : i < ds.length
    · have ed : ds.drop i = ds[i] :: ds.drop (i + 1) := List.drop_eq_getElem_cons hlt
      rw [ed] at hm2
      unfold lcD at hm2
      split at hm2
      · rename_i hst
        split at hm2
        · rename_i e1 he1
          obtain ⟨i1, _⟩ := it.2 H2 μ2 st2 i x2.two hs2 hst
          obtain ⟨hgo, hy⟩ := i1 ds[i] (List.getElem?_eq_getElem hlt)
          refine .inr ⟨hgo, fun H' => ∃ st2 μ2 ys acc ads, Ext H1 μ1 H' μ2 ∧ RS K H' μ2 st2 ∧ lcD sr ds vs t mt me e (ds.drop (i + 1)) st2 = some (ys, st') ∧ ds' = ads ++ ys ∧ H' D = some (.lst acc) ∧ RVs K H' μ2 ads acc ∧ acc.length ≤ i + 1 ∧ D ∉ μ2,
            fun H' n => ⟨ds.length - (i + 1), by omega, rfl, hlt, n⟩, fun x H' yx => ?_⟩
          obtain ⟨x3, hs3, rx⟩ := hy x H' yx
          have hE : RE K H' μ2 (wipeE e vs) (wipe σ vs) := (he.ext (x1.trans (x2.trans x3))).wipe _
          refine ct_ok hv rx he1 hE (wipe_wipe σ _ _ fun _ h => h) fun σ' hE' hw => ⟨hw, ?_⟩
          have hD3 : H' D = some (.lst acc) := x3.oth D _ nD2 hD2
          split at hm2
          · rename_i st3 h3
            split at hm2
            · rename_i y st4 h4
              split at hm2
              · rename_i ys' st5 h5
                cases hm2
                refine ⟨e1, st2, μ2, true, st3, hE', hs3, h3, fun H4 μ4 x4 hs4 => iteT ?_⟩
                refine ⟨e1, st3, μ4, y, st4, hE'.ext x4, hs4, h4, fun H5 μ5 yv x5 hs5 ry => ?_⟩
                have nD4 : D ∉ μ4 := fun z => by
                  obtain ⟨u, eu, hu⟩ := x4.pre
                  rw [eu] at z
                  rcases List.mem_append.mp z with z | z
                  · exact nD2 z
                  · rw [hu D z] at hD3; cases hD3
                have hD4 : H4 D = some (.lst acc) := x4.oth D _ nD2 hD3
                have nD5 : D ∉ μ5 := fun z => by
                  obtain ⟨u, eu, hu⟩ := x5.pre
                  rw [eu] at z
                  rcases List.mem_append.mp z with z | z
                  · exact nD4 z
                  · rw [hu D z] at hD4; cases hD4
                have hD5 : H5 D = some (.lst acc) := x5.oth D _ nD4 hD4
                refine ⟨acc, hD5, Nat.lt_of_lt_of_le (Nat.lt_of_le_of_lt hl2 hlt) it.1, ?_⟩
                have ra5 : RVs K H5 μ5 (ads ++ [y]) (acc ++ [yv]) := (((ra.ext x3).ext x4).ext x5).append (.cons ry .nil)
                have x25 := x2.trans (x3.trans (x4.trans x5))
                refine ⟨st4, μ5, ys', acc ++ [yv], ads ++ [y], ?_, grow_rs hs5 hD5 nD5, h5, by rw [e2]; simp, upd_same, (grow_rv hD5).2 ra5, by rw [List.length_append]; simp; exact hl2, nD5⟩
                exact grow_ext x25 hD hD5
              · cases hm2
            · cases hm2
          · rename_i st3 h3
            refine ⟨e1, st2, μ2, false, st3, hE', hs3, h3, fun H4 μ4 x4 hs4 => iteF ?_⟩
            have nD4 : D ∉ μ4 := fun z => by
              obtain ⟨u, eu, hu⟩ := x4.pre
              rw [eu] at z
              rcases List.mem_append.mp z with z | z
              · exact nD2 z
              · rw [hu D z] at hD3; cases hD3
            exact ⟨st3, μ4, ys, acc, ads, x2.trans (x3.trans x4), hs4, hm2, e2, x4.oth D _ nD2 hD3, (ra.ext x3).ext x4, Nat.le_succ_of_le hl2, nD4⟩
          · cases hm2
        · cases hm2
      · cases hm2
    · have ei : i = ds.length := by omega
      subst ei
      rw [List.drop_length] at hm2
      unfold lcD at hm2
      split at hm2
      · rename_i hst
        cases hm2
        obtain ⟨_, i2⟩ := it.2 H2 μ2 _ ds.length x2.two hs2 hst
        refine .inl ⟨i2 (Nat.le_refl _), hq H2 μ2 D acc (x1.trans x2) hs2 n1 nD2 hD2 (Nat.le_trans hl2 it.1) ?_⟩
        rw [e2, List.append_nil]
        exact ra
      · cases hm2
  · cases hm
theorem df_lc {elt iter : Expr} {ifs : List Expr} {scope : Scope} {own : List (Str × Nat)} {mi : MI} {t : CT} {mt : ME Bool} {me : ME DV} (hc : X.calm = true) (hN : X.N.Nodup) (hi : DI X tg iter mi) (ok : BlkOk X.N X.env.scope scope own) (hv : ∀ i ∈ t.ix, i ∈ own.map (·.2))
    (hg : ∀ (s : Shared) (H : Hp) (C : Addr) (cl : List (Str × Addr)) (fp : List Addr), PG (X.blk s H scope (compEnvC scope cl C X.env) fp) tg (cG X.K t)) (ht : ∀ (s : Shared) (H : Hp) (C : Addr) (cl : List (Str × Addr)) (fp : List Addr), DPt (X.blk s H scope (compEnvC scope cl C X.env) fp) ifs mt)
    (he : ∀ (s : Shared) (H : Hp) (C : Addr) (cl : List (Str × Addr)) (fp : List Addr), DE (X.blk s H scope (compEnvC scope cl C X.env) fp) elt me) (hs : ∀ x, foldedSetIterable iter X.env x = pure x := by intro _; rfl) :
    DF X (.ListComp elt [⟨tg, iter, ifs, 0⟩] scope pos) (mLc mi (own.map (·.2)) t mt me) :=
  pe_imp (pe_lc (tt := tTD X.K mt) (te := tD X.K me) hc hN hi ok hg ht he hs) (lc_read hv)
theorem ds_setLc {elt iter : Expr} {ifs : List Expr} {scope : Scope} {own : List (Str × Nat)} {mi : MI} {t : CT} {mt : ME Bool} {me : ME DV} {i : Nat} {y : Str} {py : Pos} (hc : X.calm = true) (hN : X.N.Nodup) (hi : DI X tg iter mi) (ok : BlkOk X.N X.env.scope scope own) (hv : ∀ i ∈ t.ix, i ∈ own.map (·.2))
    (hg : ∀ (s : Shared) (H : Hp) (C : Addr) (cl : List (Str × Addr)) (fp : List Addr), PG (X.blk s H scope (compEnvC scope cl C X.env) fp) tg (cG X.K t)) (ht : ∀ (s : Shared) (H : Hp) (C : Addr) (cl : List (Str × Addr)) (fp : List Addr), DPt (X.blk s H scope (compEnvC scope cl C X.env) fp) ifs mt)
    (he : ∀ (s : Shared) (H : Hp) (C : Addr) (cl : List (Str × Addr)) (fp : List Addr), DE (X.blk s H scope (compEnvC scope cl C X.env) fp) elt me)
    (hsw : swapsWith (.ListComp elt [⟨tg, iter, ifs, 0⟩] scope p) (some (.Name y py)) pos.line X.env = pure true) (hy : X.N[i]? = some y := by rfl) (hyl : X.env.scope.names.lookup y = some .local := by rfl) (hs : ∀ x, foldedSetIterable iter X.env x = pure x := by intro _; rfl) :
    DS X (.Assign [.Name y py] (.ListComp elt [⟨tg, iter, ifs, 0⟩] scope p) pos) (sSet i (mNew (mLc mi (own.map (·.2)) t mt me))) :=
  ps_imp (ps_setLc (tt := tTD X.K mt) (te := tD X.K me) hc hN hy hyl hsw hi ok hg ht he hs) (set_read fun σ H Q h => lc_read hv σ H Q (new_read σ H Q h))
end
end DL

/-! DL8: comprehensions with two fors; methods; calls of defs; bodies. -/
namespace DL
open PySem PySem.Spec PyProof.Rows L2

open Classical in
noncomputable def lc2D (s : Option Nat) (all : List DV) (vs : List Nat) (t : CT) (mt : ME Bool) (mi1 : MI) (vs1 : List Nat) (t1 : CT) (mt1 : ME Bool) (me : ME DV) (e : Env) : List DV → Sto → Option (List DV × Sto)
  | [], st => if stays s all st then some ([], st) else none
  | d :: r, st => if stays s all st then (match ctD t d (wipeE e vs) with
    | some e1 => (match mt e1 st with
      | some (true, st1) => (match mi1 e1 st1 with
        | some ((s1, ds1), st2) => (match lcD s1 ds1 vs1 t1 mt1 me e1 ds1 st2 with
          | some (ys, st3) => (match lc2D s all vs t mt mi1 vs1 t1 mt1 me e r st3 with
            | some (zs, st4) => some (ys ++ zs, st4)
            | none => none)
          | none => none)
        | none => none)
      | some (false, st1) => lc2D s all vs t mt mi1 vs1 t1 mt1 me e r st1
      | none => none)
    | none => none) else none
noncomputable def mLc2 (mi : MI) (vs : List Nat) (t : CT) (mt : ME Bool) (mi1 : MI) (vs1 : List Nat) (t1 : CT) (mt1 : ME Bool) (me : ME DV) : ME (List DV) := fun e st => match mi e st with
  | some ((s, ds), st1) => match lc2D s ds vs t mt mi1 vs1 t1 mt1 me e ds st1 with
    | some (ys, st2) => if ys.length ≤ LIM then some (ys, st2) else none
    | none => none
  | none => none
theorem keep_D {H H' : Hp} {μ μ' : List Addr} {D : Addr} {acc : List V} (x : Ext H μ H' μ') (hD : H D = some (.lst acc)) (hn : D ∉ μ) : H' D = some (.lst acc) ∧ D ∉ μ' := by
  refine ⟨x.oth D _ hn hD, fun z => ?_⟩
  obtain ⟨u, eu, hu⟩ := x.pre
  rw [eu] at z
  rcases List.mem_append.mp z with z | z
  · exact hn z
  · rw [hu D z] at hD; cases hD
theorem Ext2.tr {Hs H H1 H2 : Hp} {μ μ1 μ2 : List Addr} (y : Ext2 Hs H μ H1 μ1) (x : Ext H1 μ1 H2 μ2) : Ext2 Hs H μ H2 μ2 := by
  obtain ⟨t, rfl, ht⟩ := y.pre
  obtain ⟨u, rfl, hu⟩ := x.pre
  refine ⟨⟨t ++ u, by simp, fun a h => ?_⟩, fun a xs h => x.tup _ _ (y.tup _ _ h), fun a o w h => x.frz _ _ _ (y.frz _ _ _ h), fun a o h0 h1 h2 => x.oth a o (fun z => ?_) (y.oth a o h0 h1 h2), fun a h => y.trk a (x.trk a h)⟩
  · rcases List.mem_append.mp h with h | h
    · exact ht a h
    · exact y.trk a (hu a h)
  · rcases List.mem_append.mp z with z | z
    · exact h1 z
    · rw [ht a z] at h2; cases h2
section
variable {X : Cx} {a b c e o tg tg1 : Expr} {es : List Expr} {ma mb mc : ME DV} {mq : ME (List DV)} {pos p apos : Pos} {s : Stmt} {ss : List Stmt} {m n : MS}
theorem lc2_read {K : PySem.W.Frag} {mi mi1 : MI} {vs vs1 : List Nat} {t t1 : CT} {mt mt1 : ME Bool} {me : ME DV} (hv : ∀ i ∈ t.ix, i ∈ vs) (hv1 : ∀ i ∈ t1.ix, i ∈ vs1) : ∀ σ H Q, tFD K (mLc2 mi vs t mt mi1 vs1 t1 mt1 me) σ H Q →
    tLc2 (tID K mi) (cG K t) (tTD K mt) (tID K mi1) (cG K t1) (tTD K mt1) (tD K me) vs vs1 σ H Q := by
  intro σ H Q ⟨e, st, μ, ds', st', he, hs, hm, hq⟩
  unfold mLc2 at hm
  split at hm
  case h_2 => cases hm
  rename_i sr ds st1 h1
  split at hm
  case h_2 => cases hm
  rename_i ys0 st0 hm0
  split at hm
  case isFalse => cases hm
  rename_i hlim
  cases hm
  have hm := hm0
  refine ⟨e, st, μ, sr, ds, st1, he, hs, h1, fun H1 μ1 J x1 hs1 it D hD => ?_⟩
  obtain ⟨n1, n2⟩ := fresh_new x1 hs1 hD
  have xD : Ext H1 μ1 (upd H1 D (.lst [])) μ1 := ext_new hD
  refine ⟨fun i k H2 => k = ds.length - i ∧ i ≤ ds.length ∧ ∃ st2 μ2 ys acc ads, Ext H1 μ1 H2 μ2 ∧ RS K H2 μ2 st2 ∧ lc2D sr ds vs t mt mi1 vs1 t1 mt1 me e (ds.drop i) st2 = some (ys, st') ∧ ds' = ads ++ ys ∧ H2 D = some (.lst acc) ∧ RVs K H2 μ2 ads acc ∧ D ∉ μ2,
    ⟨ds.length, by simp, Nat.zero_le _, st1, μ1, ds', [], [], xD, hs1.new hD, by simpa using hm, rfl, upd_same, .nil, n2⟩, ?_⟩
  rintro i k H2 ⟨rfl, hle, st2, μ2, ys, acc, ads, x2, hs2, hm2, e2, hD2, ra, nD2⟩
  by_cases hlt : i < ds.length
  · have ed : ds.drop i = ds[i] :: ds.drop (i + 1) := List.drop_eq_getElem_cons hlt
    rw [ed] at hm2
    unfold lc2D at hm2
    split at hm2
    case isFalse => cases hm2
    rename_i hst
    split at hm2
    case h_2 => cases hm2
    rename_i e1 he1
    obtain ⟨i1, _⟩ := it.2 H2 μ2 st2 i x2.two hs2 hst
    obtain ⟨hgo, hy⟩ := i1 ds[i] (List.getElem?_eq_getElem hlt)
    refine .inr ⟨hgo, fun H' => ∃ st2 μ2 ys acc ads, Ext H1 μ1 H' μ2 ∧ RS K H' μ2 st2 ∧ lc2D sr ds vs t mt mi1 vs1 t1 mt1 me e (ds.drop (i + 1)) st2 = some (ys, st') ∧ ds' = ads ++ ys ∧ H' D = some (.lst acc) ∧ RVs K H' μ2 ads acc ∧ D ∉ μ2,
      fun H' n => ⟨ds.length - (i + 1), by omega, rfl, hlt, n⟩, fun x H' yx => ?_⟩
    obtain ⟨x3, hs3, rx⟩ := hy x H' yx
    have hE : RE K H' μ2 (wipeE e vs) (wipe σ vs) := (he.ext (x1.trans (x2.trans x3))).wipe _
    refine ct_ok hv rx he1 hE (wipe_wipe σ _ _ fun _ h => h) fun σ' hE' hw => ⟨hw, ?_⟩
    have hD3 : H' D = some (.lst acc) := x3.oth D _ nD2 hD2
    split at hm2
    · rename_i st3 h3
      split at hm2
      case h_2 => cases hm2
      rename_i s4 ds4 st4 h4
      split at hm2
      case h_2 => cases hm2
      rename_i ys5 st5 h5
      split at hm2
      case h_2 => cases hm2
      rename_i zs6 st6 h6
      cases hm2
      refine ⟨e1, st2, μ2, true, st3, hE', hs3, h3, fun H4 μ4 x4 hs4 => iteT ?_⟩
      obtain ⟨hD4, nD4⟩ := keep_D x4 hD3 nD2
      have x24 := x2.trans (x3.trans x4)
      refine ⟨e1, st3, μ4, s4, ds4, st4, hE'.ext x4, hs4, h4, fun H5 μ5 J1 x5 hs5 it1 => ?_⟩
      obtain ⟨hD5, nD5⟩ := keep_D x5 hD4 nD4
      refine ⟨fun j k H6 => k = ds4.length - j ∧ j ≤ ds4.length ∧ ∃ st6 μ6 ys6 acc6 ads6, Ext H1 μ1 H6 μ6 ∧ Ext2 H4 H5 μ5 H6 μ6 ∧ RS K H6 μ6 st6 ∧ RE K H6 μ6 e1 σ' ∧ lcD s4 ds4 vs1 t1 mt1 me e1 (ds4.drop j) st6 = some (ys6, st5) ∧ ds' = ads6 ++ (ys6 ++ zs6) ∧ H6 D = some (.lst acc6) ∧ RVs K H6 μ6 ads6 acc6 ∧ D ∉ μ6,
        ⟨ds4.length, by simp, Nat.zero_le _, st4, μ5, ys5, acc, ads, x24.trans x5, Ext.refl.two, hs5, (hE'.ext x4).ext x5, by simpa using h5, e2, hD5, ((ra.ext x3).ext x4).ext x5, nD5⟩, ?_⟩
      rintro j k H6 ⟨rfl, hlej, st6', μ6, ys6, acc6, ads6, x6, x56, hs6, hE6, hm6, e6, hD6, ra6, nD6⟩
      by_cases hltj : j < ds4.length
      · have edj : ds4.drop j = ds4[j] :: ds4.drop (j + 1) := List.drop_eq_getElem_cons hltj
        rw [edj] at hm6
        unfold lcD at hm6
        split at hm6
        case isFalse => cases hm6
        rename_i hst6
        split at hm6
        case h_2 => cases hm6
        rename_i e7 he7
        obtain ⟨j1, _⟩ := it1.2 H6 μ6 st6' j x56 hs6 hst6
        obtain ⟨hgo1, hy1⟩ := j1 ds4[j] (List.getElem?_eq_getElem hltj)
        refine .inr ⟨hgo1, fun H' => ∃ st6 μ6 ys6 acc6 ads6, Ext H1 μ1 H' μ6 ∧ Ext2 H4 H5 μ5 H' μ6 ∧ RS K H' μ6 st6 ∧ RE K H' μ6 e1 σ' ∧ lcD s4 ds4 vs1 t1 mt1 me e1 (ds4.drop (j + 1)) st6 = some (ys6, st5) ∧ ds' = ads6 ++ (ys6 ++ zs6) ∧ H' D = some (.lst acc6) ∧ RVs K H' μ6 ads6 acc6 ∧ D ∉ μ6,
          fun H' n => ⟨ds4.length - (j + 1), by omega, rfl, hltj, n⟩, fun x7 H7 yx7 => ?_⟩
        obtain ⟨x8, hs8, rx8⟩ := hy1 x7 H7 yx7
        have hE8 : RE K H7 μ6 (wipeE e1 vs1) (wipe σ' vs1) := (hE6.ext x8).wipe _
        refine ct_ok hv1 rx8 he7 hE8 (wipe_wipe σ' _ _ fun _ h => h) fun σ9 hE9 hw9 => ⟨hw9, ?_⟩
        obtain ⟨hD7, _⟩ := keep_D x8 hD6 nD6
        split at hm6
        · rename_i st9 h9
          split at hm6
          case h_2 => cases hm6
          rename_i y10 st10 h10
          split at hm6
          case h_2 => cases hm6
          rename_i ys11 st11 h11
          cases hm6
          refine ⟨e7, st6', μ6, true, st9, hE9, hs8, h9, fun H10 μ10 x10 hs10 => iteT ?_⟩
          obtain ⟨hD10, nD10⟩ := keep_D x10 hD7 nD6
          refine ⟨e7, st9, μ10, y10, st10, hE9.ext x10, hs10, h10, fun H11 μ11 yv x11 hs11 ry => ?_⟩
          obtain ⟨hD11, nD11⟩ := keep_D x11 hD10 nD10
          have ra11 : RVs K H11 μ11 (ads6 ++ [y10]) (acc6 ++ [yv]) := (((ra6.ext x8).ext x10).ext x11).append (.cons ry .nil)
          have hl6 : acc6.length < sizeLine := by
            have h12 := ra6.length
            have h13 : ds'.length = ads6.length + (ys11.length + 1 + zs6.length) := by rw [e6]; simp <;> omega
            refine lim_lt ?_
            have : ds'.length ≤ LIM := hlim
            omega
          have x811 := x8.trans (x10.trans x11)
          refine ⟨acc6, hD11, hl6, st10, μ11, ys11, acc6 ++ [yv], ads6 ++ [y10], grow_ext (x6.trans x811) hD hD11, ?_, grow_rs hs11 hD11 nD11, grow_re (hE6.ext x811) hD11, h11, by rw [e6]; simp [Nat.add_assoc], upd_same, (grow_rv hD11).2 ra11, nD11⟩
          · have y := x56.tr x811
            refine ⟨y.pre, fun a xs h => ?_, fun a o u h => ?_, fun a o h0 ha h => ?_, fun a h => ?_⟩
            · rw [upd_ne (ne_of h hD5 (by intro z; cases z))]; exact y.tup _ _ h
            · rw [upd_ne (ne_of h hD5 (by intro z; cases z))]; exact y.frz _ _ _ h
            · rw [upd_ne (fun z : a = D => by rw [z, hD4] at h0; cases h0)]; exact y.oth _ _ h0 ha h
            · by_cases ea : a = D
              · subst ea; rw [upd_same] at h; cases h
              · rw [upd_ne ea] at h; exact y.trk _ h
        · rename_i st9 h9
          refine ⟨e7, st6', μ6, false, st9, hE9, hs8, h9, fun H10 μ10 x10 hs10 => iteF ?_⟩
          obtain ⟨hD10, nD10⟩ := keep_D x10 hD7 nD6
          have x810 := x8.trans x10
          exact ⟨st9, μ10, ys6, acc6, ads6, x6.trans x810, x56.tr x810, hs10, hE6.ext x810, hm6, e6, hD10, (ra6.ext x8).ext x10, nD10⟩
        · cases hm6
      · have ej : j = ds4.length := by omega
        subst ej
        rw [List.drop_length] at hm6
        unfold lcD at hm6
        split at hm6
        case isFalse => cases hm6
        rename_i hst6
        cases hm6
        obtain ⟨_, j2⟩ := it1.2 H6 μ6 _ ds4.length x56 hs6 hst6
        exact .inl ⟨j2 (Nat.le_refl _), _, μ6, zs6, acc6, ads6, x6, hs6, h6, by rw [e6]; simp, hD6, ra6, nD6⟩
    · rename_i st3 h3
      refine ⟨e1, st2, μ2, false, st3, hE', hs3, h3, fun H4 μ4 x4 hs4 => iteF ?_⟩
      obtain ⟨hD4, nD4⟩ := keep_D x4 hD3 nD2
      exact ⟨st3, μ4, ys, acc, ads, x2.trans (x3.trans x4), hs4, hm2, e2, hD4, (ra.ext x3).ext x4, nD4⟩
    · cases hm2
  · have ei : i = ds.length := by omega
    subst ei
    rw [List.drop_length] at hm2
    unfold lc2D at hm2
    split at hm2
    case isFalse => cases hm2
    rename_i hst
    cases hm2
    obtain ⟨_, i2⟩ := it.2 H2 μ2 _ ds.length x2.two hs2 hst
    have hz : acc.length ≤ sizeLine := by
      rw [← ra.length]
      have : ds'.length ≤ LIM := hlim
      rw [e2] at this
      simp at this
      exact lim_ok this
    refine .inl ⟨i2 (Nat.le_refl _), hq H2 μ2 D acc (x1.trans x2) hs2 n1 nD2 hD2 hz ?_⟩
    rw [e2, List.append_nil]
    exact ra
theorem df_lc2 {elt iter iter1 : Expr} {ifs ifs1 : List Expr} {scope : Scope} {own : List (Str × Nat)} {mi mi1 : MI} {t t1 : CT} {mt mt1 : ME Bool} {me : ME DV} (vs1 : List Nat) (hc : X.calm = true) (hN : X.N.Nodup) (hi : DI X tg iter mi) (ok : BlkOk X.N X.env.scope scope own) (hv : ∀ i ∈ t.ix, i ∈ own.map (·.2)) (hv1 : ∀ i ∈ t1.ix, i ∈ vs1) (hvv : ∀ i ∈ vs1, i ∈ own.map (·.2))
    (hg : ∀ (s : Shared) (H : Hp) (C : Addr) (cl : List (Str × Addr)) (fp : List Addr), PG (X.blk s H scope (compEnvC scope cl C X.env) fp) tg (cG X.K t)) (ht : ∀ (s : Shared) (H : Hp) (C : Addr) (cl : List (Str × Addr)) (fp : List Addr), DPt (X.blk s H scope (compEnvC scope cl C X.env) fp) ifs mt)
    (hi1 : ∀ (s : Shared) (H : Hp) (C : Addr) (cl : List (Str × Addr)) (fp : List Addr), DI (X.blk s H scope (compEnvC scope cl C X.env) fp) tg1 iter1 mi1)
    (hg1 : ∀ (s : Shared) (H : Hp) (C : Addr) (cl : List (Str × Addr)) (fp : List Addr), PG (X.blk s H scope (compEnvC scope cl C X.env) fp) tg1 (cG X.K t1)) (ht1 : ∀ (s : Shared) (H : Hp) (C : Addr) (cl : List (Str × Addr)) (fp : List Addr), DPt (X.blk s H scope (compEnvC scope cl C X.env) fp) ifs1 mt1)
    (he : ∀ (s : Shared) (H : Hp) (C : Addr) (cl : List (Str × Addr)) (fp : List Addr), DE (X.blk s H scope (compEnvC scope cl C X.env) fp) elt me) (hs : ∀ x, foldedSetIterable iter X.env x = pure x := by intro _; rfl) (hs1 : ∀ env x, foldedSetIterable iter1 env x = pure x := by intro _ _; rfl) :
    DF X (.ListComp elt [⟨tg, iter, ifs, 0⟩, ⟨tg1, iter1, ifs1, 0⟩] scope pos) (mLc2 mi (own.map (·.2)) t mt mi1 vs1 t1 mt1 me) :=
  pe_imp (pe_lc2 (tt := tTD X.K mt) (wi1 := tID X.K mi1) (tt1 := tTD X.K mt1) (te := tD X.K me) hc hN hi ok hvv hg ht hi1 hg1 ht1 he hs hs1) (lc2_read hv hv1)
theorem ds_setLc2 {elt iter iter1 : Expr} {ifs ifs1 : List Expr} {scope : Scope} {own : List (Str × Nat)} {mi mi1 : MI} {t t1 : CT} {mt mt1 : ME Bool} {me : ME DV} {i : Nat} {y : Str} {py : Pos} (vs1 : List Nat) (hc : X.calm = true) (hN : X.N.Nodup) (hi : DI X tg iter mi) (ok : BlkOk X.N X.env.scope scope own) (hv : ∀ i ∈ t.ix, i ∈ own.map (·.2)) (hv1 : ∀ i ∈ t1.ix, i ∈ vs1) (hvv : ∀ i ∈ vs1, i ∈ own.map (·.2))
    (hg : ∀ (s : Shared) (H : Hp) (C : Addr) (cl : List (Str × Addr)) (fp : List Addr), PG (X.blk s H scope (compEnvC scope cl C X.env) fp) tg (cG X.K t)) (ht : ∀ (s : Shared) (H : Hp) (C : Addr) (cl : List (Str × Addr)) (fp : List Addr), DPt (X.blk s H scope (compEnvC scope cl C X.env) fp) ifs mt)
    (hi1 : ∀ (s : Shared) (H : Hp) (C : Addr) (cl : List (Str × Addr)) (fp : List Addr), DI (X.blk s H scope (compEnvC scope cl C X.env) fp) tg1 iter1 mi1)
    (hg1 : ∀ (s : Shared) (H : Hp) (C : Addr) (cl : List (Str × Addr)) (fp : List Addr), PG (X.blk s H scope (compEnvC scope cl C X.env) fp) tg1 (cG X.K t1)) (ht1 : ∀ (s : Shared) (H : Hp) (C : Addr) (cl : List (Str × Addr)) (fp : List Addr), DPt (X.blk s H scope (compEnvC scope cl C X.env) fp) ifs1 mt1)
    (he : ∀ (s : Shared) (H : Hp) (C : Addr) (cl : List (Str × Addr)) (fp : List Addr), DE (X.blk s H scope (compEnvC scope cl C X.env) fp) elt me)
    (hsw : swapsWith (.ListComp elt [⟨tg, iter, ifs, 0⟩, ⟨tg1, iter1, ifs1, 0⟩] scope p) (some (.Name y py)) pos.line X.env = pure true) (hy : X.N[i]? = some y := by rfl) (hyl : X.env.scope.names.lookup y = some .local := by rfl) (hs : ∀ x, foldedSetIterable iter X.env x = pure x := by intro _; rfl) (hs1 : ∀ env x, foldedSetIterable iter1 env x = pure x := by intro _ _; rfl) :
    DS X (.Assign [.Name y py] (.ListComp elt [⟨tg, iter, ifs, 0⟩, ⟨tg1, iter1, ifs1, 0⟩] scope p) pos) (sSet i (mNew (mLc2 mi (own.map (·.2)) t mt mi1 vs1 t1 mt1 me))) :=
  ps_imp (ps_setLc2 (tt := tTD X.K mt) (wi1 := tID X.K mi1) (tt1 := tTD X.K mt1) (te := tD X.K me) hc hN hy hyl hsw hi ok hvv hg ht hi1 hg1 ht1 he hs hs1) (set_read fun σ H Q h => lc2_read hv hv1 σ H Q (new_read σ H Q h))

/-! ### methods of lists -/
def mApp (mo me : ME DV) : ME DV := ME.bind mo fun x => fun e st => match itemsOf st x with
  | some _ => (ME.bind me fun y => fun _ st1 => match x with
    | .ref l => match st1[l]? with
      | some (.lst ds) => if ds.length < LIM then some (.non, st1.set l (.lst (ds ++ [y]))) else none
      | _ => none
    | _ => none) e st
  | none => none
theorem bm_ty {K : PySem.W.Frag} {H : Hp} {a : Addr} {vs : List V} (h : H a = some (.lst vs)) : tyV K "list" (.ref a) H := Or.inl ⟨rfl, _, Or.inl (Or.inl h)⟩
theorem de_app (ho : DE X o ma) (he : DE X e mb) (hbase : attributeBase o "append" X.env (eval o X.env) = eval o X.env := by rfl)
    (hfew : ((backTo pos (starEach (e :: []) X.env)).all (fun x => !x.1) && (backToKw pos (keywordEach [] X.env)).all (fun x => x.1.isSome) && decide ((e :: []).length + ([] : List Keyword).length + (if ([] : List Keyword).isEmpty then 0 else 1) < 30)) = true := by rfl)
    (hline : (apos.endLine == pos.line) = true := by rfl) (hs : starEach (e :: []) X.env = (false, eval e X.env) :: starEach [] X.env := by rfl) (hplain : (backTo pos (starEach [] X.env)).any (·.1) = false := by rfl) : DE X (.Call (.Attribute o "append" apos) [e] [] pos) (mApp ma mb) := by
  refine pe_imp (pe_bm PySem.F.plainAttrs_list PySem.F.slot_list_append PySem.F.type_list_append mt_append ho (pa_cons he pa_nil hs) hbase hfew hline hs hplain) fun σ H Q ⟨e, st, μ, d, st', he, hs, hm, hq⟩ => ?_
  obtain ⟨x, st1, h1, hm⟩ := bind_some hm
  split at hm
  case h_2 => cases hm
  rename_i ds0 e0
  obtain ⟨y, st2, h2, hm⟩ := bind_some hm
  split at hm
  case h_2 => cases hm
  rename_i l _
  split at hm
  case h_2 => cases hm
  rename_i ds e1
  split at hm
  case isFalse => cases hm
  rename_i hz
  cases hm
  refine ⟨e, st, μ, _, st1, he, hs, h1, fun H1 μ1 v x1 hs1 rv => ?_⟩
  cases rv with
  | @ref _ ad hl =>
    obtain ⟨vs0, h0, _, _⟩ := lst_read hs1 e0 hl
    refine ⟨bm_ty h0, e, st1, μ1, y, st2, he.ext x1, hs1, h2, fun H2 μ2 w x2 hs2 rw' => ?_⟩
    have c := hs2.cell l ad _ (x2.at hl) e1
    cases c with
    | @lst _ vs _ h z rs =>
      have n1 : ∀ xs, HO.lst vs ≠ .tup xs := fun xs q => by cases q
      have n2 : ∀ ob w, HO.lst vs ≠ .frz ob w := fun ob w q => by cases q
      have x3 : Ext H2 μ2 (upd H2 ad (.lst (vs ++ [w]))) μ2 := ext_write h (List.mem_of_getElem? (x2.at hl)) n1 n2
      have hz' : vs.length < sizeLine := by rw [← rs.length]; exact lim_lt hz
      refine ⟨ad, vs, w, rfl, rfl, h, hz', hq _ μ2 .non (x1.trans (x2.trans x3)) (hs2.write (x2.at hl) h n1 n2 (.lst upd_same (by rw [List.length_append]; exact hz') ((rs.ext x3).append (.cons (rw'.ext x3) .nil)))) .non⟩
/-- xs.count(k), ints; k an int or None -/
def cntD (y : DV) (ns : List Int) : Option Int := match y with
  | .int k => some (ns.count k : Nat)
  | .non => some 0
  | _ => none
def mCnt (mo me : ME DV) : ME DV := ME.bind mo fun x => fun e st => match itemsOf st x with
  | some _ => (ME.bind me fun y => fun _ st1 => match x with
    | .ref l => match st1[l]? with
      | some (.lst ds) => match toIs ds with
        | some ns => match cntD y ns with
          | some i => some (.int i, st1)
          | none => none
        | none => none
      | _ => none
    | _ => none) e st
  | none => none
def rCntN (K : PySem.W.Frag) : V → List V → Hp → VK → Prop := fun x xs H Q => ∃ (p : Addr) (ns : List Int), x = .ref p ∧ SqL K H p (ns.map V.int) ∧ ((∃ k, xs = [.int k] ∧ Q (.int (ns.count k : Nat)) H) ∨ (xs = [.non] ∧ Q (.int 0) H))
theorem mt_lcountN : MtR X "list.count" (rCntN X.K) := by
  intro pins s σ H x xs v us Q I rx rxs h
  obtain ⟨p, ns, rfl, hs, h⟩ := h
  rcases h with ⟨k, rfl, q⟩ | ⟨rfl, q⟩
  · exact mt_lcount pins s σ H _ _ v us Q I rx rxs ⟨p, ns, k, rfl, rfl, hs, q⟩
  · cases rx
    obtain ⟨u, rfl, ru⟩ := rxs.one
    obtain rfl : u = Value.none := ru
    obtain ⟨its, rv, ⟨⟨cls, dd, data, sl⟩, n, ho, hc, hdn, hd⟩, hlen⟩ := I.list hs
    simp only at hc hd
    subst hc hd
    have hi := ints_of_vals rv
    have he : ∀ {us : List Value} {ns : List Int}, IntsAre us ns → ∀ y ∈ us, ∃ j t, y = Value.int j t := by
      intro us ns hi
      induction hi with
      | nil => intro y hy; cases hy
      | cons n t _ ih =>
        intro y hy
        rcases List.mem_cons.mp hy with e | e
        · exact ⟨n, t, e⟩
        · exact ih y e
    refine call_meets PySem.F.slot_list_count ⟨_, ho, rfl⟩ PySem.F.entry_list_count (PySem.F.args_list_count_2 _ _)
      (SeqAt.list_countAt p its.toArray n dd sl .none (fun _ => false)) ⟨ho, fun y hy => ?_, ?_⟩
    · obtain ⟨j, t, rfl⟩ := he hi y (by simpa using hy)
      exact SeqAt.EqAt.int_none j t
    have ec : its.toArray.toList.countP (fun _ => false) = 0 := by simp
    refine ⟨.int 0, H, I.tok _, ⟨s.toks, ?_⟩, q⟩
    show Value.int ((its.toArray.toList.countP (fun _ => false) : Nat) : Int) s.toks = Value.int 0 s.toks
    rw [ec]
    rfl
theorem de_cnt (ho : DE X o ma) (he : DE X e mb) (hbase : attributeBase o "count" X.env (eval o X.env) = eval o X.env := by rfl)
    (hfew : ((backTo pos (starEach (e :: []) X.env)).all (fun x => !x.1) && (backToKw pos (keywordEach [] X.env)).all (fun x => x.1.isSome) && decide ((e :: []).length + ([] : List Keyword).length + (if ([] : List Keyword).isEmpty then 0 else 1) < 30)) = true := by rfl)
    (hline : (apos.endLine == pos.line) = true := by rfl) (hs : starEach (e :: []) X.env = (false, eval e X.env) :: starEach [] X.env := by rfl) (hplain : (backTo pos (starEach [] X.env)).any (·.1) = false := by rfl) : DE X (.Call (.Attribute o "count" apos) [e] [] pos) (mCnt ma mb) := by
  refine pe_imp (pe_bm PySem.F.plainAttrs_list PySem.F.slot_list_count PySem.F.type_list_count mt_lcountN ho (pa_cons he pa_nil hs) hbase hfew hline hs hplain) fun σ H Q ⟨e, st, μ, d, st', he, hs, hm, hq⟩ => ?_
  obtain ⟨x, st1, h1, hm⟩ := bind_some hm
  split at hm
  case h_2 => cases hm
  rename_i ds0 e0
  obtain ⟨y, st2, h2, hm⟩ := bind_some hm
  split at hm
  case h_2 => cases hm
  rename_i l _
  split at hm
  case h_2 => cases hm
  rename_i ds e1
  split at hm
  case h_2 => cases hm
  rename_i ns en
  split at hm
  case h_2 => cases hm
  rename_i i ei
  cases hm
  refine ⟨e, st, μ, _, st1, he, hs, h1, fun H1 μ1 v x1 hs1 rv => ?_⟩
  cases rv with
  | @ref _ ad hl =>
    obtain ⟨vs0, h0, _, _⟩ := lst_read hs1 e0 hl
    refine ⟨bm_ty h0, e, st1, μ1, _, _, he.ext x1, hs1, h2, fun H2 μ2 w x2 hs2 rw' => ?_⟩
    have c := hs2.cell l ad _ (x2.at hl) e1
    cases c with
    | @lst _ vs _ h z rs =>
      have hsq : SqL X.K H2 ad (ns.map V.int) := by
        rw [← is_of rs en]
        exact SqL.of h
      refine ⟨ad, ns, rfl, hsq, ?_⟩
      unfold cntD at ei
      split at ei
      · cases ei
        cases rw'
        exact .inl ⟨_, rfl, hq H2 μ2 _ (x1.trans x2) hs2 (.int _)⟩
      · cases ei
        cases rw'
        exact .inr ⟨rfl, hq H2 μ2 _ (x1.trans x2) hs2 (.int _)⟩
      · cases ei
/-- xs.pop(i) -/
def mPopAt (mo me : ME DV) : ME DV := ME.bind mo fun x => fun e st => match itemsOf st x with
  | some _ => (ME.bind me fun y => fun _ st1 => match x, y with
    | .ref l, .int i => match st1[l]? with
      | some (.lst ds) => if 0 ≤ i ∧ i < ds.length ∧ ds.length ≤ LIM then (match ds[i.toNat]? with
        | some d => some (d, st1.set l (.lst (ds.eraseIdx i.toNat)))
        | none => none) else none
      | _ => none
    | _, _ => none) e st
  | none => none
theorem RVs.eraseIdx {K : PySem.W.Frag} {H : Hp} {μ : List Addr} : ∀ {ds : List DV} {vs : List V} (i : Nat), RVs K H μ ds vs → RVs K H μ (ds.eraseIdx i) (vs.eraseIdx i)
  | _, _, _, .nil => .nil
  | _, _, 0, .cons _ t => t
  | _, _, i + 1, .cons r t => .cons r (RVs.eraseIdx i t)
theorem de_popAt (ho : DE X o ma) (he : DE X e mb) (hbase : attributeBase o "pop" X.env (eval o X.env) = eval o X.env := by rfl)
    (hfew : ((backTo pos (starEach (e :: []) X.env)).all (fun x => !x.1) && (backToKw pos (keywordEach [] X.env)).all (fun x => x.1.isSome) && decide ((e :: []).length + ([] : List Keyword).length + (if ([] : List Keyword).isEmpty then 0 else 1) < 30)) = true := by rfl)
    (hline : (apos.endLine == pos.line) = true := by rfl) (hs : starEach (e :: []) X.env = (false, eval e X.env) :: starEach [] X.env := by rfl) (hplain : (backTo pos (starEach [] X.env)).any (·.1) = false := by rfl) : DE X (.Call (.Attribute o "pop" apos) [e] [] pos) (mPopAt ma mb) := by
  refine pe_imp (pe_bm PySem.F.plainAttrs_list PySem.F.slot_list_pop PySem.F.type_list_pop mt_popAt ho (pa_cons he pa_nil hs) hbase hfew hline hs hplain) fun σ H Q ⟨e, st, μ, d, st', he, hs, hm, hq⟩ => ?_
  obtain ⟨x, st1, h1, hm⟩ := bind_some hm
  split at hm
  case h_2 => cases hm
  rename_i ds0 e0
  obtain ⟨y, st2, h2, hm⟩ := bind_some hm
  split at hm
  case h_2 => cases hm
  rename_i l i _
  split at hm
  case h_2 => cases hm
  rename_i ds e1
  split at hm
  case isFalse => cases hm
  rename_i hi
  split at hm
  case h_2 => cases hm
  rename_i d0 ed
  cases hm
  refine ⟨e, st, μ, _, st1, he, hs, h1, fun H1 μ1 v x1 hs1 rv => ?_⟩
  cases rv with
  | @ref _ ad hl =>
    obtain ⟨vs0, h0, _, _⟩ := lst_read hs1 e0 hl
    refine ⟨bm_ty h0, e, st1, μ1, _, _, he.ext x1, hs1, h2, fun H2 μ2 w x2 hs2 rw' => ?_⟩
    cases rw'
    have c := hs2.cell l ad _ (x2.at hl) e1
    cases c with
    | @lst _ vs _ h z rs =>
      have n1 : ∀ xs, HO.lst vs ≠ .tup xs := fun xs q => by cases q
      have n2 : ∀ ob w, HO.lst vs ≠ .frz ob w := fun ob w q => by cases q
      have x3 : Ext H2 μ2 (upd H2 ad (.lst (vs.eraseIdx i.toNat))) μ2 := ext_write h (List.mem_of_getElem? (x2.at hl)) n1 n2
      obtain ⟨v0, g1, g2⟩ := rs.get ed
      obtain ⟨i0, i1, i2⟩ := hi
      have hlen := rs.length
      have ix : ixN vs.length i = some i.toNat := by
        unfold ixN
        rw [if_pos i0, if_pos (by rw [← hlen]; exact i1)]
      refine ⟨ad, vs, i, i.toNat, v0, rfl, rfl, h, by omega, by simp only [LIM] at i2; omega, (ixN_seq ix).1, g1, hq _ μ2 v0 (x1.trans (x2.trans x3)) (hs2.write (x2.at hl) h n1 n2 (.lst upd_same (Nat.le_trans (len_erase vs _) z) ((rs.ext x3).eraseIdx _))) (g2.ext x3)⟩

/-! ### defs -/
abbrev FM := List DV → Sto → Option (DV × Sto)
/-- a def's promise: it does what F does -/
def spM (K : PySem.W.Frag) (n : Nat) (F : FM) : Sp := fun vs H Q _ => vs.length = n ∧ ∃ st μ ds d st', RS K H μ st ∧ RVs K H μ ds vs ∧ F ds st = some (d, st') ∧
  ∀ H' μ' v, Ext H μ H' μ' → RS K H' μ' st' → RV K H' μ' d v → Q v H'
def mCall (F : FM) (ms : List (ME DV)) : ME DV := ME.bind (mArgs ms) fun ds => fun _ st => F ds st
theorem de_call {k j : Nat} {f : Addr} {fd : FuncData} {ps : List Str} {x : Str} {F : FM} {ms : List (ME DV)} (G : FnOk X.prog X.w X.K X.mg X.base CX0 k f fd ps (spM X.K ps.length F)) (hr : Room j X.A) (hkj : k ≤ j) (hm : X.mg x = some (.ref f)) (hk : PySem.W.keepIn X.K (.ref f) = true) (hb : Binds X.K fd ps [])
    (ha : DA X (e :: es) (mArgs ms)) (hl : ms.length = ps.length := by rfl) (hg : Gl X x := by rfl) (hdb : (x == ("__debug__" : Str)) = false := by decide) (he : starEach (e :: es) X.env = (false, eval e X.env) :: starEach es X.env := by rfl) (hpl : (backTo pos (starEach es X.env)).any (·.1) = false := by rfl) : DE X (.Call (.Name x p) (e :: es) [] pos) (mCall F ms) := by
  refine pe_imp (pe_call G (hr.mono hkj) hg hm hk hb .nil (E := E0) pass0 ha hdb he hpl) fun σ H Q ⟨e, st, μ, d, st', he, hs, hm, hq⟩ => ?_
  obtain ⟨ds, st1, h1, hm⟩ := bind_some hm
  refine ⟨e, st, μ, ds, st1, he, hs, h1, fun H1 μ1 vs x1 hs1 rs => ?_⟩
  show spM X.K ps.length F (vs ++ []) H1 Q E0
  rw [List.append_nil]
  refine ⟨by rw [← rs.length, args_len _ _ _ _ _ h1, hl], st1, μ1, ds, d, st', hs1, rs, hm, fun H2 μ2 v x2 hs2 rv => hq H2 μ2 v (x1.trans x2) hs2 rv⟩
/-- a body's answer -/
def bodyM (n : Nat) (m : MS) : FM := fun ds st => match m (ds.map some ++ List.replicate (n - ds.length) none) st with
  | some (.rt d, _, st') => some (d, st')
  | some (.nx, _, st') => some (.non, st')
  | _ => none
theorem start_rel {K : PySem.W.Frag} {H : Hp} {μ : List Addr} {N : List Str} : ∀ {ds : List DV} {vs : List V}, RVs K H μ ds vs → RE K H μ (ds.map some ++ List.replicate (N.length - ds.length) none) (L2.start N vs) := fun {ds vs} r => by
  have hl := r.length
  refine ⟨by simp [L2.start, hl], fun i d h => ?_⟩
  by_cases hi : i < ds.length
  · rw [List.getElem?_append_left (by simpa using hi), List.getElem?_map] at h
    cases q : ds[i]? with
    | none => rw [q] at h; cases h
    | some d' =>
      rw [q] at h
      cases h
      obtain ⟨v, h1, h2⟩ := r.get q
      refine ⟨v, ?_, h2⟩
      unfold L2.start
      rw [List.getElem?_append_left (by simpa [← hl] using hi), List.getElem?_map, h1]
      rfl
  · rw [List.getElem?_append_right (by simpa using hi)] at h
    rw [List.getElem?_replicate] at h
    split at h
    · cases h
    · cases h
theorem fn_d {P : Program} {w : World} {K : PySem.W.Frag} {mg : Str → Option Value} {base : Heap} {x qual : Str} {st : Stmt} {f : Addr} {fd : FuncData} {N ps : List Str} {k : Nat} {m : MS} (F : Fun K x qual st f fd) (S : FnScope N ps (defScope st))
    (hb : ∀ (cdv : Value) (A : Around) (outer : List PySem.Env) (s : Shared) (H : Hp) (E : XK), Room k (A.deeper (envOfC qual (defScope st) s.heap.objs.size f cdv)) → DSs (cxOf CX0 P w K mg base N qual (defScope st) f cdv A outer s H E).nox (defBody st) m) :
    FnOk P w K mg base CX0 (k + 1) f fd ps (spM K ps.length (bodyM N.length m)) := by
  refine F.ok S (fun vs H Q E h => h.1) fun cdv A outer s H vs Q E hr ⟨hl, st, μ, ds, d, st', hs, rs, hm, hq⟩ => ⟨_, hb cdv A outer s H E hr, ?_⟩
  unfold bodyM at hm
  split at hm
  · rename_i d' e1 st1 h1
    cases hm
    exact ⟨_, st, μ, _, start_rel rs, hs, h1, fun v H1 μ1 x1 hs1 rv => hq H1 μ1 v x1 hs1 rv⟩
  · rename_i e1 st1 h1
    cases hm
    exact ⟨_, st, μ, _, start_rel rs, hs, h1, fun σ1 H1 μ1 x1 he1 hs1 => hq H1 μ1 .non x1 hs1 .non⟩
  · cases hm
/-- a def that is not called: the ground of a recursion -/
theorem fn_zero {P : Program} {w : World} {K : PySem.W.Frag} {mg : Str → Option Value} {base : Heap} {f : Addr} {fd : FuncData} {ps : List Str} (k : Nat) : FnOk P w K mg base CX0 k f fd ps (spM K ps.length fun _ _ => none) :=
  ⟨fun vs H Q E h => h.1, fun A outer s H args us vs Q E hr he hb hv ⟨hl, st, μ, ds, d, st', hs, rs, hm, hq⟩ => by cases hm⟩
end
end DL

/-! DL9: displays of dicts, tables of defs, sorted, sets of ints. -/
namespace DL
open PySem PySem.Spec PyProof.Rows L2

section
variable {K : PySem.W.Frag} {H : Hp} {μ : List Addr} {D : Addr} {u0 u1 : HO}
/-- a tracked thing that is no cell is changed -/
theorem alt_sqt (hD : H D = some u0) (n1 : ∀ xs, u0 ≠ .tup xs) (n2 : ∀ o w, u0 ≠ .frz o w) {a : Addr} {xs : List V} (h : SqT K H a xs) : SqT K (upd H D u1) a xs := by
  rcases h with (h | ⟨o, h⟩) | h
  · exact .inl (.inl (by rw [upd_ne (ne_of h hD (n1 xs).symm)]; exact h))
  · exact .inl (.inr ⟨o, by rw [upd_ne (ne_of h hD (n2 _ _).symm)]; exact h⟩)
  · exact .inr h
theorem alt_sqr (hD : H D = some u0) (n1 : ∀ xs, u0 ≠ .tup xs) (n2 : ∀ o w, u0 ≠ .frz o w) {a : Addr} {xs : List V} (h : SqR K H a xs) : SqR K (upd H D u1) a xs := by
  rcases h with ⟨o, h⟩ | h
  · exact .inl ⟨o, by rw [upd_ne (ne_of h hD (n2 _ _).symm)]; exact h⟩
  · exact .inr h
theorem alt_rv (hD : H D = some u0) (n1 : ∀ xs, u0 ≠ .tup xs) (n2 : ∀ o w, u0 ≠ .frz o w) {d : DV} {v : V} (r : RV K H μ d v) : RV K (upd H D u1) μ d v :=
  RV.rec (motive_1 := fun d v _ => RV K (upd H D u1) μ d v) (motive_2 := fun d v _ => RVs K (upd H D u1) μ d v) .non .bl .int .str (fun s z _ r => .tup (alt_sqt hD n1 n2 s) z r) (fun h => .ref h) (fun s z _ r => .scr (alt_sqr hD n1 n2 s) z r) .nil (fun _ _ a b => .cons a b) r
theorem alt_rvs (hD : H D = some u0) (n1 : ∀ xs, u0 ≠ .tup xs) (n2 : ∀ o w, u0 ≠ .frz o w) : ∀ {d : List DV} {v : List V}, RVs K H μ d v → RVs K (upd H D u1) μ d v
  | _, _, .nil => .nil
  | _, _, .cons r s => .cons (alt_rv hD n1 n2 r) (alt_rvs hD n1 n2 s)
theorem alt_rk (hD : H D = some u0) (n1 : ∀ xs, u0 ≠ .tup xs) (n2 : ∀ o w, u0 ≠ .frz o w) : ∀ {d : List (Key × DV)} {v : List (Key × V)}, RKs K H μ d v → RKs K (upd H D u1) μ d v
  | _, _, .nil => .nil
  | _, _, .cons r s => .cons (alt_rv hD n1 n2 r) (alt_rk hD n1 n2 s)
theorem alt_rs {st : Sto} (hs : RS K H μ st) (hD : H D = some u0) (hn : D ∉ μ) (n1 : ∀ xs, u0 ≠ .tup xs) (n2 : ∀ o w, u0 ≠ .frz o w) : RS K (upd H D u1) μ st := ⟨hs.len, hs.nd, fun l a o h1 h2 => by
  have c := hs.cell l a o h1 h2
  have ne : a ≠ D := fun z => hn (by rw [← z]; exact List.mem_of_getElem? h1)
  cases c with
  | lst h z r => exact .lst (by rw [upd_ne ne]; exact h) z (alt_rvs hD n1 n2 r)
  | dct h z r => exact .dct (by rw [upd_ne ne]; exact h) z (alt_rk hD n1 n2 r)
  | dcn h r q => exact .dcn (by rw [upd_ne ne]; exact h) (alt_rk hD n1 n2 r) (alt_rv hD n1 n2 q)⟩
end
section
variable {X : Cx} {a b c e o tg tg1 : Expr} {es : List Expr} {ma mb mc : ME DV} {mq : ME (List DV)} {pos p apos : Pos}
/-! ### {k: v, ..}, the keys texts -/
def mPairs : List (ME DV × ME DV) → ME (List (Key × DV))
  | [] => ME.pure []
  | (mk, mv) :: r => ME.bind mk fun x => ME.bind mv fun y => ME.bind (mPairs r) fun ps => fun _ st => match keyD x with
    | some k => some ((k, y) :: ps, st)
    | none => none
def trsOf (K : PySem.W.Frag) (l : List (ME DV × ME DV)) : List (TE × TE) := l.map fun x => (tD K x.1, tD K x.2)
theorem pairs_read {K : PySem.W.Frag} : ∀ (l : List (ME DV × ME DV)) (σ : L2.St) (H : Hp) (Q : List (V × V) → Hp → Prop) (e : Env) (st : Sto) (μ : List Addr) (kvs : List (Key × DV)) (st' : Sto), RE K H μ e σ → RS K H μ st → mPairs l e st = some (kvs, st') →
    (∀ H' μ' ws, Ext H μ H' μ' → RS K H' μ' st' → RKs K H' μ' kvs ws → Q (ws.map fun kv => (kV kv.1, kv.2)) H') → tPairs (trsOf K l) σ H Q
  | [], σ, H, Q, e, st, μ, kvs, st', he, hs, hm, hq => by
    cases hm
    exact hq H μ [] Ext.refl hs .nil
  | (mk, mv) :: r, σ, H, Q, e, st, μ, kvs, st', he, hs, hm, hq => by
    obtain ⟨x, st1, h1, hm⟩ := bind_some hm
    obtain ⟨y, st2, h2, hm⟩ := bind_some hm
    obtain ⟨ps, st3, h3, hm⟩ := bind_some hm
    split at hm
    case h_2 => cases hm
    rename_i k ek
    cases hm
    refine ⟨e, st, μ, x, st1, he, hs, h1, fun H1 μ1 v x1 hs1 rv => ?_⟩
    refine ⟨e, st1, μ1, y, st2, he.ext x1, hs1, h2, fun H2 μ2 w x2 hs2 rw' => ?_⟩
    refine pairs_read r σ H2 _ e st2 μ2 ps _ (he.ext (x1.trans x2)) hs2 h3 fun H3 μ3 ws x3 hs3 rk => ?_
    have := hq H3 μ3 ((k, w) :: ws) (x1.trans (x2.trans x3)) hs3 (.cons (rw'.ext x3) rk)
    rw [List.map_cons] at this
    rw [key_of rv ek]
    exact this
def mergeD (kvs more : List (Key × DV)) : List (Key × DV) := more.foldl (fun acc kv => putD acc kv.1 kv.2) kvs
theorem merge_rel {K : PySem.W.Frag} {H : Hp} {μ : List Addr} : ∀ {ds : List (Key × DV)} {vs : List (Key × V)} {acc : List (Key × DV)} {bcc : List (Key × V)}, RKs K H μ ds vs → RKs K H μ acc bcc → RKs K H μ (mergeD acc ds) (mergeK bcc vs)
  | _, _, _, _, .nil, r => r
  | _, _, acc, bcc, @RKs.cons _ _ _ k d v ds vs r rs, q => merge_rel (acc := putD acc k d) (bcc := putK bcc k v) rs (put_rel r q)
def mDisp (l : List (ME DV × ME DV)) : ME DV := ME.bind (mPairs l) fun kvs => fun _ st => if kvs.length ≤ 15 then some (.ref st.length, st ++ [.dct (mergeD [] kvs)]) else none
def DPs (X : Cx) (pos : Pos) (ks : List (Option Expr)) (vs : List Expr) (l : List (ME DV × ME DV)) : Prop := PPs X pos ks vs (trsOf X.K l)
theorem dps_nil : DPs X pos [] [] [] := pps_nil
theorem dps_cons {ks : List (Option Expr)} {vs : List Expr} {l : List (ME DV × ME DV)} (hk : DE X a ma) (hv : DE X b mb) (hr : DPs X pos ks vs l) : DPs X pos (some a :: ks) (b :: vs) ((ma, mb) :: l) := pps_cons hk hv hr
theorem mergeK_len : ∀ (more kvs : List (Key × V)), (mergeK kvs more).length ≤ kvs.length + more.length := fun more => by
  induction more with
  | nil => intro kvs; exact Nat.le_refl _
  | cons x r ih =>
    intro kvs
    have h1 := ih (putK kvs x.1 x.2)
    have h2 := putK_len (vs := kvs) (k := x.1) (v := x.2)
    have h3 : (mergeK kvs (x :: r)).length = (mergeK (putK kvs x.1 x.2) r).length := rfl
    simp only [List.length_cons]
    omega
theorem de_disp {ks : List (Option Expr)} {vs : List Expr} {l : List (ME DV × ME DV)} (h : DPs X pos ks vs l) (hall : ks.all (·.isSome) = true := by rfl) (hl : ks.length = vs.length := by rfl) (h0 : ks ≠ [] := by simp) (h15 : ks.length ≤ 15 := by decide) : DE X (.Dict ks vs pos) (mDisp l) := by
  refine pe_imp (pe_disp h hall hl h0 h15) fun σ H Q ⟨e, st, μ, d, st', he, hs, hm, hq⟩ q hq' => ?_
  obtain ⟨kvs, st1, h1, hm⟩ := bind_some hm
  split at hm
  case isFalse => cases hm
  rename_i hz
  cases hm
  have nq : q ∉ μ := fun z => hs.trk z hq'
  refine pairs_read l σ _ _ e st μ kvs st1 (he.ext (ext_new hq')) (hs.new hq') h1 fun H1 μ1 ws x1 hs1 rk => ?_
  have hq1 : H1 q = some (.dK []) := x1.oth q _ nq upd_same
  have nq1 : q ∉ μ1 := fun z => by
    obtain ⟨u, eu, hu⟩ := x1.pre
    rw [eu] at z
    rcases List.mem_append.mp z with z | z
    · exact nq z
    · have := hu q z; rw [upd_same] at this; cases this
  have hlen := rk.length
  refine ⟨hq1, ws, rfl, by rw [← hlen]; exact hz, ?_⟩
  have x01 := (ext_new (μ := μ) (o := .dK []) hq').trans x1
  have n1 : ∀ xs, HO.dK [] ≠ .tup xs := fun xs z => by cases z
  have n2 : ∀ ob w, HO.dK [] ≠ .frz ob w := fun ob w z => by cases z
  have rk' := alt_rk (u1 := .dK (mergeK [] ws)) hq1 n1 n2 rk
  have hs' := alt_rs (u1 := .dK (mergeK [] ws)) hs1 hq1 nq1 n1 n2
  have hz' : (mergeK [] ws).length ≤ sizeLine := Nat.le_trans (mergeK_len ws []) (by rw [← hlen]; exact lim_ok (Nat.le_trans (by simpa using hz) (by decide)))
  have nH : H q = none := hq'
  obtain ⟨t, et, ht⟩ := x01.pre
  refine hq _ (μ1 ++ [q]) (.ref q) ⟨⟨t ++ [q], by rw [et, List.append_assoc], fun a ha => ?_⟩, fun a xs h => ?_, fun a o u h => ?_, fun a o ha h => ?_, fun a h => ?_⟩ (hs'.adopt nq1 (.dct upd_same hz' (merge_rel rk' .nil))) (.ref (at_end hs1.len))
  · rcases List.mem_append.mp ha with ha | ha
    · exact ht a ha
    · rw [List.mem_singleton.mp ha]; exact nH
  · rw [upd_ne (ne_of_none h nH)]; exact x01.tup _ _ h
  · rw [upd_ne (ne_of_none h nH)]; exact x01.frz _ _ _ h
  · rw [upd_ne (ne_of_none h nH)]; exact x01.oth _ _ ha h
  · by_cases ea : a = q
    · subst ea; exact nH
    · rw [upd_ne ea] at h; exact x01.trk _ h
/-! ### T[k](..), T a written dict of defs -/
def lookF (tbl : List (Str × FM)) (z : Str) : Option FM := match tbl with
  | [] => none
  | (y, d) :: r => if y = z then some d else lookF r z
def mKcall (tbl : List (Str × FM)) (mk : ME DV) (ms : List (ME DV)) : ME DV := ME.bind mk fun x => fun e st => match x with
  | .str z => match lookF tbl z with
    | some F => mCall F ms e st
    | none => none
  | _ => none
def KFun (P : Program) (w : World) (K : PySem.W.Frag) (mg : Str → Option Value) (base : Heap) (p : Addr) (k n : Nat) (tbl : List (Str × FM)) : Prop := ∀ z F, lookF tbl z = some F → ∃ (f : Addr) (fd : FuncData) (ps : List Str), KDct K w p z (.ref f) ∧ ps.length = n ∧ FnOk P w K mg base CX0 k f fd ps (spM K ps.length F) ∧ PySem.W.keepIn K (.ref f) = true ∧ Binds K fd ps []
theorem kfun_nil {P : Program} {w : World} {K : PySem.W.Frag} {mg : Str → Option Value} {base : Heap} {p : Addr} {k n : Nat} : KFun P w K mg base p k n [] := fun z F h => by cases h
theorem kfun_cons {P : Program} {w : World} {K : PySem.W.Frag} {mg : Str → Option Value} {base : Heap} {p : Addr} {k j : Nat} {y : Str} {F : FM} {f : Addr} {fd : FuncData} {ps : List Str} {r : List (Str × FM)} (h : KDct K w p y (.ref f)) (G : FnOk P w K mg base CX0 j f fd ps (spM K ps.length F)) (hj : j ≤ k) (hk : PySem.W.keepIn K (.ref f) = true) (hb : Binds K fd ps []) (hr : KFun P w K mg base p k ps.length r) : KFun P w K mg base p k ps.length ((y, F) :: r) := fun z d' e => by
  unfold lookF at e
  split at e
  · rename_i q
    subst q
    cases e
    exact ⟨f, fd, ps, h, rfl, G.mono hj, hk, hb⟩
  · exact hr z d' e
theorem de_kcall {x : Str} {pt : Addr} {k j n : Nat} {tbl : List (Str × FM)} {ms : List (ME DV)} {px p2 : Pos} (hg : Gl X x) (hm : X.mg x = some (.ref pt)) (ht : KFun X.prog X.w X.K X.mg X.base pt k n tbl) (hr : Room j X.A) (hkj : k ≤ j) (hb : DE X b mb) (ha : DA X (e :: es) (mArgs ms)) (hn : ms.length = n := by rfl)
    (hs : PlainIx b := by intro _ _; rfl) (hd : (x == ("__debug__" : Str)) = false := by decide)
    (hcall : eval (.Call (.Subscript (.Name x px) b p2) (e :: es) [] pos) X.env = (do callWith pos (← eval (.Subscript (.Name x px) b p2) X.env) [] (backTo pos (starEach (e :: es) X.env)) (backToKw pos (keywordEach [] X.env))) := by rfl)
    (he : starEach (e :: es) X.env = (false, eval e X.env) :: starEach es X.env := by rfl) (hpl : (backTo pos (starEach es X.env)).any (·.1) = false := by rfl) : DE X (.Call (.Subscript (.Name x px) b p2) (e :: es) [] pos) (mKcall tbl mb ms) := by
  refine ⟨fun pins s σ H Q I ⟨en, st, μ, d, st', he', hs', hm', hq⟩ => ?_⟩
  obtain ⟨y, st1, h1, hm'⟩ := bind_some hm'
  split at hm'
  case h_2 => cases hm'
  rename_i z
  split at hm'
  case h_2 => cases hm'
  rename_i F eF
  obtain ⟨ds, st2, h2, h3⟩ := bind_some hm'
  obtain ⟨f, fd, ps, k1, k2, k3, k4, k5⟩ := ht z F eF
  refine Call_ (thn ((pe_ix ix_kdict (pe_glob hg hm (v := .ref pt) rfl hd) hb hs).run pins s σ H (fun v H1 => v = .ref f ∧ ∃ μ1, Ext H μ H1 μ1 ∧ RS X.K H1 μ1 st1) I ⟨en, st, μ, _, st1, he', hs', h1, fun H1 μ1 v x1 hs1 rv => ?_⟩) fun u s1 ⟨v, H1, I1, r1, q1⟩ => ?_) hcall
  · cases rv
    exact ⟨pt, z, .ref f, rfl, rfl, k1, rfl, μ1, x1, hs1⟩
  · obtain ⟨rfl, μ1, x1, hs1⟩ := q1
    cases r1
    refine PySem.W.callWith_K (h₀ := X.base) I1.ok.mod.kin k4 (thn (ha.run pos pins s1 σ H1 _ I1 ⟨en, st1, μ1, ds, st2, he'.ext x1, hs1, h2, fun H2 μ2 vs x2 hs2 rs => (show spM X.K ps.length F (vs ++ []) H2 Q E0 from ?_)⟩) fun us s2 ⟨vs, H2, I2, r2, q2⟩ => ⟨I2.kIn, ?_⟩) he hpl
    · rw [List.append_nil]
      exact ⟨by rw [← rs.length, args_len _ _ _ _ _ h2, hn, k2], st2, μ2, ds, d, st', hs2, rs, h3, fun H3 μ3 v x3 hs3 rv => hq H3 μ3 v (x1.trans (x2.trans x3)) hs3 rv⟩
    · exact run_fn k3 (hr.mono hkj) k5 .nil pass0 I2 r2 q2

/-! ### sorted of ints -/
def insI (n : Int) : List Int → List Int
  | [] => [n]
  | m :: ms => if n ≤ m then n :: m :: ms else m :: insI n ms
def isort : List Int → List Int
  | [] => []
  | n :: ns => insI n (isort ns)
theorem insI_perm (n : Int) : ∀ ms, (insI n ms).Perm (n :: ms)
  | [] => List.Perm.refl _
  | m :: ms => by
    unfold insI
    split
    · exact List.Perm.refl _
    · exact ((insI_perm n ms).cons m).trans (List.Perm.swap n m ms)
theorem isort_perm : ∀ ns, (isort ns).Perm ns
  | [] => List.Perm.refl _
  | n :: ns => (insI_perm n (isort ns)).trans ((isort_perm ns).cons n)
theorem insI_sorted (n : Int) : ∀ {ms : List Int}, ms.Pairwise (· ≤ ·) → (insI n ms).Pairwise (· ≤ ·)
  | [], _ => by simp [insI]
  | m :: ms, h => by
    unfold insI
    have h1 := List.pairwise_cons.mp h
    split
    · rename_i hn
      refine List.pairwise_cons.mpr ⟨fun k hk => ?_, h⟩
      rcases List.mem_cons.mp hk with rfl | hk
      · exact hn
      · exact Int.le_trans hn (h1.1 k hk)
    · rename_i hn
      refine List.pairwise_cons.mpr ⟨fun k hk => ?_, insI_sorted n h1.2⟩
      rcases List.mem_cons.mp ((insI_perm n ms).mem_iff.mp hk) with rfl | hk
      · omega
      · exact h1.1 k hk
theorem isort_sorted : ∀ ns, (isort ns).Pairwise (· ≤ ·)
  | [] => List.Pairwise.nil
  | n :: ns => insI_sorted n (isort_sorted ns)
theorem sorted_uniq : ∀ {l l' : List Int}, l.Perm l' → l.Pairwise (· ≤ ·) → l'.Pairwise (· ≤ ·) → l = l'
  | [], l', p, _, _ => by simpa using p
  | a :: l, [], p, _, _ => by simpa using p
  | a :: l, b :: l', p, h, h' => by
    have h1 := List.pairwise_cons.mp h
    have h2 := List.pairwise_cons.mp h'
    have e : a = b := by
      have m1 : a ∈ b :: l' := p.mem_iff.mp List.mem_cons_self
      have m2 : b ∈ a :: l := p.mem_iff.mpr List.mem_cons_self
      rcases List.mem_cons.mp m1 with m1 | m1
      · exact m1
      · rcases List.mem_cons.mp m2 with m2 | m2
        · exact m2.symm
        · have := h2.1 a m1
          have := h1.1 b m2
          omega
    subst e
    rw [sorted_uniq (List.Perm.cons_inv p) h1.2 h2.2]
/-- sorted of a list or a tuple of ints -/
theorem sorted_seq {prog : Program} {w : World} {A : Around} {E : Value → Shared → Prop} {s : Shared} {it : Addr} {T : String} {ob : Obj} {items : Array Value} {n : Nat} {ns : List Int} {Q : Value → Shared → Prop}
    (hT : T = "list" ∨ T = "tuple") (ho : s.heap.get? it = some ob) (hc : ob.cls = .type T) (hd : ob.data = .seq items n) (hz : items.size ≤ sizeLine) (hI : IntsAre items.toList ns)
    (h : ∀ (h1 h' : Heap) (out : List Value) (ep : Nat), (∀ b o', s.heap.get? b = some o' → h1.get? b = some o') → (∀ b o', h1.get? b = some o' → h'.get? b = some o') → h'.get? h1.objs.size = some { cls := .type "list", data := .seq out.toArray ep } → IntsAre out (isort ns) → Q (.ref h1.objs.size) { s with heap := h' }) :
    wpAny (model prog w) A (call (.builtin "sorted") [.ref it]) Q E s := by
  have hz2 : items.toList.length ≤ sizeLine := by rw [Array.length_toList]; exact hz
  refine Calls.call_function_entry kind_sorted plain_sorted entry_sorted (args_sorted1 _) ?_
  unfold Builtin.«sorted»
  refine wpAny_bind (m := checkCount "sorted" 1 1 _) (wpAny_pure ?_)
  refine wpAny_bind (wpAny_collect_seq it hT ho hc hd (fun h1 k1 => ?_) hz)
  refine wpAny_bind (wpAny_newList (?_) (hz2))
  have hl : (h1.push (seqObj "list" items.toList.toArray 0)).get? h1.objs.size = some (seqObj "list" items.toList.toArray 0) := Heap.get?_push_size _ rfl
  refine wpAny_bind (wpAny_holding (wpAny_call_entry slot_list_sort ⟨_, hl, rfl⟩ entry_list_sort (SrtO.list_sort_ord SrtO.swo_int hl hz2 (fun h2 => SrtO.ints_sortable hI h2) fun out o1 o2 => ⟨_, rfl, ?_⟩) (args_list_sort _)))
  obtain ⟨g1, g2, g3⟩ := SrtO.ints_out hI o1 o2
  obtain ⟨ep, he⟩ := sortedHeap_at (vs := items.toList) (out := out.toArray) hl
  refine wpAny_pure ⟨_, rfl, h h1 _ out ep k1 (fun b o' q => ?_) he ?_⟩
  · have hlt : b < h1.objs.size := Heap.lt_size q
    rw [sortedHeap_old (Nat.ne_of_lt hlt) (by rw [Heap.size_push]; exact Nat.lt_succ_of_lt hlt)]
    exact Heap.get?_push_of_some _ q
  · rw [sorted_uniq (isort_perm ns |>.trans g2.symm) (isort_sorted ns) g3]
    exact g1
def rSrt (K : PySem.W.Frag) : List V → Hp → VK → Prop := fun vs H Q => ∃ (q : Addr) (ns : List Int), vs = [.ref q] ∧ (SqL K H q (ns.map V.int) ∨ SqT K H q (ns.map V.int)) ∧ ∀ l, H l = none → Q (.ref l) (upd H l (.lst ((isort ns).map V.int)))
theorem isort_len (ns : List Int) : (isort ns).length = ns.length := (isort_perm ns).length_eq
theorem cr_srt : CallR X (.builtin "sorted") (rSrt X.K) := by
  intro pins s σ H xs us Q I r ⟨q, ns, e, hq, hk⟩
  subst e
  obtain ⟨u, rfl, rx⟩ := vals1 r
  cases rx
  have fin : ∀ {its : List Value} {T : String} {ob : Obj} {n : Nat}, (T = "list" ∨ T = "tuple") → s.heap.get? q = some ob → ob.cls = .type T → ob.data = .seq its.toArray n → Vals (ns.map V.int) its → (ns.map V.int).length ≤ sizeLine → wpAny (model X.prog X.w) X.A (call (.builtin "sorted") [.ref q]) (EP X pins σ Q) X.xe s := by
    intro its T ob n hT ho hc hd rv hz
    refine sorted_seq (ns := ns) hT ho hc hd (by rw [List.size_toArray, ← rv.length]; exact hz) (by simpa using rv.ints) fun h1 h' out ep k1 k2 hnew hI => ?_
    have I1 : Inv X pins σ H { s with heap := h1 } := I.kept (t' := s.toks) k1
    have hl : ((isort ns).map V.int).length ≤ sizeLine := by
      rw [List.length_map, isort_len]
      rw [List.length_map] at hz
      exact hz
    exact ⟨.ref h1.objs.size, upd H h1.objs.size (.lst ((isort ns).map V.int)), I1.laid (t' := s.toks) k2 (Nat.le_refl _) ⟨hl, out, ep, vals_of_ints hI, hnew⟩, rfl, hk _ (I1.hok.fresh (Nat.le_refl _))⟩
  rcases hq with hq | hq
  · obtain ⟨its, rv, pl, hz⟩ := I.list hq
    obtain ⟨ob, ho, hc, n, hd⟩ := pl.isList
    exact fin (.inl rfl) ho hc hd rv hz
  · obtain ⟨its, rv, ⟨ob, ho, hc, n, hd⟩, hz⟩ := I.tuple hq
    exact fin (.inr rfl) ho hc hd rv hz
def mSrt (m : ME (List DV)) : ME (List DV) := ME.bind m fun ds => fun _ st => match toIs ds with
  | some ns => some ((isort ns).map DV.int, st)
  | none => none
theorem df_srt (hm : X.mg "sorted" = none) (h : DQ X e mq) (hg : Gl X "sorted" := by rfl) (hs : starEach [e] X.env = (false, eval e X.env) :: starEach [] X.env := by rfl) (hpl : (backTo pos (starEach [] X.env)).any (·.1) = false := by rfl) : DF X (.Call (.Name "sorted" p) [e] [] pos) (mSrt mq) := by
  refine pe_imp (pe_callB cr_srt hg hm (by decide +kernel) (pa_cons h pa_nil hs) (he := hs) (hpl := hpl)) fun σ H Q ⟨e, st, μ, d, st', he, hs, hm, hq⟩ => ?_
  obtain ⟨ds, st1, h1, hm⟩ := bind_some hm
  split at hm
  case h_2 => cases hm
  rename_i ns en
  cases hm
  refine ⟨e, st, μ, ds, _, he, hs, h1, fun H1 μ1 a vs x1 hs1 sq z rs => ⟨a, ns, rfl, ?_, fun l hl => ?_⟩⟩
  · rw [← is_of rs en]; exact sq
  · obtain ⟨n1, n2⟩ := fresh_new x1 hs1 hl
    refine hq _ μ1 l _ (x1.trans (ext_new hl)) (hs1.new hl) n1 n2 upd_same ?_ (is_to _)
    rw [List.length_map, isort_len, ← List.length_map (f := V.int), ← is_of rs en]
    exact z
/-! ### len(set(t)), t a tuple of different ints -/
def mLenSet (m : ME DV) : ME DV := ME.bind m fun d => fun _ st => match d with
  | .tup ds => match toIs ds with
    | some ns => if ns.Nodup ∧ ns.length ≤ 1000 then some (.int ns.length, st) else none
    | none => none
  | _ => none
theorem nodup_len {α : Type} {l l' : List α} (h : l.Nodup) (h' : l'.Nodup) (k : ∀ x, x ∈ l ↔ x ∈ l') : l.length = l'.length := ((List.perm_ext_iff_of_nodup h h').mpr k).length_eq
theorem de_lenSet {p2 q : Pos} (hc : X.calm = true) (hm : X.mg "len" = none) (hm2 : X.mg "set" = none) (ha : DE X a ma) (hg : Gl X "len" := by rfl) (hg2 : Gl X "set" := by rfl) (na : starEach [a] X.env = (false, eval a X.env) :: starEach [] X.env := by rfl) : DE X (.Call (.Name "len" p) [.Call (.Name "set" p2) [a] [] q] [] pos) (mLenSet ma) := by
  refine ⟨fun pins s σ H Q I ⟨e, st, μ, d, st', he, hs, hm', hq⟩ => ?_⟩
  obtain ⟨x, st1, h1, hm'⟩ := bind_some hm'
  split at hm'
  case h_2 => cases hm'
  rename_i ds
  split at hm'
  case h_2 => cases hm'
  rename_i ns en
  split at hm'
  case isFalse => cases hm'
  rename_i hk
  cases hm'
  refine Call_ (ld_blt I hg hm PySem.boot_len ?_)
  refine callWith_builtin1 (PyProof.Rows.args_cons ?_ rfl) rfl rfl
  refine Call_ (ld_blt I hg2 hm2 boot_set ?_)
  refine callWith_type1 (PyProof.Rows.args_cons (thn (PE.run ha pins s σ H (fun v H1 => ∃ ad vs, v = .ref ad ∧ SqT X.K H1 ad (ns.map V.int) ∧ Q (.int ns.length) H1 ∧ vs = ad) I ⟨e, st, μ, _, _, he, hs, h1, fun H1 μ1 v x1 hs1 rv => ?_⟩) fun u s1 ⟨v, H1, I1, r1, q1⟩ => PyProof.Rows.args_nil ?_) na) na rfl
  · cases rv with
    | @tup ad _ vs sq z rs =>
      refine ⟨ad, ad, rfl, ?_, hq H1 μ1 _ x1 hs1 (.int _), rfl⟩
      rw [← is_of rs en]; exact sq
  · obtain ⟨ad, _, rfl, sq, q1, _⟩ := q1
    cases r1
    obtain ⟨its, rv, pt, hz⟩ := I1.tuple sq
    refine call_set_tupI ns (I1.ok.hd hc) (show s1.heap.IsTuple ad its.toArray from pt) (by simpa using rv.ints) (by unfold scanBound; have := hk.2; omega) fun h' tk c R hcn k => ?_
    refine PyProof.Rows.args_nil ?_
    obtain ⟨o, es, ep, t, ho, hex, hd, hgood, hnd, hmem, hb, hf, hn, _, _⟩ := R
    have I2 : Inv X pins σ H1 { s1 with heap := h', toks := tk } := I1.kept fun b o e => k b o e
    have hlen : es.size = ns.length := by
      have := nodup_len hnd hk.1 fun j => by rw [← hmem j]; simp
      rw [List.length_map, Array.length_toList] at this
      exact this
    refine call_len_set ho hex hd hf (by rw [hlen]; have := hk.2; omega) ⟨.int ns.length, H1, I2.tok _, ⟨_, by rw [hlen]⟩, q1⟩
end
end DL

/-! DL10: what a def leaves behind is forgotten. -/
namespace DL
open PySem PySem.Spec PyProof.Rows L2

mutual
/-- cells below n alone are named -/
def ltD (n : Nat) : DV → Bool
  | .non => true
  | .bl _ => true
  | .int _ => true
  | .str _ => true
  | .tup xs => ltDs n xs
  | .ref l => decide (l < n)
  | .scr xs => ltDs n xs
def ltDs (n : Nat) : List DV → Bool
  | [] => true
  | x :: xs => ltD n x && ltDs n xs
end
def ltKs (n : Nat) : List (Key × DV) → Bool
  | [] => true
  | x :: xs => ltD n x.2 && ltKs n xs
def ltO (n : Nat) : DO → Bool
  | .lst ds => ltDs n ds
  | .dct ks => ltKs n ks
  | .dcn ks d => ltKs n ks && ltD n d
section
variable {K : PySem.W.Frag} {H : Hp} {μ t : List Addr} {n : Nat}
theorem lt_of {d : DV} {v : V} (r : RV K H μ d v) : ltD μ.length d = true :=
  RV.rec (motive_1 := fun d v _ => ltD μ.length d = true) (motive_2 := fun d v _ => ltDs μ.length d = true) rfl (fun _ => rfl) (fun _ => rfl) (fun _ => rfl) (fun _ _ _ r => by simpa [ltD] using r)
    (fun h => by simpa [ltD] using (List.getElem?_eq_some_iff.mp h).1) (fun _ _ _ r => by simpa [ltD] using r) rfl (fun _ _ a b => by simp [ltDs, a, b]) r
theorem lts_of : ∀ {d : List DV} {v : List V}, RVs K H μ d v → ltDs μ.length d = true
  | _, _, .nil => rfl
  | _, _, .cons r s => by simp [ltDs, lt_of r, lts_of s]
theorem ltk_of : ∀ {d : List (Key × DV)} {v : List (Key × V)}, RKs K H μ d v → ltKs μ.length d = true
  | _, _, .nil => rfl
  | _, _, .cons r s => by simp [ltKs, lt_of r, ltk_of s]
theorem cut_rv {d : DV} {v : V} (r : RV K H (μ ++ t) d v) : ltD μ.length d = true → RV K H μ d v :=
  RV.rec (motive_1 := fun d v _ => ltD μ.length d = true → RV K H μ d v) (motive_2 := fun d v _ => ltDs μ.length d = true → RVs K H μ d v) (fun _ => .non) (fun b _ => .bl b) (fun b _ => .int b) (fun b _ => .str b)
    (fun s z _ r h => .tup s z (r (by simpa [ltD] using h))) (fun {l a} h q => .ref (by
      have q : l < μ.length := by simpa [ltD] using q
      rw [List.getElem?_append_left q] at h; exact h)) (fun s z _ r h => .scr s z (r (by simpa [ltD] using h))) (fun _ => .nil) (fun _ _ a b h => by
      simp only [ltDs, Bool.and_eq_true] at h
      exact .cons (a h.1) (b h.2)) r
theorem cut_rvs : ∀ {d : List DV} {v : List V}, RVs K H (μ ++ t) d v → ltDs μ.length d = true → RVs K H μ d v
  | _, _, .nil, _ => .nil
  | _, _, .cons r s, h => by
    simp only [ltDs, Bool.and_eq_true] at h
    exact .cons (cut_rv r h.1) (cut_rvs s h.2)
theorem cut_rks : ∀ {d : List (Key × DV)} {v : List (Key × V)}, RKs K H (μ ++ t) d v → ltKs μ.length d = true → RKs K H μ d v
  | _, _, .nil, _ => .nil
  | _, _, .cons r s, h => by
    simp only [ltKs, Bool.and_eq_true] at h
    exact .cons (cut_rv r h.1) (cut_rks s h.2)
theorem lto_of {o : DO} {a : Addr} (r : RO K H μ o a) : ltO μ.length o = true := by
  cases r with
  | lst h z r => exact lts_of r
  | dct h z r => exact ltk_of r
  | dcn h r q => simp [ltO, ltk_of r, lt_of q]
theorem cut_ro {o : DO} {a : Addr} (r : RO K H (μ ++ t) o a) (h : ltO μ.length o = true) : RO K H μ o a := by
  cases r with
  | lst h' z r => exact .lst h' z (cut_rvs r h)
  | dct h' z r => exact .dct h' z (cut_rks r h)
  | dcn h' r q =>
    simp only [ltO, Bool.and_eq_true] at h
    exact .dcn h' (cut_rks r h.1) (cut_rv q h.2)
end
/-- st0 with the answer d0, told without what nobody can reach -/
inductive Nrm (st : Sto) : DV → Sto → DV → Sto → Prop
  | same (d : DV) (st0 : Sto) : Nrm st d st0 d st0
  | drop {d : DV} {st1 g : Sto} (hl : st1.length = st.length) (hc : ∀ (l : Nat) (o : DO), st1[l]? = some o → st[l]? = some o ∨ ltO st.length o = true) (hd : ltD st.length d = true) : Nrm st d (st1 ++ g) d st1
  | one {st1 g : Sto} {l : Nat} {o : DO} (hl : st1.length = st.length) (hc : ∀ (l : Nat) (o : DO), st1[l]? = some o → st[l]? = some o ∨ ltO st.length o = true) (hg : g[l]? = some o) (ho : ltO st.length o = true) : Nrm st (.ref (st1.length + l)) (st1 ++ g) (.ref st1.length) (st1 ++ [o])
theorem Nrm.pure {st g : Sto} {d : DV} (hd : ltD st.length d = true) : Nrm st d (st ++ g) d st := .drop rfl (fun _ _ h => .inl h) hd
def NrmF (F G : FM) : Prop := ∀ ds st d st', G ds st = some (d, st') → ∃ d0 st0, F ds st = some (d0, st0) ∧ Nrm st d0 st0 d st'
theorem cut_rs {K : PySem.W.Frag} {H H' : Hp} {μ t : List Addr} {st st1 g : Sto} (hs : RS K H μ st) (hs' : RS K H' (μ ++ t) (st1 ++ g)) (hl : st1.length = st.length) (hc : ∀ (l : Nat) (o : DO), st1[l]? = some o → st[l]? = some o ∨ ltO st.length o = true) : RS K H' μ st1 := by
  refine ⟨by rw [hs.len, hl], (List.nodup_append.mp hs'.nd).1, fun l a o h1 h2 => ?_⟩
  have b1 := (List.getElem?_eq_some_iff.mp h1).1
  have b2 := (List.getElem?_eq_some_iff.mp h2).1
  have r := hs'.cell l a o (by rw [List.getElem?_append_left b1]; exact h1) (by rw [List.getElem?_append_left b2]; exact h2)
  refine cut_ro r ?_
  rcases hc l o h2 with h | h
  · exact lto_of (hs.cell l a o h1 h)
  · rw [hs.len]; exact h
theorem fn_nrm {P : Program} {w : World} {K : PySem.W.Frag} {mg : Str → Option Value} {base : Heap} {k n : Nat} {f : Addr} {fd : FuncData} {ps : List Str} {F G : FM} (h : FnOk P w K mg base CX0 k f fd ps (spM K n F)) (hn : NrmF F G) : FnOk P w K mg base CX0 k f fd ps (spM K n G) := by
  refine h.imp fun vs H Q E ⟨hl, st, μ, ds, d, st', hs, rs, hg, hq⟩ => ⟨hl, st, μ, ds, ?_⟩
  obtain ⟨d0, st0, h1, h2⟩ := hn ds st d st' hg
  refine ⟨d0, st0, hs, rs, h1, fun H' μ' v x hs' rv => ?_⟩
  have eqt : ∃ t, μ' = μ ++ t := let ⟨t, e, _⟩ := x.pre; ⟨t, e⟩
  obtain ⟨t, rfl⟩ := eqt
  have xc : Ext H μ H' μ := ⟨⟨[], by simp, by simp⟩, x.tup, x.frz, x.oth, x.trk⟩
  cases h2 with
  | same => exact hq H' _ v x hs' rv
  | drop hl hc hd => exact hq H' μ v xc (cut_rs hs hs' hl hc) (cut_rv rv (by rw [hs.len]; exact hd))
  | @one st1 g l o hl hc hg' ho =>
    have r1 := cut_rs hs hs' hl hc
    cases rv with
    | @ref _ a ha =>
      have hr := hs'.cell _ a o ha (by rw [List.getElem?_append_right (Nat.le_add_right _ _), Nat.add_sub_cancel_left]; exact hg')
      have hat : t[l]? = some a := by
        rw [← r1.len, List.getElem?_append_right (Nat.le_add_right _ _), Nat.add_sub_cancel_left] at ha
        exact ha
      have hnm : a ∉ μ := fun z => by
        have := List.nodup_append.mp hs'.nd
        exact this.2.2 a z a (List.mem_of_getElem? hat) rfl
      obtain ⟨t', et, ht⟩ := x.pre
      have et : t = t' := List.append_cancel_left et
      subst et
      refine hq H' (μ ++ [a]) (.ref a) ⟨⟨[a], rfl, fun b hb => ?_⟩, x.tup, x.frz, x.oth, x.trk⟩ (r1.adopt hnm (cut_ro hr (by rw [hs.len]; exact ho))) (.ref (at_end r1.len))
      rw [List.mem_singleton.mp hb]
      exact ht a (List.mem_of_getElem? hat)
end DL

/-! DL11: what the top has left; the law's own call. -/
namespace DL
open PySem PySem.Spec PyProof.Rows L2

/-- the law's def, from its data -/
theorem hsp_of {K : PySem.W.Frag} {n : Nat} {G : FM} (hn : n ≤ 1000) (h : ∀ ns : List Int, ns.length ≤ n → ∃ st', G [.scr (ns.map DV.int)] [] = some (.bl true, st')) (H : Hp) (a : Addr) (ns : List Int) (hl : ns.length ≤ n) (hO : Only H) (hS : SqL K H a (ns.map V.int)) :
    spM K 1 G [.ref a] H (fun v _ => v = .bl true) fun _ _ _ => False := by
  obtain ⟨st', e⟩ := h ns hl
  have sq : SqR K H a (ns.map V.int) := by
    rcases hS with (h | ⟨o, h⟩) | h
    · rcases hO a with q | ⟨o, xs, q⟩
      · rw [q] at h; cases h
      · rw [q] at h; cases h
    · exact .inl ⟨o, h⟩
    · exact .inr h
  have hz : (ns.map V.int).length ≤ sizeLine := by
    rw [List.length_map, sizeLine_eq]; omega
  refine ⟨rfl, [], [], [.scr (ns.map DV.int)], .bl true, st', ⟨rfl, List.nodup_nil, fun l a o h => by cases h⟩, .cons (.scr sq hz (is_to ns)) .nil, e, fun H' μ' v x hs rv => ?_⟩
  cases rv
  rfl
/-- a written tuple of the top -/
theorem rv_ktup {K : PySem.W.Frag} {p : Addr} {o : Obj} {its : Array Value} {n : Nat} {ds : List DV} {vs : List V} (hl : K.lookup p = some o) (hc : o.cls = .type "tuple") (hd : o.data = .seq its n) (hz : its.size ≤ sizeLine) (hv : Vals vs its.toList) (hr : ∀ H μ, RVs K H μ ds vs) : ∀ H μ, RV K H μ (.tup ds) (.ref p) := fun H μ => by
  refine .tup (.inr ⟨o, its, n, hl, hc, hd, hz, hv⟩) ?_ (hr H μ)
  rw [hv.length, Array.length_toList]
  exact hz
end DL

/-! DN1: None among the keys of a dict: a cell dcn. -/
namespace DL
open PySem PySem.Spec PyProof.Rows L2

def isL (k : Key) : Bool := match k with | .inl _ => true | .inr _ => false
theorem pairs_mem {P : Program} {w : World} {κ : Type} [DecidableEq κ] {knd : PySem.KeyKind P w κ} : ∀ {es : List DictEntry} {us : List (κ × Value)}, PySem.Pairs knd es us → ∀ e ∈ es, ∃ kv ∈ us, knd.is kv.1 e.key = true
  | _, _, .nil, e, h => by cases h
  | _, _, @PySem.Pairs.cons _ _ _ _ _ e0 kv es us h1 h2 t, e, h => by
    rcases List.mem_cons.mp h with rfl | h
    · exact ⟨kv, List.mem_cons_self, h1⟩
    · obtain ⟨kv', h3, h4⟩ := pairs_mem t e h
      exact ⟨kv', List.mem_cons_of_mem _ h3, h4⟩
theorem ndict_mix {P P' : Program} {w w' : World} {h : Heap} {a : Addr} {us : List (Key × Value)} (d : h.DictOf (mixKind P w) a us) (hi : ∀ p ∈ us, isL p.1 = true) : h.DictOf (noneKind P' w') a (us.map fun p => (some p.1, p.2)) := by
  obtain ⟨o, es, ep, ho, hx, hd, hk, hp, hn⟩ := d
  refine ⟨o, es, ep, ho, hx, hd, fun e he => ?_, ?_, ?_⟩
  · obtain ⟨k, h1, h2⟩ := hk e he
    obtain ⟨kv, h3, h4⟩ := pairs_mem hp e (by simpa using he)
    have ek : k = kv.1 := (mixKind P w).inj _ _ _ h1 h4
    subst ek
    refine ⟨some kv.1, h1, ?_⟩
    rw [h2]
    have hl := hi kv h3
    obtain ⟨k, x⟩ := kv
    cases k with
    | inl i => rfl
    | inr x => exact nomatch hl
  · clear hn hk hd hi
    generalize es.toList = l at hp
    induction hp with
    | nil => exact .nil
    | cons h1 h2 _ ih => exact .cons h1 h2 ih
  · rw [List.map_map]
    have e : ((fun x : Option Key × Value => x.1) ∘ fun p : Key × Value => (some p.1, p.2)) = (fun k : Key => some k) ∘ fun p : Key × Value => p.1 := rfl
    rw [e, ← List.map_map]
    exact List.Pairwise.map _ (fun a b hab q => hab (Option.some.inj q)) hn
theorem ndict_none {P P' : Program} {w w' : World} {h : Heap} {a : Addr} {us : List (Option Key × Value)} (d : h.DictOf (noneKind P w) a us) (hi : ∀ p ∈ us, ∀ k, p.1 = some k → isL k = true) : h.DictOf (noneKind P' w') a us := by
  obtain ⟨o, es, ep, ho, hx, hd, hk, hp, hn⟩ := d
  refine ⟨o, es, ep, ho, hx, hd, fun e he => ?_, ?_, hn⟩
  · obtain ⟨k, h1, h2⟩ := hk e he
    obtain ⟨kv, h3, h4⟩ := pairs_mem hp e (by simpa using he)
    have ek : k = kv.1 := (noneKind P w).inj _ _ _ h1 h4
    subst ek
    refine ⟨kv.1, h1, ?_⟩
    rw [h2]
    have hl := hi kv h3
    obtain ⟨k, x⟩ := kv
    cases k with
    | none => rfl
    | some k =>
      cases k with
      | inl i => rfl
      | inr x => exact nomatch (hl _ rfl)
  · clear hn hk hd hi
    generalize es.toList = l at hp
    induction hp with
    | nil => exact .nil
    | cons h1 h2 _ ih => exact .cons h1 h2 ih
theorem ndict_stay {a : Addr} {vs : List (Key × V)} {v : V} {h1 h2 : Heap} (n : NDict a vs v h1) (hk : ∀ o, h1.get? a = some o → h2.get? a = some o) : NDict a vs v h2 := by
  obtain ⟨hd, us, u, r1, r2, dd⟩ := n
  exact ⟨hd, us, u, r1, r2, fun P w => (dd P w).at hk⟩
theorem all_isL {vs : List (Key × V)} {us : List (Key × Value)} (r : KV vs us) (h : (vs.all fun kv => isL kv.1) = true) : ∀ p ∈ us, isL p.1 = true := by
  unfold KV at r
  induction r with
  | nil => simp
  | @cons p q ps qs h1 t ih =>
    simp only [List.all_cons, Bool.and_eq_true] at h
    intro x hx
    rcases List.mem_cons.mp hx with rfl | hx
    · rw [← h1.1]; exact h.1
    · exact ih h.2 x hx
section
variable {X : Cx} {pins : List (Addr × Obj)} {σ : L2.St} {H : Hp} {s : Shared} {a : Addr} {u r : Value} {v v0 : V} {A : Around} {E : Value → Shared → Prop}
theorem stored_none (us : List (Key × Value)) (r : Value) : stored (us.map fun p => ((some p.1 : Option Key), p.2)) none r = (us.map fun p => (some p.1, p.2)) ++ [(none, r)] := by
  unfold stored
  have e : ((us.map fun p => ((some p.1 : Option Key), p.2)).any fun kv => decide (kv.1 = none)) = false := by
    rw [List.any_eq_false]
    intro x hx
    obtain ⟨p, _, rfl⟩ := List.mem_map.mp hx
    simp
  rw [e]
  rfl
theorem d_setNone {vs : List (Key × V)} {Q : Unit → Shared → Prop} (I : Inv X pins σ H s) (e : H a = some (.dK vs)) (hi : (vs.all fun kv => isL kv.1) = true) (hl : vs.length < sizeLine) (rv : RelV v r)
    (h : ∀ s', Inv X pins σ (upd H a (.ext (NDict a vs v))) s' → Q () s') : wpAny (model X.prog X.w) A (setItem (.ref a) .none r) Q E s := by
  obtain ⟨z, hd, us, rel, dd⟩ := dk_of I.hok e
  have hL := all_isL rel hi
  have dn : s.heap.DictOf (noneKind X.prog X.w) a (us.map fun p => (some p.1, p.2)) := ndict_mix dd hL
  have hz : (us.map fun p => ((some p.1 : Option Key), p.2)).length ≤ sizeLine := by rw [List.length_map, ← rel.length]; exact z
  refine wpAny_setItem_pairs (knd := noneKind X.prog X.w) (k := none) (hsz := hz) rfl dn fun h' dd' hs => h _ ?_
  rw [stored_none] at dd'
  have he : ∃ q, h'.get? a = some q := let ⟨q, _, _, hq, _⟩ := dd'; ⟨q, hq⟩
  refine d_write I (by rw [e]; exact True.intro) hs he ⟨⟨hd, us, r, rel, rv, fun P w => ndict_none dd' fun p hp k hk => ?_⟩, he, fun h1 h2 n hk => ndict_stay n hk⟩
  rcases List.mem_append.mp hp with hp | hp
  · obtain ⟨q, hq, rfl⟩ := List.mem_map.mp hp
    cases hk
    exact hL q hq
  · rw [List.mem_singleton.mp hp] at hk
    cases hk
theorem value_some (us : List (Key × Value)) (r : Value) (k : Key) : valueAt ((us.map fun p => ((some p.1 : Option Key), p.2)) ++ [(none, r)]) (some k) = valueAt us k := by
  unfold valueAt
  rw [List.find?_append, List.find?_map]
  have e : ((fun kv : Option Key × Value => decide (kv.1 = some k)) ∘ fun p : Key × Value => ((some p.1 : Option Key), p.2)) = fun kv : Key × Value => decide (kv.1 = k) := by
    funext p
    simp
  rw [e]
  cases us.find? fun kv => decide (kv.1 = k) with
  | none => simp
  | some x => simp
theorem value_none (us : List (Key × Value)) (r : Value) : valueAt ((us.map fun p => ((some p.1 : Option Key), p.2)) ++ [(none, r)]) none = some r := by
  unfold valueAt
  rw [List.find?_append, List.find?_map]
  have e : ((fun kv : Option Key × Value => decide (kv.1 = none)) ∘ fun p : Key × Value => ((some p.1 : Option Key), p.2)) = fun _ => false := by
    funext p
    simp
  rw [e]
  have e2 : us.find? (fun _ => false) = none := by
    rw [List.find?_eq_none]
    intro x _
    simp
  rw [e2]
  rfl
/-- what such a dict holds -/
def NGet (H : Hp) (a : Addr) (y v : V) : Prop := ∃ vs v0, H a = some (.ext (NDict a vs v0)) ∧ ((∃ k, y = kV k ∧ valV vs k = some v) ∨ (y = .non ∧ v = v0))
theorem d_getN {y : V} {Q : Value → Shared → Prop} (I : Inv X pins σ H s) (g : NGet H a y v) (ry : RelV y u) (h : ∀ w' s', Inv X pins σ H s' → RelV v w' → Q w' s') : wpAny (model X.prog X.w) A (getItem (.ref a) u) Q E s := by
  obtain ⟨vs, v0, e, g⟩ := g
  obtain ⟨⟨hd, us, u0, rel, r0, dd⟩, _, _⟩ := I.hok a _ e
  have dd := dd X.prog X.w
  rcases g with ⟨k, rfl, hv⟩ | ⟨rfl, rfl⟩
  · obtain ⟨w', hw, rw'⟩ := RelO.some_of (v := v) (o := valueAt us k) (by rw [← hv]; exact rel.val k)
    exact wpAny_getItem_of (knd := noneKind X.prog X.w) (k := some k) (show nkIs (some k) u = true from kV_is (P := X.prog) (w := X.w) ry) dd.mapOf (by rw [value_some]; exact hw) (h w' _ (I.tok _) rw')
  · obtain rfl : u = Value.none := ry
    exact wpAny_getItem_of (knd := noneKind X.prog X.w) (k := none) rfl dd.mapOf (value_none us u0) (h u0 _ (I.tok _) r0)
theorem ndict_typeIs {y : V} (I : Inv X pins σ H s) (g : NGet H a y v) : s.TypeIs (.ref a) "dict" := by
  obtain ⟨vs, v0, e, g⟩ := g
  obtain ⟨⟨hd, us, u0, rel, r0, dd⟩, _, _⟩ := I.hok a _ e
  exact (dd X.prog X.w).typeIs
end
section
variable {X : Cx} {a b o : Expr} {ma mb : ME DV} {pos : Pos}
def tNGet (td ty : TE) : TE := fun σ H Q => td σ H fun x H1 => ty σ H1 fun y H2 => ∃ a v, x = .ref a ∧ NGet H2 a y v ∧ Q v H2
theorem pe_nget {td ty : TE} (ho : PE X o td) (hi : PE X a ty) (hs : NoSl a) : PE X (.Subscript o a pos) (tNGet td ty) := by
  refine ⟨fun pins s σ H Q I h => ?_⟩
  refine subD_of PySem.F.slot_dict_getitem.lookup hs (thn (ho.run pins s σ H _ I h) fun u s1 ⟨x, H1, I1, rx, q1⟩ => thn (hi.run pins s1 σ H1 _ I1 q1) fun iv s2 ⟨y, H2, I2, ry, a, v, ex, g, q2⟩ => ?_)
  subst ex
  obtain rfl : u = Value.ref a := rx
  exact ⟨ndict_typeIs I2 g, d_getN I2 g ry fun w' s3 I3 rw' => ⟨v, H2, I3, rw', q2⟩⟩
/-- d[k], None may be among the keys -/
def gNGet : G2 := fun x y st => match x with
  | .ref l => match st[l]? with
    | some (.dcn kvs d) => match y with
      | .non => some (d, st)
      | y => match keyD y with
        | some k => (valD kvs k).map (·, st)
        | none => none
    | _ => none
  | _ => none
theorem de_nget (ha : DE X a ma) (hb : DE X b mb) (hs : NoSl b := by intro _ _; rfl) : DE X (.Subscript a b pos) (mBin gNGet ma mb) := by
  refine pe_imp (pe_nget ha hb hs) fun σ H Q ⟨e, st, μ, d, st', he, hs, hm, hq⟩ => ?_
  obtain ⟨x, st1, h1, hm⟩ := bind_some hm
  obtain ⟨y, st2, h2, hm⟩ := bind_some hm
  refine ⟨e, st, μ, x, st1, he, hs, h1, fun H1 μ1 v x1 hs1 rv => ?_⟩
  refine ⟨e, st1, μ1, y, st2, he.ext x1, hs1, h2, fun H2 μ2 w x2 hs2 rw' => ?_⟩
  unfold gNGet at hm
  clear h1 h2
  split at hm
  · rename_i l _
    split at hm
    · rename_i kvs d0 e1
      cases rv with
      | @ref _ ad hl =>
        have c := hs2.cell l ad _ (x2.at hl) e1
        cases c with
        | @dcn _ vs _ v0 _ h3 rk rd =>
          split at hm
          · cases hm
            cases rw'
            exact ⟨ad, v0, rfl, ⟨vs, v0, h3, .inr ⟨rfl, rfl⟩⟩, hq H2 μ2 v0 (x1.trans x2) hs2 rd⟩
          · split at hm
            · rename_i k e2
              have ek := key_of rw' e2
              subst ek
              rcases val_of k rk with ⟨q1, q2⟩ | ⟨d', v', q1, q2, q3⟩
              · rw [q1] at hm; cases hm
              · rw [q1] at hm
                cases hm
                exact ⟨ad, v', rfl, ⟨vs, v0, h3, .inl ⟨k, rfl, q2⟩⟩, hq H2 μ2 v' (x1.trans x2) hs2 q3⟩
            · cases hm
    · cases hm
  · cases hm
/-! ### d[None] = v, the keys so far numbers -/
def gSetN (x d : DV) (st : Sto) : Option Sto := match x with
  | .ref l => match st[l]? with
    | some (.dct kvs) => if kvs.length < LIM ∧ (kvs.all fun kv => isL kv.1) = true then some (st.set l (.dcn kvs d)) else none
    | _ => none
  | _ => none
def tgIN (mx my : ME DV) : MG := fun d e st => match mx e st with
  | none => none
  | some (x, st1) => match my e st1 with
    | some (.non, st2) => match gSetN x d st2 with
      | none => none
      | some st3 => some (e, st3)
    | _ => none
def tSetN (K : PySem.W.Frag) : TSet := fun o i v H Q => ∃ st μ x d st', RS K H μ st ∧ RV K H μ x o ∧ i = .non ∧ RV K H μ d v ∧ gSetN x d st = some st' ∧ ∀ H', Ext H μ H' μ → RS K H' μ st' → Q H'
theorem rks_isL {K : PySem.W.Frag} {H : Hp} {μ : List Addr} : ∀ {ds : List (Key × DV)} {vs : List (Key × V)}, RKs K H μ ds vs → (ds.all fun kv => isL kv.1) = true → (vs.all fun kv => isL kv.1) = true
  | _, _, .nil, _ => rfl
  | _, _, .cons r rs, h => by
    simp only [List.all_cons, Bool.and_eq_true] at h ⊢
    exact ⟨h.1, rks_isL rs h.2⟩
theorem set_none : PSet X (tSetN X.K) := by
  intro pins s σ H o i v ov iv u Q I ro ri rv ⟨st, μ, x, d, st', hs, rx, ei, rd, hg, hq⟩
  subst ei
  unfold gSetN at hg
  split at hg
  · rename_i l
    cases rx with
    | @ref _ ad hl =>
      split at hg
      · rename_i kvs e1
        split at hg
        · rename_i hz
          cases hg
          have c := hs.cell l ad _ hl e1
          cases c with
          | @dct _ ws _ h z rk =>
            have n1 : ∀ xs, HO.dK ws ≠ .tup xs := fun xs q => by cases q
            have n2 : ∀ ob w, HO.dK ws ≠ .frz ob w := fun ob w q => by cases q
            have x1 : Ext H μ (upd H ad (.ext (NDict ad ws v))) μ := ext_write h (List.mem_of_getElem? hl) n1 n2
            cases ro
            obtain rfl : iv = Value.none := ri
            have hz' : ws.length < sizeLine := by rw [← rk.length]; exact lim_lt hz.1
            refine d_setNone I h (rks_isL rk hz.2) hz' rv fun s' I' => ⟨_, I', hq _ x1 ?_⟩
            exact hs.write hl h n1 n2 (.dcn upd_same (rk.ext x1) (rd.ext x1))
        · cases hg
      · cases hg
  · cases hg
theorem dg_subN (ho : DE X o ma) (hi : DE X a mb) (hs : ∀ v, assign (.Subscript o a pos) X.env v = (do
      let ov ← holding [v] (eval o X.env)
      let iv ← holding [v, ov] (eval a X.env)
      standAt pos
      holding [v, ov, iv] (setItem ov iv v)
      release [v, ov, iv] []) := by intro _; rfl) : DG X (.Subscript o a pos) (tgIN ma mb) :=
  pg_imp (pg_sub ho hi set_none hs) fun v σ H Q ⟨e, st, μ, d, e', st', he, hs, hv, hg, hq⟩ => by
    unfold tgIN at hg
    split at hg
    · cases hg
    · rename_i x st1 h1
      split at hg
      · rename_i st2 h2
        split at hg
        · cases hg
        · rename_i st3 h3
          cases hg
          refine ⟨e, st, μ, x, st1, he, hs, h1, fun H1 μ1 w x1 hs1 rw' => ⟨e, st1, μ1, .non, st2, he.ext x1, hs1, h2, fun H2 μ2 w2 x2 hs2 rw2 => ?_⟩⟩
          cases rw2
          exact ⟨st2, μ2, x, d, _, hs2, rw'.ext x2, rfl, (hv.ext x1).ext x2, h3, fun H3 x3 hs3 => hq σ H3 μ2 (x1.trans (x2.trans x3)) (he.ext (x1.trans (x2.trans x3))) hs3⟩
      · cases hg
end
end DL

/-! DS1: sets made of lists. -/
namespace DL
open PySem PySem.Calls PySem.Spec PyProof.Rows L2

/-- a set's object, empty -/
def nset (w : World) : Obj := { cls := .type "set", dict := none, data := .set #[] 0 (.fresh 0 0 (!w.params.followText "set-order")) }
def lIt (l : Addr) : Obj := { cls := .type "list_iterator", data := .fields #[.ref l, .int 0 0] }
section
variable {P : Program} {w : World} {A : Around} {E : Value → Shared → Prop} {s : Shared}
/-- the heap ahead of the loop -/
def hp2 (w : World) (h : Heap) (l : Addr) : Heap := (h.push (nset w)).push (lIt l)
/-- what the loop moves -/
structure Mvd (s1 s2 : Shared) (n : Nat) : Prop where
  gens : s2.gens = s1.gens
  drawn : s2.drawn = s1.drawn
  os : s2.os = s1.os
  heap : ∀ b o, b < n → s1.heap.get? b = some o → s2.heap.get? b = some o
theorem call_set_lst {l : Addr} {items : Array Value} {Q : Value → Shared → Prop} (hl : s.heap.IsList l items) (Post : Heap → Prop)
    (hloop : ∀ R : Result → Shared → Prop, (∀ s', Mvd { s with heap := hp2 w s.heap l } s' s.heap.objs.size → Post s'.heap → R (.ok (.ret .none)) s') → codeAny (model P w) A.in1.in1 (.builtin "set.update.loop" ⟨[.ref s.heap.objs.size, .ref (s.heap.push (nset w)).objs.size], []⟩) R { s with heap := hp2 w s.heap l })
    (h : ∀ (h' : Heap) (tk : Nat), Post h' → (∀ b o, s.heap.get? b = some o → h'.get? b = some o) → Q (.ref s.heap.objs.size) { s with heap := h', toks := tk }) :
    wpAny (model P w) A (call (.type "set") [.ref l]) Q E s := by
  obtain ⟨c, tl, hmro⟩ := F.called_set.mro; have hmade := F.called_set.made; have hsub := F.called_set.sub
  refine wpAny_call (codeAny_of_tree ?_)
  show wpAny _ _ (callAny (Value.type "set") _) _ _ _
  refine (wpAny_pure ⟨Code.quiet_builtin _ (by decide +kernel), codeAny_builtin F.entry_type_call ?_⟩)
  rw [(Around.under_plain (weight_type_call_type "set" [.ref l] []) rfl)]
  have h1 := F.called_set.notType
  have h2 := F.called_set.canCreate; have hct := F.typeCall_set_1 (.ref l)
  repeat (any_goals first | assumption | wp_step)
  refine codeAny_mono (code_set_led1 (.ref l) (E := E) (Q₁ := fun x y => x = .ref s.heap.objs.size ∧ y = { s with heap := s.heap.push (nset w) }) ⟨rfl, rfl⟩) fun r s₁ hr => ?_
  cases r with
  | error e => exact hr
  | ok fl =>
  cases fl with
  | ret obj =>
    obtain ⟨rfl, rfl⟩ := hr
    have hS : (s.heap.push (nset w)).get? s.heap.objs.size = some (nset w) := Heap.get?_push_size _ rfl
    have hT : Shared.TypeIs { s with heap := s.heap.push (nset w) } (.ref s.heap.objs.size) "set" := ⟨_, hS, rfl⟩
    have hli := F.called_set.init.lookup; have hbi := F.called_set.init.bind (.ref s.heap.objs.size)
    repeat (any_goals first | assumption | wp_step)
    refine codeAny_mono (codeAny_call_builtin (R := wants (fun r y => r = .none ∧ ∃ h' tk, y = { s with heap := h', toks := tk } ∧ Post h' ∧ (∀ b o, s.heap.get? b = some o → h'.get? b = some o)) E) F.called_set.init.plain F.entry_set_init (check_set_init_1 hT ?_)) fun r₂ s₂ hr₂ => ?_
    · obtain ⟨⟨ocls, odict, odata, oslots⟩, hol, hcl, nl, hdl⟩ := hl
      simp only at hcl hdl; subst hcl hdl
      have hol' : (s.heap.push (nset w)).get? l = some { cls := .type "list", dict := odict, data := .seq items nl, slots := oslots } := Heap.get?_push_of_some _ hol
      have hsls := F.sub_list_set; have hslf := F.sub_list_frozenset
      have hne : (Value.type "list" == Value.type "dict") = false := by decide
      have hl1 : (s.heap.push (nset w)).IsList l items := ⟨_, hol', rfl, nl, rfl⟩
      unfold Builtin.«set.__init__» noKeywords Builtin.Frozenset.updateFrom
      generalize hPI : pyIter = PI
      wp_walk
      subst hPI
      refine wpAny_pyIter_list hl1 ?_
      refine wpAny_bind (wpAny_runValue (hloop _ fun s' mv hp => ?_))
      obtain ⟨h', g2, d', tk', os'⟩ := s'
      obtain ⟨eg, ed, eo, hk⟩ := mv
      simp only at eg ed eo hk hp
      subst eg ed eo
      show wpAny _ _ _ _ _ _
      refine wpAny_pure ?_
      show wpAny _ _ (ret Value.none) _ _ _
      exact wpAny_pure ⟨rfl, h', tk', rfl, hp, fun b o e => hk b o (Heap.lt_size e) (Heap.get?_push_of_some _ (Heap.get?_push_of_some _ e))⟩
    · cases r₂ with
      | error e => exact hr₂
      | ok fl₂ =>
        cases fl₂ with
        | ret r =>
          obtain ⟨rfl, h', tk, rfl, hp, hk'⟩ := hr₂
          repeat (any_goals first | assumption | wp_step)
          exact h _ _ hp hk'
        | _ => exact hr₂.elim
  | _ => exact hr.elim
end
end DL

/-! DS2: sets of ints, sorted. -/
namespace DL
open PySem PySem.Calls PySem.Spec PyProof.Rows L2
section
variable {P : Program} {w : World} {A : Around} {E : Value → Shared → Prop} {s : Shared}
/-- set(xs), xs a list of ints -/
theorem call_set_lstI {l : Addr} {items : Array Value} (ns : List Int) {Q : Value → Shared → Prop} (hh : A.handled = none) (hl : s.heap.IsList l items) (hit : IntsAre items.toList ns) (hb : ns.length + 1 < scanBound)
    (h : ∀ (h' : Heap) (tk c : Nat), SetR w h' s.heap.objs.size (fun j => decide (j ∈ ns)) c → (∀ b o, s.heap.get? b = some o → h'.get? b = some o) → Q (.ref s.heap.objs.size) { s with heap := h', toks := tk }) :
    wpAny (model P w) A (call (.type "set") [.ref l]) Q E s := by
  have hisz : items.size = ns.length := by have q := IntsAre.length hit; rwa [Array.length_toList] at q
  refine call_set_lst hl (fun h' => ∃ c, SetR w h' s.heap.objs.size (fun j => decide (j ∈ ns)) c) (fun R hR => ?_) fun h' tk ⟨c, hs⟩ k => h h' tk c hs k
  have hlS : l < s.heap.objs.size := by obtain ⟨o, ho, _⟩ := hl; exact Heap.lt_size ho
  have hh3 : A.in1.in1.in1.handled = none := by simp [hh]
  have hl2 : (hp2 w s.heap l).IsList l items := (hl.push _).push _
  have hneI : l ≠ (s.heap.push (nset w)).objs.size := by rw [Heap.size_push]; exact Nat.ne_of_lt (Nat.lt_succ_of_lt hlS)
  have hSf : s.heap.objs.size ∉ [(s.heap.push (nset w)).objs.size, l] := by
    rw [Heap.size_push]
    intro q
    rcases List.mem_cons.mp q with q | q
    · exact absurd q (Nat.ne_of_lt (Nat.lt_succ_self _))
    · rw [List.mem_singleton] at q; exact absurd q (Nat.ne_of_gt hlS)
  have hval : ∀ (i : Nat) (v : Value), items[i]? = some v → ∃ k t, ns[i]? = some k ∧ v = .int k t := fun i v hv => by
    have hi : i < ns.length := by rw [← hisz]; exact (Array.getElem?_eq_some_iff.mp hv).1
    obtain ⟨t, e⟩ := IntsAre.int_at hit i v (by rw [Array.getElem?_toList]; exact hv)
    exact ⟨ns[i], t, List.getElem?_eq_getElem hi, by rw [e, List.getD_eq_getElem?_getD, List.getElem?_eq_getElem hi]; rfl⟩
  have hget : (hp2 w s.heap l).get? s.heap.objs.size = some (nset w) := Heap.get?_push_of_some _ (Heap.get?_push_size _ rfl)
  refine set_update_ints ((Walks.list hh3 _ l hneI items).toS) s.heap.objs.size hSf ns hisz hb hval (items.size - 0) 0 _ (by omega) (Nat.zero_le _) ⟨⟨_, Heap.get?_push_size _ rfl, rfl, rfl⟩, hl2⟩ ⟨0, Nat.le_refl 0, setR_new_at hget⟩ fun s' c' hm hc' hS' => hR s' ⟨hm.gens, hm.drawn, hm.os, fun b o hb e => ?_⟩ ⟨c', hS'⟩
  refine hm.heap b o (fun q => ?_) e
  rcases List.mem_cons.mp q with q | q
  · exact absurd q (Nat.ne_of_lt hb)
  · rw [List.mem_singleton, Heap.size_push] at q; exact absurd q (Nat.ne_of_lt (Nat.lt_succ_of_lt hb))
end
/-! ### sorted(set(xs)), ints -/
def ddp : List Int → List Int
  | [] => []
  | x :: r => if x ∈ r then ddp r else x :: ddp r
theorem ddp_mem {x : Int} : ∀ {ns : List Int}, x ∈ ddp ns ↔ x ∈ ns
  | [] => Iff.rfl
  | y :: r => by
    unfold ddp
    by_cases h : y ∈ r
    · rw [if_pos h, ddp_mem, List.mem_cons]
      exact ⟨.inr, fun q => q.elim (fun e => by rw [e]; exact h) id⟩
    · rw [if_neg h, List.mem_cons, List.mem_cons, ddp_mem]
theorem ddp_nodup : ∀ ns : List Int, (ddp ns).Nodup
  | [] => List.nodup_nil
  | y :: r => by
    unfold ddp
    by_cases h : y ∈ r
    · rw [if_pos h]; exact ddp_nodup r
    · rw [if_neg h, List.nodup_cons]
      exact ⟨fun q => h (ddp_mem.mp q), ddp_nodup r⟩
theorem ddp_len : ∀ ns : List Int, (ddp ns).length ≤ ns.length
  | [] => Nat.le_refl _
  | y :: r => by
    unfold ddp
    have := ddp_len r
    split <;> simp only [List.length_cons] <;> omega
/-- the members, ascending -/
def usort (ns : List Int) : List Int := isort (ddp ns)
theorem usort_mem {x : Int} {ns : List Int} : x ∈ usort ns ↔ x ∈ ns := by unfold usort; rw [(isort_perm _).mem_iff, ddp_mem]
theorem usort_len (ns : List Int) : (usort ns).length ≤ ns.length := by unfold usort; rw [isort_len]; exact ddp_len ns
theorem usort_pw (ns : List Int) : (usort ns).Pairwise (· < ·) := by
  have h1 : (usort ns).Pairwise (· ≤ ·) := by
    exact isort_sorted (ddp ns)
  have h2 : (usort ns).Nodup := (isort_perm _).nodup_iff.mpr (ddp_nodup _)
  exact h1.imp₂ (fun a b q => by omega) h2
theorem pw_uniq : ∀ {l l' : List Int}, l.Pairwise (· < ·) → l'.Pairwise (· < ·) → (∀ x, x ∈ l ↔ x ∈ l') → l = l'
  | [], [], _, _, _ => rfl
  | [], b :: l', _, _, h => by have := (h b).mpr List.mem_cons_self; cases this
  | a :: l, [], _, _, h => by have := (h a).mp List.mem_cons_self; cases this
  | a :: l, b :: l', h1, h2, h => by
    rw [List.pairwise_cons] at h1 h2
    have e : a = b := by
      rcases List.mem_cons.mp ((h a).mp List.mem_cons_self) with q | q
      · exact q
      · have := h2.1 a q
        rcases List.mem_cons.mp ((h b).mpr List.mem_cons_self) with r | r
        · exact r.symm
        · have := h1.1 b r; omega
    subst e
    rw [pw_uniq h1.2 h2.2 fun x => ?_]
    constructor
    · intro hx
      rcases List.mem_cons.mp ((h x).mp (List.mem_cons_of_mem _ hx)) with q | q
      · have := h1.1 x hx; omega
      · exact q
    · intro hx
      rcases List.mem_cons.mp ((h x).mpr (List.mem_cons_of_mem _ hx)) with q | q
      · have := h2.1 x hx; omega
      · exact q
theorem sorted_setI {X : Cx} {pins : List (Addr × Obj)} {σ : L2.St} {H : Hp} {s : Shared} {ns : List Int} {c : Nat} {a : Addr} {Q : VK} (hc : X.calm = true) (I1 : Inv X pins σ H s) (R : SetR X.w s.heap a (fun j => decide (j ∈ ns)) c) (hz : (usort ns).length < 64)
    (hq : ∀ l, H l = none → Q (.ref l) (upd H l (.lst ((usort ns).map V.int)))) : wpAny (model X.prog X.w) X.A (call (.builtin "sorted") [.ref a]) (EP X pins σ Q) X.xe s := by
  have hcn : c = (usort ns).length := by
    obtain ⟨o, es, ep, t, ho, hex, hd, hgood, hnd, hmem, hb, hf, hn, _, _⟩ := R
    have := nodup_len hnd ((usort_pw ns).imp fun q => by omega) fun j => by rw [← hmem j, usort_mem]; simp
    rw [List.length_map, Array.length_toList] at this
    omega
  refine sorted_set R (I1.ok.hd hc) (by omega) fun s' p out c' ns' k1 g o hp hg hi hs hm hl => ?_
  have e1 : ns' = usort ns := pw_uniq hs (usort_pw ns) fun x => by rw [hm, usort_mem]; simp
  subst e1
  have hlen : ((usort ns).map V.int).length ≤ sizeLine := by rw [List.length_map, sizeLine_eq]; omega
  have hn : H p = none := I1.hok.fresh hp
  have J : Inv X pins σ (upd H p (.lst ((usort ns).map V.int))) { s with heap := s'.heap, gens := s'.gens, drawn := s'.drawn, toks := s'.toks } :=
    I1.call (ch := []) (Un.laid k1 hp hn) (I1.hok.laid k1 hp ⟨hlen, out.toList, c', vals_of_ints hi, hg⟩) (by rw [g]; exact I1.bare) (fun _ z => nomatch z)
  have e : s' = { s with heap := s'.heap, gens := s'.gens, drawn := s'.drawn, toks := s'.toks } := by
    obtain ⟨_, _, _, _, _⟩ := s'
    obtain ⟨_, _, _, _, _⟩ := s
    cases o
    rfl
  rw [e]
  exact ⟨.ref p, _, J, rfl, hq p hn⟩
/-- sorted(set(xs)), ints -/
def mSrtSet (m : ME (List DV)) : ME (List DV) := ME.bind m fun ds => fun _ st => match toIs ds with
  | some ns => if (usort ns).length < 64 ∧ ns.length ≤ 4000 then some ((usort ns).map DV.int, st) else none
  | none => none
section
variable {X : Cx} {e : Expr} {mq : ME (List DV)} {pos p : Pos}
theorem df_srtSet {p2 q : Pos} (hc : X.calm = true) (hm : X.mg "sorted" = none) (hm2 : X.mg "set" = none) (h : DQ X e mq) (hg : Gl X "sorted" := by rfl) (hg2 : Gl X "set" := by rfl) (na : starEach [e] X.env = (false, eval e X.env) :: starEach [] X.env := by rfl) : DF X (.Call (.Name "sorted" p) [.Call (.Name "set" p2) [e] [] q] [] pos) (mSrtSet mq) := by
  refine ⟨fun pins s σ H Q I ⟨e, st, μ, d, st', he, hs, hm', hq⟩ => ?_⟩
  obtain ⟨ds, st1, h1, hm'⟩ := bind_some hm'
  split at hm'
  case h_2 => cases hm'
  rename_i ns en
  split at hm'
  case isFalse => cases hm'
  rename_i hk
  cases hm'
  refine Call_ (ld_blt I hg hm boot_sorted ?_)
  refine callWith_builtin1 (PyProof.Rows.args_cons ?_ rfl) rfl rfl
  refine Call_ (ld_blt I hg2 hm2 boot_set ?_)
  refine callWith_type1 (PyProof.Rows.args_cons (thn (PE.run h pins s σ H (fun v H1 => ∃ ad, v = .ref ad ∧ (SqL X.K H1 ad (ns.map V.int) ∨ SqT X.K H1 ad (ns.map V.int)) ∧ ∀ l, H1 l = none → Q (.ref l) (upd H1 l (.lst ((usort ns).map V.int)))) I ⟨e, st, μ, _, _, he, hs, h1, fun H1 μ1 a vs x1 hs1 sq z rs => ?_⟩) fun u s1 ⟨v, H1, I1, r1, q1⟩ => PyProof.Rows.args_nil ?_) na) na rfl
  · refine ⟨a, rfl, by rw [← is_of rs en]; exact sq, fun l hl => ?_⟩
    obtain ⟨n1, n2⟩ := fresh_new x1 hs1 hl
    refine hq _ μ1 l _ (x1.trans (ext_new hl)) (hs1.new hl) n1 n2 upd_same ?_ (is_to _)
    rw [List.length_map, sizeLine_eq]
    omega
  · obtain ⟨ad, rfl, sq, q1⟩ := q1
    cases r1
    rcases sq with sq | sq
    · obtain ⟨its, rv, pl, hz⟩ := I1.list sq
      exact call_set_lstI ns (I1.ok.hd hc) pl.isList (by simpa using rv.ints) (by unfold scanBound; omega) fun h' tk c R k => PyProof.Rows.args_nil (sorted_setI hc (I1.kept fun b o e => k b o e) R hk.1 q1)
    · obtain ⟨its, rv, pt, hz⟩ := I1.tuple sq
      exact call_set_tupI ns (I1.ok.hd hc) (show s1.heap.IsTuple ad its.toArray from pt) (by simpa using rv.ints) (by unfold scanBound; omega) fun h' tk c R hcn k => PyProof.Rows.args_nil (sorted_setI hc (I1.kept fun b o e => k b o e) R hk.1 q1)
end
end DL

/-! PL1: the mirrors' own arithmetic: trims, steps, loops. -/
namespace DL
open PySem PySem.Spec PyProof.Rows L2

/-! ### what is left behind is cut off -/
def TrimOk (st : Sto) (d : DV) (st' : Sto) : Prop := st.length ≤ st'.length ∧ (∀ (l : Nat) (o : DO), l < st.length → st'[l]? = some o → st[l]? = some o ∨ ltO st.length o = true) ∧ ltD st.length d = true
open Classical in
noncomputable def trim (F : FM) : FM := fun ds st => match F ds st with
  | some (d, st') => if TrimOk st d st' then some (d, st'.take st.length) else none
  | none => none
theorem nrm_trim (F : FM) : NrmF F (trim F) := by
  intro ds st d st' h
  unfold trim at h
  split at h
  case h_2 => cases h
  rename_i d0 st0 h0
  split at h
  case isFalse => cases h
  rename_i ok
  cases h
  obtain ⟨h1, h2, h3⟩ := ok
  refine ⟨d, st0, h0, ?_⟩
  have e : st0.take st.length ++ st0.drop st.length = st0 := List.take_append_drop _ _
  have hl : (st0.take st.length).length = st.length := by rw [List.length_take]; omega
  have := Nrm.drop (st := st) (d := d) (st1 := st0.take st.length) (g := st0.drop st.length) hl (fun l o q => ?_) h3
  · rw [e] at this; exact this
  · have hlt : l < st.length := by
      have := (List.getElem?_eq_some_iff.mp q).1
      rw [hl] at this; exact this
    rw [List.getElem?_take_of_lt hlt] at q
    exact h2 l o hlt q
theorem trim_eq {F : FM} {ds : List DV} {st st1 g : Sto} {d : DV} (h : F ds st = some (d, st1 ++ g)) (hl : st1.length = st.length) (hc : ∀ (l : Nat) (o : DO), st1[l]? = some o → st[l]? = some o ∨ ltO st.length o = true) (hd : ltD st.length d = true) : trim F ds st = some (d, st1) := by
  unfold trim
  rw [h]
  have ok : TrimOk st d (st1 ++ g) := ⟨by rw [List.length_append]; omega, fun l o q h => by
    rw [List.getElem?_append_left (by omega)] at h
    exact hc l o h, hd⟩
  simp only [if_pos ok]
  rw [← hl, List.take_left]
theorem trim_pure {F : FM} {ds : List DV} {st g : Sto} {d : DV} (h : F ds st = some (d, st ++ g)) (hd : ltD st.length d = true) : trim F ds st = some (d, st) := trim_eq h rfl (fun _ _ q => .inl q) hd
theorem trim_same {F : FM} {ds : List DV} {st : Sto} {d : DV} (h : F ds st = some (d, st)) (hd : ltD st.length d = true) : trim F ds st = some (d, st) := trim_pure (g := []) (by rw [List.append_nil]; exact h) hd
open Classical in
/-- a new list is handed back -/
noncomputable def trimL (F : FM) : FM := fun ds st => match F ds st with
  | some (.ref l, st') => match st'[l]? with
    | some o => if st.length ≤ l ∧ (∀ (l : Nat) (o : DO), l < st.length → st'[l]? = some o → st[l]? = some o ∨ ltO st.length o = true) ∧ ltO st.length o = true then some (.ref st.length, st'.take st.length ++ [o]) else none
    | none => none
  | _ => none
theorem nrm_trimL (F : FM) : NrmF F (trimL F) := by
  intro ds st d st' h
  unfold trimL at h
  split at h
  case h_2 => cases h
  rename_i l st0 h0
  split at h
  case h_2 => cases h
  rename_i o ho
  split at h
  case isFalse => cases h
  rename_i ok
  cases h
  obtain ⟨h1, h2, h3⟩ := ok
  refine ⟨.ref l, st0, h0, ?_⟩
  have hlt0 := (List.getElem?_eq_some_iff.mp ho).1
  have e : st0.take st.length ++ st0.drop st.length = st0 := List.take_append_drop _ _
  have hl : (st0.take st.length).length = st.length := by rw [List.length_take]; omega
  have hg : (st0.drop st.length)[l - st.length]? = some o := by
    rw [List.getElem?_drop]
    have : st.length + (l - st.length) = l := by omega
    rw [this]; exact ho
  have := Nrm.one (st := st) (st1 := st0.take st.length) (g := st0.drop st.length) (l := l - st.length) (o := o) hl (fun l o q => ?_) hg h3
  · rw [e, hl] at this
    have e2 : st.length + (l - st.length) = l := by omega
    rw [e2] at this
    exact this
  · have hlt : l < st.length := by
      have := (List.getElem?_eq_some_iff.mp q).1
      rw [hl] at this; exact this
    rw [List.getElem?_take_of_lt hlt] at q
    exact h2 l o hlt q
theorem trimL_eq {F : FM} {ds : List DV} {st g : Sto} {l : Nat} {o : DO} (h : F ds st = some (.ref (st.length + l), st ++ g)) (hg : g[l]? = some o) (ho : ltO st.length o = true) : trimL F ds st = some (.ref st.length, st ++ [o]) := by
  unfold trimL
  rw [h]
  have e : (st ++ g)[st.length + l]? = some o := by
    rw [List.getElem?_append_right (Nat.le_add_right _ _), Nat.add_sub_cancel_left]; exact hg
  simp only [e]
  rw [if_pos ⟨Nat.le_add_right _ _, fun l o q h => .inl (by rw [List.getElem?_append_left q] at h; exact h), ho⟩, List.take_left]

mutual
theorem ltD_mono {n m : Nat} (h : n ≤ m) : ∀ {d : DV}, ltD n d = true → ltD m d = true
  | .non, _ => rfl
  | .bl _, _ => rfl
  | .int _, _ => rfl
  | .str _, _ => rfl
  | .tup xs, q => by simp only [ltD] at q ⊢; exact ltDs_mono h q
  | .ref l, q => by simp only [ltD, decide_eq_true_eq] at q ⊢; omega
  | .scr xs, q => by simp only [ltD] at q ⊢; exact ltDs_mono h q
theorem ltDs_mono {n m : Nat} (h : n ≤ m) : ∀ {d : List DV}, ltDs n d = true → ltDs m d = true
  | [], _ => rfl
  | x :: xs, q => by
    simp only [ltDs, Bool.and_eq_true] at q ⊢
    exact ⟨ltD_mono h q.1, ltDs_mono h q.2⟩
end
theorem ltDs_ints {n : Nat} (ns : List Int) : ltDs n (ns.map DV.int) = true := by
  induction ns with
  | nil => rfl
  | cons x r ih => simp [ltDs, ltD, ih]

/-! ### steps -/
theorem seq_nx {m n : MS} {e e1 : Env} {st st1 : Sto} (h : m e st = some (.nx, e1, st1)) : sSeq m n e st = n e1 st1 := by
  unfold sSeq; rw [h]
theorem seq_rt {m n : MS} {e e1 : Env} {st st1 : Sto} {d : DV} (h : m e st = some (.rt d, e1, st1)) : sSeq m n e st = some (.rt d, e1, st1) := by
  unfold sSeq; rw [h]
theorem if_t {t : ME Bool} {m n : MS} {e : Env} {st st1 : Sto} (h : t e st = some (true, st1)) : sIf t m n e st = m e st1 := by
  unfold sIf; rw [h]
theorem if_f {t : ME Bool} {m n : MS} {e : Env} {st st1 : Sto} (h : t e st = some (false, st1)) : sIf t m n e st = n e st1 := by
  unfold sIf; rw [h]
theorem body_rt {n : Nat} {m : MS} {ds : List DV} {st st1 : Sto} {d : DV} {e1 : Env} (h : m (ds.map some ++ List.replicate (n - ds.length) none) st = some (.rt d, e1, st1)) : bodyM n m ds st = some (d, st1) := by
  unfold bodyM; rw [h]
/-- a comprehension whose parts leave the store as it is -/
theorem lcD_pure {s : Option Nat} {all : List DV} {vs : List Nat} {t : CT} {mt : ME Bool} {me : ME DV} {e : Env} {st : Sto} (p : DV → Bool) (f : DV → DV) (hs : stays s all st) : ∀ (r : List DV), (∀ d ∈ r, ∃ e1, ctD t d (wipeE e vs) = some e1 ∧ mt e1 st = some (p d, st) ∧ (p d = true → me e1 st = some (f d, st))) →
    lcD s all vs t mt me e r st = some ((r.filter p).map f, st)
  | [], _ => by unfold lcD; rw [if_pos hs]; rfl
  | d :: r, h => by
    obtain ⟨e1, h1, h2, h3⟩ := h d List.mem_cons_self
    have ih := lcD_pure (s := s) (all := all) (vs := vs) (t := t) (mt := mt) (me := me) (e := e) p f hs r fun d hd => h d (List.mem_cons_of_mem _ hd)
    unfold lcD
    rw [if_pos hs]
    simp only [h1, h2]
    cases q : p d with
    | true => simp only [h3 q, ih, List.filter_cons, q, if_true, List.map_cons]
    | false => simp only [ih, List.filter_cons, q]; rfl
theorem stays_none {all : List DV} {st : Sto} : stays none all st := trivial
end DL

/-! PL2: written texts; loops with an invariant. -/
namespace DL
open PySem PySem.Spec PyProof.Rows L2

theorem ofS_inj {a b : String} (h : Str.ofString a = Str.ofString b) : a = b := by
  rw [Str.ofString_eq_toList, Str.ofString_eq_toList] at h
  have h1 : a.toList.map Char.toNat = b.toList.map Char.toNat := by
    have := congrArg (fun s : Str => s.cps.toList) h
    simpa using this
  have h2 : a.toList = b.toList := by
    refine List.map_inj_right (f := Char.toNat) (fun x y e => ?_) |>.mp h1
    exact Char.ext (UInt32.toNat_inj.mp e)
  exact String.toList_inj.mp h2
theorem ofS_eq {a b : String} : (Str.ofString a = Str.ofString b) = (a = b) := propext ⟨ofS_inj, fun h => by rw [h]⟩
theorem ofS_beq {a b : String} : (Str.ofString a == Str.ofString b) = decide (a = b) := by
  rw [Bool.eq_iff_iff]
  simp [ofS_eq]
theorem ofS_ok (s : String) : PyData.strOk (Str.ofString s) = true := by
  rw [Str.ofString_eq_toList]
  unfold PyData.strOk
  simp only [List.all_toArray, List.all_map, List.all_eq_true, Function.comp, decide_eq_true_eq]
  intro c _
  have := c.valid
  have h2 : c.toNat < 0x110000 := by
    rcases this with h | ⟨_, h⟩
    · have : c.toNat < 0xd800 := h
      omega
    · exact h
  exact h2
/-! ### one step of the mirrors -/
section
variable {α β : Type} {m : ME α} {f : α → ME β} {e : Env} {st : Sto} {ma mb mc : ME DV} {mq : ME (List DV)} {g g' : G2} {ta tb : ME Bool} {s1 s2 : MS} {ms : List (ME DV)} {d x y : DV}
theorem ev_bind : ME.bind m f e st = (match m e st with | none => none | some (a, s') => f a e s') := rfl
theorem ev_pure {a : α} : ME.pure a e st = some (a, st) := rfl
theorem ev_c : mC d e st = some (d, st) := rfl
theorem ev_var {i : Nat} : mVar i e st = (match e[i]? with | some (some d) => some (d, st) | _ => none) := rfl
theorem ev_bin : mBin g ma mb e st = (match ma e st with | none => none | some (x, s1) => (match mb e s1 with | none => none | some (y, s2) => g x y s2)) := by
  unfold mBin
  simp only [ev_bind]
  cases ma e st with
  | none => rfl
  | some p =>
    obtain ⟨d, s⟩ := p
    simp only
    cases mb e s with
    | none => rfl
    | some p => rfl
theorem ev_tst : mTst ma e st = (match ma e st with | none => none | some (d, s') => (match d with | .bl b => some (b, s') | _ => none)) := by
  unfold mTst
  simp only [ev_bind]
  cases ma e st with
  | none => rfl
  | some p =>
    obtain ⟨d, s⟩ := p
    first | rfl | (cases d <;> rfl)
theorem ev_chn : mChn g g' ma mb mc e st = (match ma e st with | none => none | some (x, s1) => (match mb e s1 with | none => none | some (y, s2) => (match g x y s2 with | none => none | some (z, s3) => (match z with | .bl true => (match mc e s3 with | none => none | some (w, s4) => g' y w s4) | .bl false => some (.bl false, s3) | _ => none)))) := by
  unfold mChn
  simp only [ev_bind]
  cases ma e st with
  | none => rfl
  | some p =>
    simp only
    cases mb e p.2 with
    | none => rfl
    | some q =>
      simp only
      cases g p.1 q.1 q.2 with
      | none => rfl
      | some r =>
        obtain ⟨z, s3⟩ := r
        cases z with
        | bl b =>
          cases b with
          | false => rfl
          | true =>
            simp only [ev_bind]
            cases mc e s3 with
            | none => rfl
            | some p => rfl
        | _ => rfl
theorem ev_andT : mAndT ta tb e st = (match ta e st with | none => none | some (b, s') => (match b with | true => tb e s' | false => some (false, s'))) := by
  unfold mAndT
  simp only [ev_bind]
  cases ta e st with
  | none => rfl
  | some p => obtain ⟨b, s⟩ := p; cases b <;> rfl
theorem ev_orT : mOrT ta tb e st = (match ta e st with | none => none | some (b, s') => (match b with | true => some (true, s') | false => tb e s')) := by
  unfold mOrT
  simp only [ev_bind]
  cases ta e st with
  | none => rfl
  | some p => obtain ⟨b, s⟩ := p; cases b <;> rfl
theorem ev_notT : mNotT ta e st = (match ta e st with | none => none | some (b, s') => some (!b, s')) := by
  unfold mNotT
  simp only [ev_bind]
  cases ta e st with
  | none => rfl
  | some p =>
    obtain ⟨d, s⟩ := p
    first | rfl | (cases d <;> rfl)
theorem ev_and : mAnd ma mb e st = (match ma e st with | none => none | some (b, s') => (match b with | .bl true => mb e s' | .bl false => some (.bl false, s') | _ => none)) := by
  unfold mAnd
  simp only [ev_bind]
  cases ma e st with
  | none => rfl
  | some p =>
    obtain ⟨b, s⟩ := p
    cases b with
    | bl b => cases b <;> rfl
    | _ => rfl
theorem ev_or : mOr ma mb e st = (match ma e st with | none => none | some (b, s') => (match b with | .bl true => some (.bl true, s') | .bl false => mb e s' | _ => none)) := by
  unfold mOr
  simp only [ev_bind]
  cases ma e st with
  | none => rfl
  | some p =>
    obtain ⟨b, s⟩ := p
    cases b with
    | bl b => cases b <;> rfl
    | _ => rfl
theorem ev_not : mNot ma e st = (match ma e st with | none => none | some (b, s') => (match b with | .bl b => some (.bl (!b), s') | _ => none)) := by
  unfold mNot
  simp only [ev_bind]
  cases ma e st with
  | none => rfl
  | some p =>
    obtain ⟨b, s⟩ := p
    cases b <;> rfl
theorem ev_if {a b : ME α} : mIf ta a b e st = (match ta e st with | none => none | some (c, s') => (match c with | true => a e s' | false => b e s')) := by
  unfold mIf
  simp only [ev_bind]
  cases ta e st with
  | none => rfl
  | some p => obtain ⟨b, s⟩ := p; cases b <;> rfl
theorem ev_args0 : mArgs [] e st = some ([], st) := rfl
theorem ev_args1 : mArgs (ma :: ms) e st = (match ma e st with | none => none | some (d, s1) => (match mArgs ms e s1 with | none => none | some (ds, s2) => some (d :: ds, s2))) := by
  show ME.bind ma (fun d => ME.bind (mArgs ms) fun ds => ME.pure (d :: ds)) e st = _
  simp only [ev_bind]
  cases ma e st with
  | none => rfl
  | some p =>
    obtain ⟨d, s⟩ := p
    simp only
    cases mArgs ms e s with
    | none => rfl
    | some p => rfl
theorem ev_tup : mTup ms e st = (match mArgs ms e st with | none => none | some (ds, s1) => some (.tup ds, s1)) := by
  unfold mTup
  simp only [ev_bind]
  cases mArgs ms e st with
  | none => rfl
  | some p =>
    obtain ⟨d, s⟩ := p
    first | rfl | (cases d <;> rfl)
theorem ev_new : mNew mq e st = (match mq e st with | none => none | some (ds, s1) => some (.ref s1.length, s1 ++ [.lst ds])) := by
  unfold mNew
  simp only [ev_bind]
  cases mq e st with
  | none => rfl
  | some p =>
    obtain ⟨d, s⟩ := p
    first | rfl | (cases d <;> rfl)
theorem ev_seq : mSeq ma e st = (match ma e st with | none => none | some (d, s1) => (match itemsOf s1 d with | some ds => some (ds, s1) | none => none)) := by
  unfold mSeq
  simp only [ev_bind]
  cases ma e st with
  | none => rfl
  | some p =>
    obtain ⟨d, s⟩ := p
    first | rfl | (cases d <;> rfl)
theorem ev_len : mLen mq e st = (match mq e st with | none => none | some (ds, s1) => some (.int ds.length, s1)) := by
  unfold mLen
  simp only [ev_bind]
  cases mq e st with
  | none => rfl
  | some p =>
    obtain ⟨d, s⟩ := p
    first | rfl | (cases d <;> rfl)
theorem ev_tupOf : mTupOf mq e st = (match mq e st with | none => none | some (ds, s1) => some (.tup ds, s1)) := by
  unfold mTupOf
  simp only [ev_bind]
  cases mq e st with
  | none => rfl
  | some p =>
    obtain ⟨d, s⟩ := p
    first | rfl | (cases d <;> rfl)
theorem ev_all : mAll mq e st = (match mq e st with | none => none | some (ds, s1) => (match toBls ds with | some bs => some (.bl (bs.all id), s1) | none => none)) := by
  unfold mAll
  simp only [ev_bind]
  cases mq e st with
  | none => rfl
  | some p =>
    obtain ⟨d, s⟩ := p
    first | rfl | (cases d <;> rfl)
theorem ev_any : mAny mq e st = (match mq e st with | none => none | some (ds, s1) => (match toBls ds with | some bs => some (.bl (bs.any id), s1) | none => none)) := by
  unfold mAny
  simp only [ev_bind]
  cases mq e st with
  | none => rfl
  | some p =>
    obtain ⟨d, s⟩ := p
    first | rfl | (cases d <;> rfl)
theorem ev_sum : mSum mq e st = (match mq e st with | none => none | some (ds, s1) => (match toIs ds with | some bs => some (.int bs.sum, s1) | none => none)) := by
  unfold mSum
  simp only [ev_bind]
  cases mq e st with
  | none => rfl
  | some p =>
    obtain ⟨d, s⟩ := p
    first | rfl | (cases d <;> rfl)
theorem ev_int : mInt ma e st = (match ma e st with | none => none | some (d, s1) => (match d with | .int i => some (.int i, s1) | .bl b => some (.int (if b then 1 else 0), s1) | _ => none)) := by
  unfold mInt
  simp only [ev_bind]
  cases ma e st with
  | none => rfl
  | some p => obtain ⟨b, s⟩ := p; cases b <;> rfl
theorem ev_min2 : mMin2 ma mb e st = (match ma e st with | none => none | some (x, s1) => (match mb e s1 with | none => none | some (y, s2) => (match x, y with | .int i, .int j => some (.int (if j < i then j else i), s2) | _, _ => none))) := by
  unfold mMin2
  simp only [ev_bind]
  cases ma e st with
  | none => rfl
  | some p =>
    simp only
    cases mb e p.2 with
    | none => rfl
    | some q =>
      obtain ⟨x, s1⟩ := p
      obtain ⟨y, s2⟩ := q
      cases x <;> cases y <;> rfl
theorem ev_isi {T : String} : mIsi T ma e st = (match ma e st with | none => none | some (d, s1) => (match tyN s1 d with | some t => some (.bl (isT T t), s1) | none => none)) := by
  unfold mIsi
  simp only [ev_bind]
  cases ma e st with
  | none => rfl
  | some p =>
    obtain ⟨d, s⟩ := p
    first | rfl | (cases d <;> rfl)
theorem ev_dnew : mDNew e st = some (.ref st.length, st ++ [.dct []]) := rfl
theorem ev_rg1 : mRg1 ma e st = (match ma e st with | none => none | some (d, s1) => (match d with | .int n => if okR 0 n = true then some (rgD 0 n, s1) else none | _ => none)) := by
  unfold mRg1
  simp only [ev_bind]
  cases ma e st with
  | none => rfl
  | some p =>
    obtain ⟨d, s⟩ := p
    first | rfl | (cases d <;> rfl)
theorem ev_sl {l h : MO} : mSl ma l h e st = (match ma e st with | none => none | some (x, s1) => (match l e s1 with | none => none | some (lo, s2) => (match h e s2 with | none => none | some (hi, s3) => gSl x lo hi s3))) := by
  unfold mSl
  simp only [ev_bind]
  cases ma e st with
  | none => rfl
  | some p =>
    obtain ⟨d, s⟩ := p
    simp only
    cases l e s with
    | none => rfl
    | some p =>
      obtain ⟨d2, s2⟩ := p
      simp only
      cases h e s2 with
      | none => rfl
      | some p => rfl
theorem ev_some : mSome ma e st = (match ma e st with | none => none | some (d, s1) => (match d with | .int i => some (some i, s1) | _ => none)) := by
  unfold mSome
  simp only [ev_bind]
  cases ma e st with
  | none => rfl
  | some p => obtain ⟨b, s⟩ := p; cases b <;> rfl
theorem ev_call {F : FM} : mCall F ms e st = (match mArgs ms e st with | none => none | some (ds, s1) => F ds s1) := by
  unfold mCall
  simp only [ev_bind]
  cases mArgs ms e st with
  | none => rfl
  | some p =>
    obtain ⟨d, s⟩ := p
    first | rfl | (cases d <;> rfl)
theorem ev_neg : mNeg ma e st = (match ma e st with | none => none | some (d, s1) => (match d with | .int i => some (.int (-i), s1) | _ => none)) := by
  unfold mNeg
  simp only [ev_bind]
  cases ma e st with
  | none => rfl
  | some p => obtain ⟨b, s⟩ := p; cases b <;> rfl
theorem ev_srt : mSrt mq e st = (match mq e st with | none => none | some (ds, s1) => (match toIs ds with | some ns => some ((isort ns).map DV.int, s1) | none => none)) := by
  unfold mSrt
  simp only [ev_bind]
  cases mq e st with
  | none => rfl
  | some p =>
    obtain ⟨d, s⟩ := p
    first | rfl | (cases d <;> rfl)
theorem ev_lenSet : mLenSet ma e st = (match ma e st with | none => none | some (d, s1) => (match d with | .tup ds => (match toIs ds with | some ns => if ns.Nodup ∧ ns.length ≤ 1000 then some (.int ns.length, s1) else none | none => none) | _ => none)) := by
  unfold mLenSet
  simp only [ev_bind]
  cases ma e st with
  | none => rfl
  | some p =>
    obtain ⟨d, s⟩ := p
    first | rfl | (cases d <;> rfl)
theorem ev_itV : itV ma e st = (match ma e st with | none => none | some (d, s1) => (match itemsOf s1 d with | some ds => some ((srcOf d, ds), s1) | none => none)) := by
  unfold itV
  simp only [ev_bind]
  cases ma e st with
  | none => rfl
  | some p =>
    obtain ⟨d, s⟩ := p
    first | rfl | (cases d <;> rfl)
theorem ev_itF : itF mq e st = (match mq e st with | none => none | some (ds, s1) => some ((none, ds), s1)) := by
  unfold itF
  simp only [ev_bind]
  cases mq e st with
  | none => rfl
  | some p =>
    obtain ⟨d, s⟩ := p
    first | rfl | (cases d <;> rfl)
theorem ev_kix {tbl : List (Str × DV)} : mKix tbl ma e st = (match ma e st with | none => none | some (d, s1) => (match d with | .str z => (lookS tbl z).map (·, s1) | _ => none)) := by
  unfold mKix
  simp only [ev_bind]
  cases ma e st with
  | none => rfl
  | some p =>
    obtain ⟨d, s⟩ := p
    first | rfl | (cases d <;> rfl)
theorem ev_kin {neg : Bool} {tbl : List (Str × DV)} : mKin neg tbl ma e st = (match ma e st with | none => none | some (d, s1) => gKin neg tbl d s1) := by
  unfold mKin
  simp only [ev_bind]
  cases ma e st with
  | none => rfl
  | some p =>
    obtain ⟨d, s⟩ := p
    first | rfl | (cases d <;> rfl)
theorem ev_kcall {tbl : List (Str × FM)} : mKcall tbl ma ms e st = (match ma e st with | none => none | some (d, s1) => (match d with | .str z => (match lookF tbl z with | some F => mCall F ms e s1 | none => none) | _ => none)) := by
  unfold mKcall
  simp only [ev_bind]
  cases ma e st with
  | none => rfl
  | some p =>
    obtain ⟨d, s⟩ := p
    first | rfl | (cases d <;> rfl)
theorem ev_skip : sSkip e st = some (.nx, e, st) := rfl
theorem ev_sseq : sSeq s1 s2 e st = (match s1 e st with | some (.nx, e1, st1) => s2 e1 st1 | r => r) := rfl
theorem ev_expr : sExpr ma e st = (match ma e st with | some (_, st1) => some (.nx, e, st1) | none => none) := rfl
theorem ev_ret : sRet ma e st = (match ma e st with | some (d, st1) => some (.rt d, e, st1) | none => none) := rfl
theorem ev_sif : sIf ta s1 s2 e st = (match ta e st with | some (true, st1) => s1 e st1 | some (false, st1) => s2 e st1 | none => none) := rfl
theorem ev_asg {g : MG} : sAsg g ma e st = (match ma e st with | some (d, st1) => (match g d e st1 with | some (e2, st2) => some (.nx, e2, st2) | none => none) | none => none) := rfl
theorem ev_set {i : Nat} : sSet i ma e st = (match ma e st with | some (d, st1) => some (.nx, e.set i (some d), st1) | none => none) := rfl
theorem ev_par {i j : Nat} : sPar i j ma mb e st = (match mArgs [ma, mb] e st with | some ([c, d], st1) => some (.nx, (e.set i (some c)).set j (some d), st1) | _ => none) := rfl
theorem ev_for {mi : MI} {g : MG} : sFor mi g s1 e st = (match mi e st with | some ((s, ds), st1) => forD s ds g s1 ds e st1 | none => none) := rfl
theorem ev_lc {mi : MI} {vs : List Nat} {t : CT} : mLc mi vs t ta ma e st = (match mi e st with | some ((s, ds), st1) => lcD s ds vs t ta ma e ds st1 | none => none) := rfl
@[simp] theorem ev_tgN {i : Nat} : tgN i d e st = some (e.set i (some d), st) := rfl
@[simp] theorem ev_tgT {gs : List MG} {ds : List DV} : tgT gs (.tup ds) e st = tgs gs ds e st := rfl
theorem ev_tgs0 : tgs [] [] e st = some (e, st) := rfl
theorem ev_tgs1 {g : MG} {gs : List MG} {ds : List DV} : tgs (g :: gs) (d :: ds) e st = (match g d e st with | some (e1, st1) => tgs gs ds e1 st1 | none => none) := rfl
theorem ev_body {n : Nat} {ds : List DV} : bodyM n s1 ds st = (match s1 (ds.map some ++ List.replicate (n - ds.length) none) st with | some (.rt d, _, st') => some (d, st') | some (.nx, _, st') => some (.non, st') | _ => none) := rfl
@[simp] theorem ev_addI {i j : Int} : gAdd (.int i) (.int j) st = some (.int (i + j), st) := rfl
@[simp] theorem ev_addT {a b : List DV} : gAdd (.tup a) (.tup b) st = if a.length + b.length ≤ LIM then some (.tup (a ++ b), st) else none := rfl
@[simp] theorem ev_addL {a b : Nat} : gAdd (.ref a) (.ref b) st = (match st[a]?, st[b]? with | some (.lst xs), some (.lst ys) => if xs.length + ys.length ≤ LIM then some (.ref st.length, st ++ [.lst (xs ++ ys)]) else none | _, _ => none) := rfl
@[simp] theorem ev_gI {c : Int → Int → Bool} {f : Int → Int → DV} {i j : Int} : gI c f (.int i) (.int j) st = if c i j = true then some (f i j, st) else none := rfl
@[simp] theorem ev_sub {i j : Int} : gSub (.int i) (.int j) st = some (.int (i - j), st) := rfl
@[simp] theorem ev_mul {i j : Int} : gMul (.int i) (.int j) st = if (small i || small j) = true then some (.int (i * j), st) else none := rfl
@[simp] theorem ev_mod {i j : Int} : gMod (.int i) (.int j) st = if decide (0 < j) = true then some (.int (i % j), st) else none := rfl
@[simp] theorem ev_div {i j : Int} : gDiv (.int i) (.int j) st = if (decide (0 < j) && decide (j < 1073741824)) = true then some (.int (i / j), st) else none := rfl
@[simp] theorem ev_lt {i j : Int} : gLt (.int i) (.int j) st = some (.bl (decide (i < j)), st) := rfl
@[simp] theorem ev_le {i j : Int} : gLe (.int i) (.int j) st = some (.bl (decide (i ≤ j)), st) := rfl
@[simp] theorem ev_gt {i j : Int} : gGt (.int i) (.int j) st = some (.bl (decide (j < i)), st) := rfl
@[simp] theorem ev_ge {i j : Int} : gGe (.int i) (.int j) st = some (.bl (decide (j ≤ i)), st) := rfl
@[simp] theorem ev_is : gIs x .non st = some (.bl (isN x), st) := rfl
@[simp] theorem ev_isnot : gIsNot x .non st = some (.bl (!isN x), st) := rfl
@[simp] theorem ev_eqI {i j : Int} : gEq (.int i) (.int j) st = some (.bl (decide (i = j)), st) := by
  show some (DV.bl (PyData.eqv (.int i) (.int j)), st) = _
  simp only [PyData.eqv]
  rw [Bool.beq_eq_decide_eq]
@[simp] theorem ev_eqS {a b : String} : gEq (.str (Str.ofString a)) (.str (Str.ofString b)) st = some (.bl (decide (a = b)), st) := by
  have h : ∀ a : String, toPS st (.str (Str.ofString a)) = some (.str (Str.ofString a)) := fun a => by
    show (if okD 8 (.str (Str.ofString a)) = true then some (toP (.str (Str.ofString a))) else none) = _
    rw [if_pos (by simp only [okD]; exact ofS_ok a)]
    simp only [toP]
  unfold gEq
  rw [h, h]
  simp only [PyData.eqv, ofS_beq]
@[simp] theorem ev_eqB {a b : Bool} : gEq (.bl a) (.bl b) st = some (.bl (a == b), st) := by
  show some (DV.bl (PyData.eqv (.bool a) (.bool b)), st) = _
  simp only [PyData.eqv]
@[simp] theorem ev_neI {i j : Int} : gNe (.int i) (.int j) st = some (.bl (!decide (i = j)), st) := by
  show some (DV.bl (!PyData.eqv (.int i) (.int j)), st) = _
  simp only [PyData.eqv]
  rw [Bool.beq_eq_decide_eq]
@[simp] theorem ev_neS {a b : String} : gNe (.str (Str.ofString a)) (.str (Str.ofString b)) st = some (.bl (!decide (a = b)), st) := by
  have h : ∀ a : String, toPS st (.str (Str.ofString a)) = some (.str (Str.ofString a)) := fun a => by
    show (if okD 8 (.str (Str.ofString a)) = true then some (toP (.str (Str.ofString a))) else none) = _
    rw [if_pos (by simp only [okD]; exact ofS_ok a)]
    simp only [toP]
  unfold gNe
  rw [h, h]
  simp only [PyData.eqv, ofS_beq]
@[simp] theorem ev_neB {a b : Bool} : gNe (.bl a) (.bl b) st = some (.bl (!(a == b)), st) := by
  show some (DV.bl (!PyData.eqv (.bool a) (.bool b)), st) = _
  simp only [PyData.eqv]
@[simp] theorem ev_inT {ds : List DV} : gIn x (.tup ds) st = if flatD x = true ∧ ds.all flatD = true then some (.bl (inD x ds), st) else none := rfl
@[simp] theorem ev_notinT {ds : List DV} : gNotIn x (.tup ds) st = if flatD x = true ∧ ds.all flatD = true then some (.bl (!inD x ds), st) else none := rfl
@[simp] theorem ev_ixT {ds : List DV} {i : Int} : gIx (.tup ds) (.int i) st = (atI ds i).map (·, st) := rfl
@[simp] theorem ev_ixL {l : Nat} {i : Int} : gIx (.ref l) (.int i) st = (match itemsOf st (.ref l) with | some ds => (atI ds i).map (·, st) | none => none) := rfl
@[simp] theorem ev_itemsT {ds : List DV} : itemsOf st (.tup ds) = some ds := rfl
@[simp] theorem ev_itemsS {ds : List DV} : itemsOf st (.scr ds) = some ds := rfl
theorem ev_itemsL {l : Nat} {ds : List DV} (h : st[l]? = some (.lst ds)) : itemsOf st (.ref l) = some ds := by
  show (match st[l]? with | some (.lst ds) => some ds | _ => none) = some ds
  rw [h]
@[simp] theorem ev_slT {ds : List DV} {lo hi : Option Int} : gSl (.tup ds) lo hi st = some (.tup (cutD ds lo hi), st) := rfl
@[simp] theorem ev_flatS {z : Str} : flatD (.str z) = true := rfl
@[simp] theorem ev_flatI {z : Int} : flatD (.int z) = true := rfl
@[simp] theorem ev_flatN : flatD .non = true := rfl
@[simp] theorem ev_flatB {z : Bool} : flatD (.bl z) = true := rfl
@[simp] theorem ev_inD0 : inD x [] = false := rfl
@[simp] theorem ev_inD1 {ds : List DV} : inD x (y :: ds) = (eqF y x || inD x ds) := rfl
@[simp] theorem ev_eqFS {a b : String} : eqF (.str (Str.ofString a)) (.str (Str.ofString b)) = decide (a = b) := ofS_beq
@[simp] theorem ev_eqFI {a b : Int} : eqF (.int a) (.int b) = decide (a = b) := by
  show (a == b) = _
  rw [Bool.beq_eq_decide_eq]
@[simp] theorem ev_eqFN {a : Int} : eqF .non (.int a) = false := rfl
@[simp] theorem ev_eqFN2 {a : Int} : eqF (.int a) .non = false := rfl
@[simp] theorem ev_eqFNN : eqF .non .non = true := rfl
@[simp] theorem ev_isNn : isN .non = true := rfl
@[simp] theorem ev_isNi {i : Int} : isN (.int i) = false := rfl
@[simp] theorem ev_isNb {i : Bool} : isN (.bl i) = false := rfl
@[simp] theorem ev_isNs {i : Str} : isN (.str i) = false := rfl
@[simp] theorem ev_isNt {i : List DV} : isN (.tup i) = false := rfl
@[simp] theorem ev_isNr {i : Nat} : isN (.ref i) = false := rfl
@[simp] theorem ev_tyn : tyN st .non = some "NoneType" := rfl
@[simp] theorem ev_tyi {i : Int} : tyN st (.int i) = some "int" := rfl
@[simp] theorem ev_tyb {i : Bool} : tyN st (.bl i) = some "bool" := rfl
@[simp] theorem ev_tys {i : Str} : tyN st (.str i) = some "str" := rfl
@[simp] theorem ev_tyt {i : List DV} : tyN st (.tup i) = some "tuple" := rfl
theorem ev_tyl {l : Nat} {ds : List DV} (h : st[l]? = some (.lst ds)) : tyN st (.ref l) = some "list" := by
  show (match st[l]? with | some (.lst _) => some "list" | some (.dct _) => some "dict" | _ => none) = _
  rw [h]
@[simp] theorem ev_isT {T t : String} : isT T t = (decide (t = T) || (decide (T = "int") && decide (t = "bool"))) := by
  unfold isT
  simp only [Bool.beq_eq_decide_eq]
theorem ev_at0 {α : Type} {a : α} {r : List α} : atI (a :: r) 0 = some a := atI_nat (j := 0) rfl
@[simp] theorem ev_srcT {ds : List DV} : srcOf (.tup ds) = none := rfl
@[simp] theorem ev_srcS {ds : List DV} : srcOf (.scr ds) = none := rfl
@[simp] theorem ev_srcL {l : Nat} : srcOf (.ref l) = some l := rfl
end
/-- a loop that goes through all its items -/
theorem forD_inv {s : Option Nat} {all : List DV} {g : MG} {m : MS} (P : Nat → Env → Sto → Prop) (r0 : List DV) (hs : ∀ i e st, P i e st → stays s all st)
    (step : ∀ i d e st, r0[i]? = some d → P i e st → ∃ e1 st1 e2 st2, g d e st = some (e1, st1) ∧ (m e1 st1 = some (.nx, e2, st2) ∨ m e1 st1 = some (.ct, e2, st2)) ∧ P (i + 1) e2 st2) :
    ∀ e st, P 0 e st → ∃ e' st', forD s all g m r0 e st = some (.nx, e', st') ∧ P r0.length e' st' := by
  have key : ∀ (k i : Nat) (e : Env) (st : Sto), i + k = r0.length → P i e st → ∃ e' st', forD s all g m (r0.drop i) e st = some (.nx, e', st') ∧ P r0.length e' st' := by
    intro k
    induction k with
    | zero =>
      intro i e st hi hp
      have ei : i = r0.length := by omega
      subst ei
      rw [List.drop_length]
      refine ⟨e, st, ?_, hp⟩
      unfold forD
      rw [if_pos (hs _ _ _ hp)]
    | succ k ih =>
      intro i e st hi hp
      have hlt : i < r0.length := by omega
      rw [List.drop_eq_getElem_cons hlt]
      obtain ⟨e1, st1, e2, st2, h1, h2, h3⟩ := step i r0[i] e st (List.getElem?_eq_getElem hlt) hp
      obtain ⟨e', st', h4, h5⟩ := ih (i + 1) e2 st2 (by omega) h3
      refine ⟨e', st', ?_, h5⟩
      unfold forD
      rw [if_pos (hs _ _ _ hp)]
      rcases h2 with h2 | h2 <;> simp only [h1, h2, h4]
  intro e st hp
  have := key r0.length 0 e st (by omega) hp
  simpa using this
/-- a loop that is left at the item i -/
theorem forD_rt {s : Option Nat} {all : List DV} {g : MG} {m : MS} (P : Nat → Env → Sto → Prop) (r0 : List DV) (j : Nat) (x : DV) (R : Env → Sto → Prop) (hs : ∀ i e st, P i e st → stays s all st) (hj : j < r0.length)
    (step : ∀ i d e st, i < j → r0[i]? = some d → P i e st → ∃ e1 st1 e2 st2, g d e st = some (e1, st1) ∧ (m e1 st1 = some (.nx, e2, st2) ∨ m e1 st1 = some (.ct, e2, st2)) ∧ P (i + 1) e2 st2)
    (last : ∀ d e st, r0[j]? = some d → P j e st → ∃ e1 st1 e2 st2, g d e st = some (e1, st1) ∧ m e1 st1 = some (.rt x, e2, st2) ∧ R e2 st2) :
    ∀ e st, P 0 e st → ∃ e' st', forD s all g m r0 e st = some (.rt x, e', st') ∧ R e' st' := by
  have key : ∀ (k i : Nat) (e : Env) (st : Sto), i + k = j → P i e st → ∃ e' st', forD s all g m (r0.drop i) e st = some (.rt x, e', st') ∧ R e' st' := by
    intro k
    induction k with
    | zero =>
      intro i e st hi hp
      have ei : i = j := by omega
      subst ei
      rw [List.drop_eq_getElem_cons hj]
      obtain ⟨e1, st1, e2, st2, h1, h2, h3⟩ := last _ e st (List.getElem?_eq_getElem hj) hp
      refine ⟨e2, st2, ?_, h3⟩
      unfold forD
      rw [if_pos (hs _ _ _ hp)]
      simp only [h1, h2]
    | succ k ih =>
      intro i e st hi hp
      have hlt : i < r0.length := by omega
      rw [List.drop_eq_getElem_cons hlt]
      obtain ⟨e1, st1, e2, st2, h1, h2, h3⟩ := step i r0[i] e st (by omega) (List.getElem?_eq_getElem hlt) hp
      obtain ⟨e', st', h4, h5⟩ := ih (i + 1) e2 st2 (by omega) h3
      refine ⟨e', st', ?_, h5⟩
      unfold forD
      rw [if_pos (hs _ _ _ hp)]
      rcases h2 with h2 | h2 <;> simp only [h1, h2, h4]
  intro e st hp
  have := key j 0 e st (by omega) hp
  simpa using this
theorem atI_ofNat {α : Type} {xs : List α} {j : Nat} : atI xs (j : Int) = xs[j]? := by
  cases h : xs[j]? with
  | some v => exact atI_nat h
  | none =>
    have hl : xs.length ≤ j := List.getElem?_eq_none_iff.mp h
    unfold atI ixN
    rw [if_pos (by omega), if_neg (by omega)]
    rfl
theorem rgD_get {n i : Nat} {d : DV} (h : (rgD 0 (n : Int))[i]? = some d) : i < n ∧ d = .int (i : Nat) := by
  unfold rgD at h
  rw [List.getElem?_map] at h
  have hi : i < ((n : Int) - 0).toNat := by
    cases q : (List.range ((n : Int) - 0).toNat)[i]? with
    | none => rw [q] at h; cases h
    | some v =>
      have := (List.getElem?_eq_some_iff.mp q).1
      simpa using this
  rw [List.getElem?_range hi] at h
  have h := Option.some.inj h
  exact ⟨by omega, by rw [← h]; simp⟩
theorem rgD_length (n : Nat) : (rgD 0 (n : Int)).length = n := by rw [rgD_len]; omega
theorem rgD_map (n : Nat) : rgD 0 (n : Int) = (List.range n).map fun k => DV.int (k : Nat) := by
  unfold rgD
  have : ((n : Int) - 0).toNat = n := by omega
  rw [this]
  simp
end DL

/-! PL3: objects that are called, told plainly. -/
namespace DL
open PySem PySem.Spec PyProof.Rows L2

/-- a state: a number, or a row of numbers -/
inductive SV where
  | n (i : Int) | l (ns : List Int)
  deriving DecidableEq
def SV.d : SV → DV
  | .n i => .int i
  | .l ns => .tup (ns.map DV.int)
def kinds5 : List String := ["cell", "counter", "line", "pile", "set"]
def kWords (kind : String) : List String :=
  if kind = "cell" then ["get", "put"] else if kind = "counter" then ["add", "get"] else if kind = "line" then ["put", "take"] else if kind = "pile" then ["put", "take"] else ["add", "has", "take"]
def initV (kind : String) : SV := if kind = "cell" ∨ kind = "counter" then .n 0 else .l []
def cellV (s : SV) (w : String) (a : Int) : SV × Int := match s with
  | .n i => if w = "get" then (.n i, i) else (.n a, 0)
  | s => (s, 0)
def counterV (s : SV) (w : String) (a : Int) : SV × Int := match s with
  | .n i => if w = "get" then (.n i, i) else (.n ((i + a) % 100), 0)
  | s => (s, 0)
def lineV (s : SV) (w : String) (a : Int) : SV × Int := match s with
  | .l ns => if w = "put" then (.l (ns ++ [a]), 0) else (match ns with | [] => (.l [], -1) | x :: r => (.l r, x))
  | s => (s, 0)
def pileV (s : SV) (w : String) (a : Int) : SV × Int := match s with
  | .l ns => if w = "put" then (.l (ns ++ [a]), 0) else (match ns.getLast? with | none => (.l [], -1) | some x => (.l ns.dropLast, x))
  | s => (s, 0)
def setV (s : SV) (w : String) (a : Int) : SV × Int := match s with
  | .l ns => if w = "add" ∧ a ∉ ns then (.l (isort (ns ++ [a])), 0) else if w = "take" then (.l (ns.filter fun x => x != a), if a ∈ ns then 1 else 0) else (.l ns, if a ∈ ns then 1 else 0)
  | s => (s, 0)
def callV (kind : String) (s : SV) (w : String) (a : Int) : SV × Int :=
  if kind = "cell" then cellV s w a else if kind = "counter" then counterV s w a else if kind = "line" then lineV s w a else if kind = "pile" then pileV s w a else setV s w a
/-- a state that a kind may have -/
def OkS (kind : String) (s : SV) : Prop := if kind = "cell" ∨ kind = "counter" then ∃ i, s = .n i else ∃ ns, s = .l ns ∧ ns.length ≤ 1000
theorem ltD_sv (n : Nat) (s : SV) : ltD n s.d = true := by
  cases s with
  | n i => rfl
  | l ns => simp only [SV.d, ltD]; exact ltDs_ints ns
@[simp] theorem toIs_map : ∀ ns : List Int, toIs (ns.map DV.int) = some ns
  | [] => rfl
  | n :: ns => by simp [toIs, toIs_map ns]
theorem flat_ints (ns : List Int) : (ns.map DV.int).all flatD = true := by
  induction ns with
  | nil => rfl
  | cons x r ih => simp only [List.map_cons, List.all_cons, ih, Bool.and_true]; rfl
theorem inD_ints (a : Int) (ns : List Int) : inD (.int a) (ns.map DV.int) = decide (a ∈ ns) := by
  induction ns with
  | nil => rfl
  | cons x r ih =>
    unfold inD at ih ⊢
    rw [List.map_cons, List.any_cons, ih]
    simp only [eqF, List.mem_cons]
    by_cases h : x = a
    · subst h; simp
    · have h2 : ¬ a = x := fun e => h e.symm
      simp [h, h2]
end DL

/-! PL4: mirrors run by wanted ends: simp goes from statement to statement and stops at loops and unknown calls. -/
namespace DL
open PySem PySem.Spec PyProof.Rows L2

/-- what depends on q: simp (with -dsimp) leaves q as it is -/
inductive Tk {β : Sort _} (q : β) : Type where
  | mk
def V {α : Type} (o : Option (α × Sto)) (Q : α → Sto → Prop) (_ : Tk Q := Tk.mk) : Prop := ∃ a s, o = some (a, s) ∧ Q a s
def W (o : Option (Fl × Env × Sto)) (Q : Fl → Env → Sto → Prop) (_ : Tk Q := Tk.mk) : Prop := ∃ f e s, o = some (f, e, s) ∧ Q f e s
def P1 {α : Type} (o : Option α) (Q : α → Prop) (_ : Tk Q := Tk.mk) : Prop := ∃ a, o = some a ∧ Q a
def kB (d : DV) (Q : Bool → Prop) (_ : Tk Q := Tk.mk) : Prop := ∃ b, d = .bl b ∧ Q b
def kI (d : DV) (Q : Int → Prop) (_ : Tk Q := Tk.mk) : Prop := ∃ b, d = .int b ∧ Q b
def kS (d : DV) (Q : Str → Prop) (_ : Tk Q := Tk.mk) : Prop := ∃ b, d = .str b ∧ Q b
def nxt (f : Fl) (A B : Prop) (_ : Tk A := Tk.mk) (_ : Tk B := Tk.mk) : Prop := match f with | .nx => A | _ => B
def cd (b : Bool) (A B : Prop) (_ : Tk A := Tk.mk) (_ : Tk B := Tk.mk) : Prop := match b with | true => A | false => B
def gd (c A : Prop) (_ : Tk A := Tk.mk) : Prop := c ∧ A
def rtn (f : Fl) (Q : DV → Prop) (_ : Tk Q := Tk.mk) : Prop := match f with | .rt d => Q d | .nx => Q .non | _ => False
/-- the end of one turn of a loop -/
def lp (f : Fl) (A : Prop) (B : Fl → Prop) (_ : Tk A := Tk.mk) (_ : Tk B := Tk.mk) : Prop := match f with | .nx => A | .ct => A | .bk => B .nx | .rt d => B (.rt d)
/-- what is worked out before it goes on -/
def le {α : Type} (x : α) (Q : α → Prop) (_ : Tk Q := Tk.mk) : Prop := Q x
@[simp] theorem le_eq {α : Type} {x : α} {Q : α → Prop} : le x Q = Q x := rfl
section
variable {α β : Type} {o o' : Option (α × Sto)} {Q : α → Sto → Prop} {p p' : Option α} {R : α → Prop} {d d' : DV} {f f' : Fl} {A B : Prop} {b b' : Bool} {c c' : Prop} {s : Sto} {a : α}
theorem V_ext {Q' : α → Sto → Prop} (h : ∀ a s, Q a s = Q' a s) : V o Q = V o Q' := by
  have e : Q = Q' := funext fun a => funext fun s => h a s
  subst e
  rfl
@[simp] theorem V_some : V (some (a, s)) Q = Q a s := propext ⟨fun ⟨_, _, h, q⟩ => by cases h; exact q, fun q => ⟨_, _, rfl, q⟩⟩
@[simp] theorem V_none : V (none : Option (α × Sto)) Q = False := propext ⟨fun ⟨_, _, h, q⟩ => (nomatch h), False.elim⟩
@[simp] theorem W_some {Q : Fl → Env → Sto → Prop} {e : Env} : W (some (f, e, s)) Q = Q f e s := propext ⟨fun ⟨_, _, _, h, q⟩ => by cases h; exact q, fun q => ⟨_, _, _, rfl, q⟩⟩
@[simp] theorem W_none {Q : Fl → Env → Sto → Prop} : W none Q = False := propext ⟨fun ⟨_, _, _, h, q⟩ => (nomatch h), False.elim⟩
@[simp] theorem P1_some : P1 (some a) R = R a := propext ⟨fun ⟨_, h, q⟩ => by cases h; exact q, fun q => ⟨_, rfl, q⟩⟩
@[simp] theorem P1_none : P1 (none : Option α) R = False := propext ⟨fun ⟨_, h, q⟩ => (nomatch h), False.elim⟩
@[simp] theorem kB_bl {R : Bool → Prop} : kB (.bl b) R = R b := propext ⟨fun ⟨_, h, q⟩ => by cases h; exact q, fun q => ⟨_, rfl, q⟩⟩
@[simp] theorem kI_int {R : Int → Prop} {i : Int} : kI (.int i) R = R i := propext ⟨fun ⟨_, h, q⟩ => by cases h; exact q, fun q => ⟨_, rfl, q⟩⟩
@[simp] theorem kS_str {R : Str → Prop} {i : Str} : kS (.str i) R = R i := propext ⟨fun ⟨_, h, q⟩ => by cases h; exact q, fun q => ⟨_, rfl, q⟩⟩
@[simp] theorem nxt_nx : nxt .nx A B = A := rfl
@[simp] theorem nxt_rt : nxt (.rt d) A B = B := rfl
@[simp] theorem nxt_bk : nxt .bk A B = B := rfl
@[simp] theorem nxt_ct : nxt .ct A B = B := rfl
@[simp] theorem cd_t : cd true A B = A := rfl
@[simp] theorem cd_f : cd false A B = B := rfl
@[simp] theorem gd_t : gd True A = A := propext ⟨fun h => h.2, fun h => ⟨trivial, h⟩⟩
@[simp] theorem rtn_rt {R : DV → Prop} : rtn (.rt d) R = R d := rfl
@[simp] theorem rtn_nx {R : DV → Prop} : rtn .nx R = R .non := rfl
@[simp] theorem lp_nx {R : Fl → Prop} : lp .nx A R = A := rfl
@[simp] theorem lp_ct {R : Fl → Prop} : lp .ct A R = A := rfl
@[simp] theorem lp_bk {R : Fl → Prop} : lp .bk A R = R .nx := rfl
@[simp] theorem lp_rt {R : Fl → Prop} : lp (.rt d) A R = R (.rt d) := rfl
theorem cd_of (h : b = true → A) (h' : b = false → B) : cd b A B := by
  cases b with
  | true => exact h rfl
  | false => exact h' rfl
theorem gd_h (h : c) : gd c A = A := propext ⟨fun q => q.2, fun q => ⟨h, q⟩⟩
theorem gd_n (h : ¬ c) : gd c A = False := propext ⟨fun q => h q.1, False.elim⟩
theorem gd_of (h : c) (h' : A) : gd c A := ⟨h, h'⟩
theorem V_of (h : o = some (a, s)) (q : Q a s) : V o Q := ⟨_, _, h, q⟩
theorem V.mono {Q' : α → Sto → Prop} (h : V o Q) (i : ∀ a s, Q a s → Q' a s) : V o Q' := by
  obtain ⟨a, s, h1, h2⟩ := h
  exact ⟨a, s, h1, i _ _ h2⟩
theorem W.mono {o : Option (Fl × Env × Sto)} {Q Q' : Fl → Env → Sto → Prop} (h : W o Q) (i : ∀ f e s, Q f e s → Q' f e s) : W o Q' := by
  obtain ⟨f, e, s, h1, h2⟩ := h
  exact ⟨f, e, s, h1, i _ _ _ h2⟩
@[simp] theorem V_guard [Decidable c] : V (if c then o else none) Q = gd c (V o Q) := by
  by_cases h : c
  · rw [if_pos h]; exact propext ⟨fun q => ⟨h, q⟩, fun q => q.2⟩
  · rw [if_neg h, V_none]; exact propext ⟨False.elim, fun q => h q.1⟩
@[simp] theorem V_map {p : Option α} {s : Sto} {Q : α → Sto → Prop} : V (p.map (fun x => (x, s))) Q = P1 p (fun x => Q x s) := by
  cases p with
  | none => simp
  | some a => simp
end
/-! ### one step of the mirrors -/
section
variable {α β : Type} {m : ME α} {f : α → ME β} {e : Env} {st : Sto} {ma mb mc : ME DV} {mq : ME (List DV)} {g g' : G2} {ta tb : ME Bool} {s1 s2 : MS} {ms : List (ME DV)} {d x y : DV} {Q : α → Sto → Prop} {R : β → Sto → Prop} {S : DV → Sto → Prop} {T : List DV → Sto → Prop} {B : Bool → Sto → Prop} {U : Fl → Env → Sto → Prop} {M : (Option Nat × List DV) → Sto → Prop} {I : Option Int → Sto → Prop}
theorem v_bind : V (ME.bind m f e st) R = V (m e st) (fun a s => V (f a e s) R) := by
  unfold ME.bind
  cases m e st with
  | none => simp
  | some p => obtain ⟨a, s⟩ := p; simp
@[simp ↓] theorem v_pure {a : α} : V (ME.pure a e st) Q = Q a st := V_some
@[simp ↓] theorem v_c : V (mC d e st) S = S d st := V_some
@[simp ↓] theorem v_var {i : Nat} : V (mVar i e st) S = P1 e[i]? (fun o => P1 o (fun d => S d st)) := by
  rw [ev_var]
  cases e[i]? with
  | none => simp
  | some o => cases o <;> simp
@[simp ↓] theorem v_bin : V (mBin g ma mb e st) S = V (ma e st) (fun x s => V (mb e s) (fun y s => V (g x y s) S)) := by
  unfold mBin
  rw [v_bind]
  refine V_ext fun x s => ?_
  rw [v_bind]
@[simp ↓] theorem v_tst : V (mTst ma e st) B = V (ma e st) (fun d s => kB d (fun b => B b s)) := by
  unfold mTst
  rw [v_bind]
  refine V_ext fun d s => ?_
  cases d <;> simp [kB]
@[simp ↓] theorem v_chn : V (mChn g g' ma mb mc e st) S = V (ma e st) (fun x s => V (mb e s) (fun y s => V (g x y s) (fun z s => kB z (fun b => cd b (V (mc e s) (fun w s => V (g' y w s) S)) (S (.bl false) s))))) := by
  unfold mChn
  rw [v_bind]
  refine V_ext fun x s => ?_
  rw [v_bind]
  refine V_ext fun y s => ?_
  rw [v_bind]
  refine V_ext fun z s => ?_
  cases z with
  | bl b =>
    rw [kB_bl]
    cases b with
    | false => exact V_some
    | true => exact v_bind
  | _ => simp [kB]
@[simp ↓] theorem v_andT : V (mAndT ta tb e st) B = V (ta e st) (fun b s => cd b (V (tb e s) B) (B false s)) := by
  unfold mAndT
  rw [v_bind]
  refine V_ext fun b s => ?_
  cases b <;> simp
@[simp ↓] theorem v_orT : V (mOrT ta tb e st) B = V (ta e st) (fun b s => cd b (B true s) (V (tb e s) B)) := by
  unfold mOrT
  rw [v_bind]
  refine V_ext fun b s => ?_
  cases b <;> simp
@[simp ↓] theorem v_notT : V (mNotT ta e st) B = V (ta e st) (fun b s => B (!b) s) := by
  unfold mNotT
  rw [v_bind]
  refine V_ext fun b s => ?_
  exact v_pure
@[simp ↓] theorem v_and : V (mAnd ma mb e st) S = V (ma e st) (fun z s => kB z (fun b => cd b (V (mb e s) S) (S (.bl false) s))) := by
  unfold mAnd
  rw [v_bind]
  refine V_ext fun z s => ?_
  cases z with
  | bl b => cases b <;> simp
  | _ => simp [kB]
@[simp ↓] theorem v_or : V (mOr ma mb e st) S = V (ma e st) (fun z s => kB z (fun b => cd b (S (.bl true) s) (V (mb e s) S))) := by
  unfold mOr
  rw [v_bind]
  refine V_ext fun z s => ?_
  cases z with
  | bl b => cases b <;> simp
  | _ => simp [kB]
@[simp ↓] theorem v_not : V (mNot ma e st) S = V (ma e st) (fun z s => kB z (fun b => S (.bl (!b)) s)) := by
  unfold mNot
  rw [v_bind]
  refine V_ext fun z s => ?_
  cases z <;> simp [kB]
@[simp ↓] theorem v_if {a b : ME α} : V (mIf ta a b e st) Q = V (ta e st) (fun c s => cd c (V (a e s) Q) (V (b e s) Q)) := by
  unfold mIf
  rw [v_bind]
  refine V_ext fun b s => ?_
  cases b <;> simp
@[simp ↓] theorem v_args0 : V (mArgs [] e st) T = T [] st := V_some
@[simp ↓] theorem v_args1 : V (mArgs (ma :: ms) e st) T = V (ma e st) (fun d s => V (mArgs ms e s) (fun ds s => T (d :: ds) s)) := by
  show V (ME.bind ma (fun d => ME.bind (mArgs ms) fun ds => ME.pure (d :: ds)) e st) T = _
  rw [v_bind]
  refine V_ext fun d s => ?_
  rw [v_bind]
  refine V_ext fun ds s => ?_
  exact V_some
@[simp ↓] theorem v_tup : V (mTup ms e st) S = V (mArgs ms e st) (fun ds s => S (.tup ds) s) := by
  unfold mTup
  rw [v_bind]
  refine V_ext fun ds s => ?_
  exact V_some
@[simp ↓] theorem v_new : V (mNew mq e st) S = V (mq e st) (fun ds s => le (DV.ref s.length, s ++ [DO.lst ds]) (fun p => S p.1 p.2)) := by
  unfold mNew
  rw [v_bind]
  refine V_ext fun ds s => ?_
  exact V_some
@[simp ↓] theorem v_seq : V (mSeq ma e st) T = V (ma e st) (fun d s => P1 (itemsOf s d) (fun ds => T ds s)) := by
  unfold mSeq
  rw [v_bind]
  refine V_ext fun d s => ?_
  cases itemsOf s d <;> simp
@[simp ↓] theorem v_len : V (mLen mq e st) S = V (mq e st) (fun ds s => S (.int ds.length) s) := by
  unfold mLen
  rw [v_bind]
  refine V_ext fun ds s => ?_
  exact V_some
@[simp ↓] theorem v_tupOf : V (mTupOf mq e st) S = V (mq e st) (fun ds s => S (.tup ds) s) := by
  unfold mTupOf
  rw [v_bind]
  refine V_ext fun ds s => ?_
  exact V_some
@[simp ↓] theorem v_all : V (mAll mq e st) S = V (mq e st) (fun ds s => P1 (toBls ds) (fun bs => S (.bl (bs.all id)) s)) := by
  unfold mAll
  rw [v_bind]
  refine V_ext fun ds s => ?_
  cases toBls ds <;> simp
@[simp ↓] theorem v_any : V (mAny mq e st) S = V (mq e st) (fun ds s => P1 (toBls ds) (fun bs => S (.bl (bs.any id)) s)) := by
  unfold mAny
  rw [v_bind]
  refine V_ext fun ds s => ?_
  cases toBls ds <;> simp
@[simp ↓] theorem v_sum : V (mSum mq e st) S = V (mq e st) (fun ds s => P1 (toIs ds) (fun bs => S (.int bs.sum) s)) := by
  unfold mSum
  rw [v_bind]
  refine V_ext fun ds s => ?_
  cases toIs ds <;> simp
/-- int(d) -/
def intD : DV → Option Int
  | .int i => some i
  | .bl b => some (if b then 1 else 0)
  | _ => none
@[simp] theorem intD_int {i : Int} : intD (.int i) = some i := rfl
@[simp] theorem intD_bl {b : Bool} : intD (.bl b) = some (if b then 1 else 0) := rfl
@[simp ↓] theorem v_int : V (mInt ma e st) S = V (ma e st) (fun d s => P1 (intD d) (fun i => S (.int i) s)) := by
  unfold mInt
  rw [v_bind]
  refine V_ext fun d s => ?_
  cases d <;> simp [intD]
@[simp ↓] theorem v_min2 : V (mMin2 ma mb e st) S = V (ma e st) (fun x s => V (mb e s) (fun y s => kI x (fun i => kI y (fun j => S (.int (if j < i then j else i)) s)))) := by
  unfold mMin2
  rw [v_bind]
  refine V_ext fun x s => ?_
  rw [v_bind]
  refine V_ext fun y s => ?_
  cases x <;> cases y <;> simp [kI]
@[simp ↓] theorem v_isi {Ty : String} : V (mIsi Ty ma e st) S = V (ma e st) (fun d s => P1 (tyN s d) (fun t => S (.bl (isT Ty t)) s)) := by
  unfold mIsi
  rw [v_bind]
  refine V_ext fun d s => ?_
  cases tyN s d <;> simp
@[simp ↓] theorem v_dnew : V (mDNew e st) S = le (DV.ref st.length, st ++ [DO.dct []]) (fun p => S p.1 p.2) := V_some
@[simp ↓] theorem v_rg1 : V (mRg1 ma e st) T = V (ma e st) (fun d s => kI d (fun n => gd (okR 0 n = true) (T (rgD 0 n) s))) := by
  unfold mRg1
  rw [v_bind]
  refine V_ext fun d s => ?_
  cases d <;> simp [kI, gd]
@[simp ↓] theorem v_rg2 : V (mRg2 ma mb e st) T = V (ma e st) (fun x s => V (mb e s) (fun y s => kI x (fun i => kI y (fun j => gd (okR i j = true) (T (rgD i j) s))))) := by
  unfold mRg2
  rw [v_bind]
  refine V_ext fun x s => ?_
  rw [v_bind]
  refine V_ext fun y s => ?_
  cases x <;> cases y <;> simp [kI, gd]
@[simp ↓] theorem v_some : V (mSome ma e st) I = V (ma e st) (fun d s => kI d (fun i => I (some i) s)) := by
  unfold mSome
  rw [v_bind]
  refine V_ext fun d s => ?_
  cases d <;> simp [kI]
@[simp ↓] theorem v_sl {l h : MO} : V (mSl ma l h e st) S = V (ma e st) (fun x s => V (l e s) (fun lo s => V (h e s) (fun hi s => V (gSl x lo hi s) S))) := by
  unfold mSl
  rw [v_bind]
  refine V_ext fun x s => ?_
  rw [v_bind]
  refine V_ext fun lo s => ?_
  rw [v_bind]
@[simp ↓] theorem v_call {F : FM} : V (mCall F ms e st) S = V (mArgs ms e st) (fun ds s => V (F ds s) S) := by
  unfold mCall
  rw [v_bind]
@[simp ↓] theorem v_neg : V (mNeg ma e st) S = V (ma e st) (fun d s => kI d (fun i => S (.int (-i)) s)) := by
  unfold mNeg
  rw [v_bind]
  refine V_ext fun d s => ?_
  cases d <;> simp [kI]
@[simp ↓] theorem v_srt : V (mSrt mq e st) T = V (mq e st) (fun ds s => P1 (toIs ds) (fun ns => T ((isort ns).map DV.int) s)) := by
  unfold mSrt
  rw [v_bind]
  refine V_ext fun d s => ?_
  cases toIs d <;> simp
/-- the items of a tuple of numbers -/
def tupI : DV → Option (List Int)
  | .tup ds => toIs ds
  | _ => none
@[simp ↓] theorem v_lenSet : V (mLenSet ma e st) S = V (ma e st) (fun d s => P1 (tupI d) (fun ns => gd (ns.Nodup ∧ ns.length ≤ 1000) (S (.int ns.length) s))) := by
  unfold mLenSet
  rw [v_bind]
  refine V_ext fun d s => ?_
  cases d with
  | tup ds => show V (match toIs ds with | some ns => _ | none => _) _ = P1 (toIs ds) _; cases toIs ds <;> simp [gd]
  | _ => simp [tupI]
@[simp ↓] theorem v_itV : V (itV ma e st) M = V (ma e st) (fun d s => P1 (itemsOf s d) (fun ds => M (srcOf d, ds) s)) := by
  unfold itV
  rw [v_bind]
  refine V_ext fun d s => ?_
  cases itemsOf s d <;> simp
@[simp ↓] theorem v_itF : V (itF mq e st) M = V (mq e st) (fun ds s => M (none, ds) s) := by
  unfold itF
  rw [v_bind]
  refine V_ext fun ds s => ?_
  exact V_some
@[simp ↓] theorem v_kix {tbl : List (Str × DV)} : V (mKix tbl ma e st) S = V (ma e st) (fun d s => kS d (fun z => P1 (lookS tbl z) (fun x => S x s))) := by
  unfold mKix
  rw [v_bind]
  refine V_ext fun d s => ?_
  cases d <;> simp [kS]
@[simp ↓] theorem v_kin {neg : Bool} {tbl : List (Str × DV)} : V (mKin neg tbl ma e st) S = V (ma e st) (fun d s => V (gKin neg tbl d s) S) := by
  unfold mKin
  rw [v_bind]
@[simp] theorem v_gkin {neg : Bool} {tbl : List (Str × DV)} {z : Str} : V (gKin neg tbl (.str z) st) S = P1 (lookS tbl z) (fun _ => S (.bl (!neg)) st) := by
  show V (match lookS tbl z with | some _ => _ | none => _) S = _
  cases lookS tbl z <;> simp
@[simp ↓] theorem v_kcall {tbl : List (Str × FM)} : V (mKcall tbl ma ms e st) S = V (ma e st) (fun d s => kS d (fun z => P1 (lookF tbl z) (fun F => V (mArgs ms e s) (fun ds s => V (F ds s) S)))) := by
  unfold mKcall
  rw [v_bind]
  refine V_ext fun d s => ?_
  cases d with
  | str z =>
    rw [kS_str]
    show V (match lookF tbl z with | some F => _ | none => _) S = _
    cases lookF tbl z with
    | none => simp
    | some F => simp
  | _ => simp [kS]
/-- the dict at a place -/
def dctOf (st : Sto) : DV → Option (List (Key × DV))
  | .ref l => match st[l]? with
    | some (.dct kvs) => some kvs
    | _ => none
  | _ => none
@[simp] theorem dctOf_ref {l : Nat} : dctOf st (.ref l) = (match st[l]? with | some (.dct kvs) => some kvs | _ => none) := rfl
@[simp ↓] theorem v_get2 : V (mGet2 ma mb mc e st) S = V (ma e st) (fun x s => P1 (dctOf s x) (fun _ => V (mb e s) (fun y s => V (mc e s) (fun z s => P1 (dctOf s x) (fun kvs => P1 (keyD y) (fun k => S ((valD kvs k).getD z) s)))))) := by
  unfold mGet2
  rw [v_bind]
  refine V_ext fun x s => ?_
  cases x with
  | ref l =>
    rw [dctOf_ref]
    simp only
    cases h : s[l]? with
    | none => simp
    | some c =>
      cases c with
      | lst _ => simp
      | dcn _ _ => simp
      | dct kvs =>
        simp only [P1_some]
        rw [v_bind]
        refine V_ext fun y s => ?_
        rw [v_bind]
        refine V_ext fun z s => ?_
        rw [dctOf_ref]
        cases s[l]? with
        | none => simp
        | some c =>
          cases c with
          | lst _ => simp
          | dcn _ _ => simp
          | dct kvs =>
            simp only [P1_some]
            cases keyD y <;> simp
  | _ => simp [dctOf]
@[simp ↓] theorem v_dictOf : V (mDictOf ma e st) S = V (ma e st) (fun x s => P1 (dctOf s x) (fun kvs => le (DV.ref s.length, s ++ [DO.dct kvs]) (fun p => S p.1 p.2))) := by
  unfold mDictOf
  rw [v_bind]
  refine V_ext fun x s => ?_
  cases x with
  | ref l =>
    rw [dctOf_ref]
    simp only
    cases h : s[l]? with
    | none => simp
    | some c => cases c <;> simp
  | _ => simp [dctOf]
/-- the list at a place, and the place -/
def lstOf (st : Sto) : DV → Option (Nat × List DV)
  | .ref l => match st[l]? with
    | some (.lst ds) => some (l, ds)
    | _ => none
  | _ => none
@[simp] theorem lstOf_ref {l : Nat} : lstOf st (.ref l) = (match st[l]? with | some (.lst ds) => some (l, ds) | _ => none) := rfl
@[simp ↓] theorem v_app : V (mApp ma mb e st) S = V (ma e st) (fun x s => P1 (itemsOf s x) (fun _ => V (mb e s) (fun y s => P1 (lstOf s x) (fun p => gd (p.2.length < LIM) (le (s.set p.1 (.lst (p.2 ++ [y]))) (fun s => S .non s)))))) := by
  unfold mApp
  rw [v_bind]
  refine V_ext fun x s => ?_
  cases itemsOf s x with
  | none => simp
  | some ds0 =>
    simp only [P1_some, v_bind]
    refine V_ext fun y s => ?_
    cases x with
    | ref l =>
      rw [lstOf_ref]
      simp only
      cases h : s[l]? with
      | none => simp
      | some c => cases c <;> simp [gd]
    | _ => simp [lstOf]
@[simp ↓] theorem v_pairs0 {T : List (Key × DV) → Sto → Prop} : V (mPairs [] e st) T = T [] st := V_some
@[simp ↓] theorem v_pairs1 {r : List (ME DV × ME DV)} {T : List (Key × DV) → Sto → Prop} : V (mPairs ((ma, mb) :: r) e st) T = V (ma e st) (fun x s => V (mb e s) (fun y s => V (mPairs r e s) (fun ps s => P1 (keyD x) (fun k => T ((k, y) :: ps) s)))) := by
  show V (ME.bind ma (fun x => ME.bind mb fun y => ME.bind (mPairs r) fun ps => fun _ st => match keyD x with | some k => some ((k, y) :: ps, st) | none => none) e st) T = _
  rw [v_bind]
  refine V_ext fun x s => ?_
  rw [v_bind]
  refine V_ext fun y s => ?_
  rw [v_bind]
  refine V_ext fun ps s => ?_
  cases keyD x <;> simp
@[simp ↓] theorem v_disp {l : List (ME DV × ME DV)} : V (mDisp l e st) S = V (mPairs l e st) (fun kvs s => gd (kvs.length ≤ 15) (le (DV.ref s.length, s ++ [DO.dct (mergeD [] kvs)]) (fun p => S p.1 p.2))) := by
  unfold mDisp
  rw [v_bind]
  refine V_ext fun kvs s => ?_
  by_cases h : kvs.length ≤ 15
  · rw [if_pos h, gd_h h, V_some, le_eq]
  · rw [if_neg h, gd_n h, V_none]
@[simp] theorem ev_dget {l : Nat} {st : Sto} {Q : DV → Sto → Prop} : V (gDGet (.ref l) y st) Q = P1 (dctOf st (.ref l)) (fun kvs => P1 (keyD y) (fun k => P1 (valD kvs k) (fun d => Q d st))) := by
  rw [dctOf_ref]
  show V (match st[l]?, keyD y with | some (.dct kvs), some k => (valD kvs k).map (·, st) | _, _ => none) Q = _
  cases st[l]? with
  | none => simp
  | some c =>
    cases c with
    | lst _ => simp
    | dcn _ _ => simp
    | dct kvs => cases keyD y <;> simp
@[simp] theorem cnt_int {k : Int} {ns : List Int} : cntD (.int k) ns = some (ns.count k : Nat) := rfl
@[simp] theorem cnt_non {ns : List Int} : cntD .non ns = some 0 := rfl
@[simp ↓] theorem v_cnt : V (mCnt ma mb e st) S = V (ma e st) (fun x s => P1 (itemsOf s x) (fun _ => V (mb e s) (fun y s => P1 (lstOf s x) (fun p => P1 (toIs p.2) (fun ns => P1 (cntD y ns) (fun i => S (.int i) s)))))) := by
  unfold mCnt
  rw [v_bind]
  refine V_ext fun x s => ?_
  cases itemsOf s x with
  | none => simp
  | some ds0 =>
    simp only [P1_some, v_bind]
    refine V_ext fun y s => ?_
    cases x with
    | ref l =>
      rw [lstOf_ref]
      cases h : s[l]? with
      | none => simp [h]
      | some c =>
        cases c with
        | lst ds =>
          simp only [P1_some, h]
          cases toIs ds with
          | none => simp
          | some ns => simp only [P1_some]; cases cntD y ns <;> simp
        | _ => simp [h]
    | _ => simp [lstOf]
@[simp ↓] theorem v_lc {mi : MI} {vs : List Nat} {t : CT} : V (mLc mi vs t ta ma e st) T = V (mi e st) (fun p s => V (lcD p.1 p.2 vs t ta ma e p.2 s) T) := by
  unfold mLc
  cases mi e st with
  | none => simp
  | some p => obtain ⟨⟨a, b⟩, c⟩ := p; simp
/-! ### statements -/
@[simp ↓] theorem w_skip : W (sSkip e st) U = U .nx e st := W_some
@[simp ↓] theorem w_seq : W (sSeq s1 s2 e st) U = W (s1 e st) (fun f e s => nxt f (W (s2 e s) U) (U f e s)) := by
  unfold sSeq
  cases s1 e st with
  | none => simp
  | some p => obtain ⟨f, e, s⟩ := p; cases f <;> simp
@[simp ↓] theorem w_expr : W (sExpr ma e st) U = V (ma e st) (fun _ s => U .nx e s) := by
  unfold sExpr
  cases ma e st with
  | none => simp
  | some p => obtain ⟨d, s⟩ := p; simp
@[simp ↓] theorem w_ret : W (sRet ma e st) U = V (ma e st) (fun d s => U (.rt d) e s) := by
  unfold sRet
  cases ma e st with
  | none => simp
  | some p => obtain ⟨d, s⟩ := p; simp
@[simp ↓] theorem w_if : W (sIf ta s1 s2 e st) U = V (ta e st) (fun b s => cd b (W (s1 e s) U) (W (s2 e s) U)) := by
  unfold sIf
  cases ta e st with
  | none => simp
  | some p => obtain ⟨d, s⟩ := p; cases d <;> simp
@[simp ↓] theorem w_asg {g : MG} : W (sAsg g ma e st) U = V (ma e st) (fun d s => V (g d e s) (fun e s => U .nx e s)) := by
  unfold sAsg
  cases ma e st with
  | none => simp
  | some p =>
    obtain ⟨d, s⟩ := p
    simp only [V_some]
    cases g d e s with
    | none => simp
    | some p => obtain ⟨d, s⟩ := p; simp
@[simp ↓] theorem w_set {i : Nat} : W (sSet i ma e st) U = V (ma e st) (fun d s => le (e.set i (some d)) (fun e => U .nx e s)) := by
  rw [show sSet i ma = sAsg (tgN i) ma from rfl, w_asg]
  exact V_ext fun d s => V_some
/-- two items -/
def two (ds : List DV) (S : DV → DV → Prop) : Prop := ∃ c d, ds = [c, d] ∧ S c d
@[simp] theorem two_of {c d : DV} {S : DV → DV → Prop} : two [c, d] S = S c d := propext ⟨fun ⟨_, _, h, q⟩ => by cases h; exact q, fun q => ⟨_, _, rfl, q⟩⟩
@[simp ↓] theorem w_par {i j : Nat} : W (sPar i j ma mb e st) U = V (ma e st) (fun c s => V (mb e s) (fun d s => le ((e.set i (some c)).set j (some d)) (fun e => U .nx e s))) := by
  unfold sPar
  rw [ev_args1]
  cases ma e st with
  | none => simp
  | some p =>
    obtain ⟨c, s⟩ := p
    simp only [V_some, ev_args1, ev_args0]
    cases mb e s with
    | none => simp
    | some p => obtain ⟨d, s⟩ := p; simp
@[simp ↓] theorem w_for {mi : MI} {g : MG} : W (sFor mi g s1 e st) U = V (mi e st) (fun p s => W (forD p.1 p.2 g s1 p.2 e s) U) := by
  unfold sFor
  cases mi e st with
  | none => simp
  | some p => obtain ⟨⟨a, b⟩, c⟩ := p; simp
@[simp ↓] theorem v_tgI {ma mb : ME DV} {U : Env → Sto → Prop} : V (tgI ma mb d e st) U = V (ma e st) (fun x s => V (mb e s) (fun y s => P1 (gSet x y d s) (fun s => U e s))) := by
  unfold tgI
  cases ma e st with
  | none => simp
  | some p =>
    obtain ⟨c, s⟩ := p
    simp only [V_some]
    cases mb e s with
    | none => simp
    | some p =>
      obtain ⟨d', s⟩ := p
      simp only [V_some]
      cases gSet c d' d s <;> simp
@[simp ↓] theorem v_tgs0 {U : Env → Sto → Prop} : V (tgs [] [] e st) U = U e st := V_some
@[simp ↓] theorem v_tgs1 {g : MG} {gs : List MG} {ds : List DV} {U : Env → Sto → Prop} : V (tgs (g :: gs) (d :: ds) e st) U = V (g d e st) (fun e s => V (tgs gs ds e s) U) := by
  rw [ev_tgs1]
  cases g d e st with
  | none => simp
  | some p => obtain ⟨d, s⟩ := p; simp
@[simp ↓] theorem v_body {n : Nat} {ds : List DV} : V (bodyM n s1 ds st) S = le (ds.map some ++ List.replicate (n - ds.length) none) (fun e => W (s1 e st) (fun f _ s => rtn f (fun d => S d s))) := by
  rw [le_eq]
  unfold bodyM
  cases s1 (ds.map some ++ List.replicate (n - ds.length) none) st with
  | none => simp
  | some p => obtain ⟨f, e, s⟩ := p; cases f <;> simp [rtn]
@[simp] theorem ctD_nm {i : Nat} : ctD (.nm i) d e = some (e.set i (some d)) := rfl
@[simp] theorem ctD_tp {is : List Nat} {ds : List DV} : ctD (.tp is) (.tup ds) e = setAll is ds e := rfl
@[simp] theorem setAll0 : setAll [] [] e = some e := rfl
@[simp] theorem setAll1 {i : Nat} {is : List Nat} {ds : List DV} : setAll (i :: is) (d :: ds) e = setAll is ds (e.set i (some d)) := rfl
@[simp] theorem wipe0 : wipeE e [] = e := rfl
@[simp] theorem wipe1 {i : Nat} {is : List Nat} : wipeE e (i :: is) = (wipeE e is).set i none := rfl
end
/-! ### loops -/
section
variable {s : Option Nat} {all : List DV}
theorem for_W {g : MG} {m : MS} {r : List DV} {e : Env} {st : Sto} {Q : Fl → Env → Sto → Prop} (P : Nat → Env → Sto → Prop) (h0 : P 0 e st) (hs : ∀ i e st, P i e st → stays s all st)
    (step : ∀ i d e st, r[i]? = some d → P i e st → V (g d e st) fun e1 s1 => W (m e1 s1) fun f e2 s2 => lp f (P (i + 1) e2 s2) (fun f => Q f e2 s2))
    (fin : ∀ e st, P r.length e st → Q .nx e st) : W (forD s all g m r e st) Q := by
  have key : ∀ (k i : Nat) (e : Env) (st : Sto), i + k = r.length → P i e st → W (forD s all g m (r.drop i) e st) Q := by
    intro k
    induction k with
    | zero =>
      intro i e st hi hp
      have ei : i = r.length := by omega
      subst ei
      rw [List.drop_length]
      unfold forD
      rw [if_pos (hs _ _ _ hp), W_some]
      exact fin _ _ hp
    | succ k ih =>
      intro i e st hi hp
      have hlt : i < r.length := by omega
      rw [List.drop_eq_getElem_cons hlt]
      obtain ⟨e1, s1, h1, f, e2, s2, h2, h3⟩ := step i r[i] e st (List.getElem?_eq_getElem hlt) hp
      unfold forD
      rw [if_pos (hs _ _ _ hp)]
      simp only [h1, h2]
      cases f with
      | nx => exact ih (i + 1) e2 s2 (by omega) h3
      | ct => exact ih (i + 1) e2 s2 (by omega) h3
      | bk => exact ⟨_, _, _, rfl, h3⟩
      | rt d => exact ⟨_, _, _, rfl, h3⟩
  have := key r.length 0 e st (by omega) h0
  simpa using this
theorem lc_V {vs : List Nat} {t : CT} {mt : ME Bool} {me : ME DV} {e : Env} {r : List DV} {st : Sto} {Q : List DV → Sto → Prop} (P : Nat → List DV → Sto → Prop) (h0 : P 0 [] st) (hs : ∀ i acc st, P i acc st → stays s all st)
    (step : ∀ i d acc st, r[i]? = some d → P i acc st → P1 (ctD t d (wipeE e vs)) fun e1 => V (mt e1 st) fun c s1 => cd c (V (me e1 s1) fun x s2 => P (i + 1) (acc ++ [x]) s2) (P (i + 1) acc s1))
    (fin : ∀ acc st, P r.length acc st → Q acc st) : V (lcD s all vs t mt me e r st) Q := by
  have key : ∀ (k i : Nat) (acc : List DV) (st : Sto), i + k = r.length → P i acc st → ∃ ys st', lcD s all vs t mt me e (r.drop i) st = some (ys, st') ∧ P r.length (acc ++ ys) st' := by
    intro k
    induction k with
    | zero =>
      intro i acc st hi hp
      have ei : i = r.length := by omega
      subst ei
      rw [List.drop_length]
      unfold lcD
      rw [if_pos (hs _ _ _ hp)]
      exact ⟨[], st, rfl, by simpa using hp⟩
    | succ k ih =>
      intro i acc st hi hp
      have hlt : i < r.length := by omega
      rw [List.drop_eq_getElem_cons hlt]
      obtain ⟨e1, h1, c, s1, h2, h3⟩ := step i r[i] acc st (List.getElem?_eq_getElem hlt) hp
      unfold lcD
      rw [if_pos (hs _ _ _ hp)]
      cases c with
      | true =>
        obtain ⟨x, s2, h4, h5⟩ := h3
        obtain ⟨ys, st', h6, h7⟩ := ih (i + 1) (acc ++ [x]) s2 (by omega) h5
        simp only [h1, h2, h4, h6]
        exact ⟨_, _, rfl, by simpa using h7⟩
      | false =>
        obtain ⟨ys, st', h6, h7⟩ := ih (i + 1) acc s1 (by omega) h3
        simp only [h1, h2, h6]
        exact ⟨_, _, rfl, h7⟩
  obtain ⟨ys, st', h1, h2⟩ := key r.length 0 [] st (by omega) h0
  rw [List.drop_zero] at h1
  exact ⟨ys, st', h1, fin _ _ (by simpa using h2)⟩
/-- a comprehension over what stands for xs, whose parts leave the store as it is -/
theorem lc_pure {β : Type} {vs : List Nat} {t : CT} {mt : ME Bool} {me : ME DV} {e : Env} {st : Sto} {Q : List DV → Sto → Prop} (xs : List β) (g : β → DV) (p : β → Bool) (f : β → DV) {r : List DV} (hr : r = xs.map g) (hs : stays s all st)
    (h : ∀ x ∈ xs, P1 (ctD t (g x) (wipeE e vs)) fun e1 => V (mt e1 st) fun c s1 => c = p x ∧ s1 = st ∧ (c = true → V (me e1 st) fun d s2 => d = f x ∧ s2 = st))
    (fin : Q ((xs.filter p).map f) st) : V (lcD s all vs t mt me e r st) Q := by
  subst hr
  refine ⟨_, _, ?_, fin⟩
  clear fin
  induction xs with
  | nil =>
    unfold lcD
    simp only [List.map_nil, if_pos hs, List.filter_nil]
  | cons x xs ih =>
    have ih := ih fun y hy => h y (List.mem_cons_of_mem _ hy)
    obtain ⟨e1, h1, c, s1, h2, rfl, rfl, h3⟩ := h x List.mem_cons_self
    rw [List.map_cons]
    unfold lcD
    rw [if_pos hs]
    simp only [h1, h2]
    cases q : p x with
    | true =>
      obtain ⟨d, s2, h4, rfl, rfl⟩ := h3 q
      simp only [h4, ih, List.filter_cons, q, if_true, List.map_cons]
    | false => simp only [ih, List.filter_cons, q]; rfl
/-- one that takes all -/
theorem lc_map {β : Type} {vs : List Nat} {t : CT} {me : ME DV} {e : Env} {st : Sto} {Q : List DV → Sto → Prop} (xs : List β) (g : β → DV) (f : β → DV) {r : List DV} (hr : r = xs.map g) (hs : stays s all st)
    (h : ∀ x ∈ xs, P1 (ctD t (g x) (wipeE e vs)) fun e1 => V (me e1 st) fun d s2 => d = f x ∧ s2 = st)
    (fin : Q (xs.map f) st) : V (lcD s all vs t (ME.pure true) me e r st) Q := by
  refine lc_pure xs g (fun _ => true) f hr hs (fun x hx => ?_) ?_
  · obtain ⟨e1, h1, h2⟩ := h x hx
    refine ⟨e1, h1, _, _, rfl, rfl, rfl, fun _ => h2⟩
  · rw [List.filter_eq_self.mpr fun _ _ => rfl]
    exact fin
theorem lc_nil {vs : List Nat} {t : CT} {mt : ME Bool} {me : ME DV} {e : Env} {st : Sto} {Q : List DV → Sto → Prop} : V (lcD s all vs t mt me e [] st) Q = gd (stays s all st) (Q [] st) := by
  unfold lcD
  by_cases h : stays s all st
  · rw [if_pos h, V_some, gd_h h]
  · rw [if_neg h, gd_n h, V_none]
theorem lc_cons {vs : List Nat} {t : CT} {mt : ME Bool} {me : ME DV} {e : Env} {d : DV} {r : List DV} {st : Sto} {Q : List DV → Sto → Prop} : V (lcD s all vs t mt me e (d :: r) st) Q = gd (stays s all st) (P1 (ctD t d (wipeE e vs)) fun e1 => V (mt e1 st) fun b s1 => cd b (V (me e1 s1) fun y s2 => V (lcD s all vs t mt me e r s2) fun ys s3 => Q (y :: ys) s3) (V (lcD s all vs t mt me e r s1) Q)) := by
  unfold lcD
  by_cases h : stays s all st
  · rw [if_pos h, gd_h h]
    cases ctD t d (wipeE e vs) with
    | none => simp
    | some e1 =>
      simp only [P1_some]
      cases mt e1 st with
      | none => simp
      | some p =>
        obtain ⟨b, s1⟩ := p
        cases b with
        | true =>
          simp only [V_some, cd_t]
          cases me e1 s1 with
          | none => simp
          | some p =>
            obtain ⟨y, s2⟩ := p
            simp only [V_some]
            cases lcD s all vs t mt me e r s2 with
            | none => simp
            | some p => obtain ⟨ys, s3⟩ := p; simp
        | false => simp only [V_some, cd_f]
  · rw [if_neg h, gd_n h, V_none]
@[simp] theorem stays_no {all : List DV} {st : Sto} : stays none all st = True := rfl
@[simp] theorem stays_at {l : Nat} {all : List DV} {st : Sto} : stays (some l) all st = (st[l]? = some (.lst all)) := rfl
/-- two for, whose parts leave the store as it is -/
theorem lc2_pure {β : Type} {vs vs1 : List Nat} {t t1 : CT} {mt mt1 : ME Bool} {mi1 : MI} {me : ME DV} {e : Env} {st : Sto} {Q : List DV → Sto → Prop} (xs : List β) (g : β → DV) (p : β → Bool) (F : β → List DV) {r : List DV} (hr : r = xs.map g) (hs : stays s all st)
    (h : ∀ x ∈ xs, P1 (ctD t (g x) (wipeE e vs)) fun e1 => V (mt e1 st) fun c s1 => c = p x ∧ s1 = st ∧ (c = true → V (mi1 e1 st) fun q s2 => s2 = st ∧ V (lcD q.1 q.2 vs1 t1 mt1 me e1 q.2 st) fun ds s3 => ds = F x ∧ s3 = st))
    (fin : Q ((xs.filter p).flatMap F) st) : V (lc2D s all vs t mt mi1 vs1 t1 mt1 me e r st) Q := by
  subst hr
  refine ⟨_, _, ?_, fin⟩
  clear fin
  induction xs with
  | nil =>
    unfold lc2D
    simp only [List.map_nil, if_pos hs, List.filter_nil, List.flatMap_nil]
  | cons x xs ih =>
    have ih := ih fun y hy => h y (List.mem_cons_of_mem _ hy)
    obtain ⟨e1, h1, c, s1, h2, rfl, rfl, h3⟩ := h x List.mem_cons_self
    rw [List.map_cons]
    unfold lc2D
    rw [if_pos hs]
    simp only [h1, h2]
    cases q : p x with
    | true =>
      obtain ⟨d, s2, h4, rfl, ds, s3, h5, rfl, rfl⟩ := h3 q
      simp only [h4, h5, ih, List.filter_cons, q, if_true, List.flatMap_cons]
    | false => simp only [ih, List.filter_cons, q]; rfl
theorem lc2_map {β : Type} {vs vs1 : List Nat} {t t1 : CT} {mt1 : ME Bool} {mi1 : MI} {me : ME DV} {e : Env} {st : Sto} {Q : List DV → Sto → Prop} (xs : List β) (g : β → DV) (F : β → List DV) (L : List DV) (hL : xs.flatMap F = L) {r : List DV} (hr : r = xs.map g) (hs : stays s all st)
    (h : ∀ x ∈ xs, P1 (ctD t (g x) (wipeE e vs)) fun e1 => V (mi1 e1 st) fun q s2 => s2 = st ∧ V (lcD q.1 q.2 vs1 t1 mt1 me e1 q.2 st) fun ds s3 => ds = F x ∧ s3 = st)
    (fin : Q L st) : V (lc2D s all vs t (ME.pure true) mi1 vs1 t1 mt1 me e r st) Q := by
  refine lc2_pure xs g (fun _ => true) F hr hs (fun x hx => ?_) ?_
  · obtain ⟨e1, h1, h2⟩ := h x hx
    exact ⟨e1, h1, _, _, rfl, rfl, rfl, fun _ => h2⟩
  · rw [List.filter_eq_self.mpr fun _ _ => rfl, hL]
    exact fin
@[simp ↓] theorem v_lc2 {mi mi1 : MI} {vs vs1 : List Nat} {t t1 : CT} {ta ta1 : ME Bool} {ma : ME DV} {e : Env} {st : Sto} {T : List DV → Sto → Prop} : V (mLc2 mi vs t ta mi1 vs1 t1 ta1 ma e st) T = V (mi e st) (fun p s => V (lc2D p.1 p.2 vs t ta mi1 vs1 t1 ta1 ma e p.2 s) (fun ys s => gd (ys.length ≤ LIM) (T ys s))) := by
  unfold mLc2
  cases mi e st with
  | none => simp
  | some p =>
    obtain ⟨⟨a, b⟩, c⟩ := p
    simp only [V_some]
    cases lc2D a b vs t ta mi1 vs1 t1 ta1 ma e b c with
    | none => simp
    | some p => obtain ⟨ys, s⟩ := p; simp [gd]
end
/-! ### ends of functions -/
/-- a store that has grown -/
def Pre (st s : Sto) : Prop := ∃ g, s = st ++ g
@[simp] theorem pre_st {st : Sto} : Pre st st = True := propext ⟨fun _ => trivial, fun _ => ⟨[], by simp⟩⟩
@[simp] theorem pre_app {st g : Sto} : Pre st (st ++ g) = True := propext ⟨fun _ => trivial, fun _ => ⟨g, rfl⟩⟩
theorem Pre.app {st s : Sto} (h : Pre st s) (g : Sto) : Pre st (s ++ g) := by
  obtain ⟨a, rfl⟩ := h
  exact ⟨a ++ g, by simp⟩
theorem Pre.trans {st s t : Sto} (h : Pre st s) (h' : Pre s t) : Pre st t := by
  obtain ⟨a, rfl⟩ := h'
  exact h.app a
theorem Pre.get {st s : Sto} (h : Pre st s) {l : Nat} {o : DO} (q : st[l]? = some o) : s[l]? = some o := by
  obtain ⟨g, rfl⟩ := h
  rw [List.getElem?_append_left (List.getElem?_eq_some_iff.mp q).1]; exact q
theorem Pre.set {st s : Sto} (h : Pre st s) {l : Nat} (hl : st.length ≤ l) (o : DO) : Pre st (s.set l o) := by
  obtain ⟨g, rfl⟩ := h
  exact ⟨g.set (l - st.length) o, List.set_append_right _ _ hl⟩
theorem Pre.len {st s : Sto} (h : Pre st s) : st.length ≤ s.length := by
  obtain ⟨g, rfl⟩ := h
  simp
theorem pre1 {st : Sto} : Pre st st := ⟨[], by simp⟩
theorem pre2 {st g : Sto} : Pre st (st ++ g) := ⟨g, rfl⟩
theorem trim_V {F : FM} {ds : List DV} {st : Sto} {d : DV} (h : V (F ds st) fun d' s' => d' = d ∧ Pre st s') (hd : ltD st.length d = true) : trim F ds st = some (d, st) := by
  obtain ⟨_, _, h1, rfl, g, rfl⟩ := h
  exact trim_pure h1 hd
theorem trimL_V {F : FM} {ds : List DV} {st : Sto} {o : DO} (h : V (F ds st) fun d' s' => ∃ l, d' = .ref (st.length + l) ∧ Pre st s' ∧ s'[st.length + l]? = some o) (ho : ltO st.length o = true) : trimL F ds st = some (.ref st.length, st ++ [o]) := by
  obtain ⟨_, _, h1, l, rfl, ⟨g, rfl⟩, h2⟩ := h
  refine trimL_eq h1 ?_ ho
  rw [List.getElem?_append_right (Nat.le_add_right _ _), Nat.add_sub_cancel_left] at h2
  exact h2
theorem app_get {st g : Sto} {k : Nat} : (st ++ g)[st.length + k]? = g[k]? := by
  rw [List.getElem?_append_right (Nat.le_add_right _ _), Nat.add_sub_cancel_left]
theorem app_get0 {st g : Sto} : (st ++ g)[st.length]? = g[0]? := app_get (k := 0)
@[simp] theorem ev_itemsR {st : Sto} {l : Nat} : itemsOf st (.ref l) = (match st[l]? with | some (.lst ds) => some ds | _ => none) := rfl
theorem app_old {st g : Sto} {l : Nat} {o : DO} (h : st[l]? = some o) : (st ++ g)[l]? = some o := by
  rw [List.getElem?_append_left (List.getElem?_eq_some_iff.mp h).1]; exact h
theorem app_set {st g : Sto} {k : Nat} {o : DO} : (st ++ g).set (st.length + k) o = st ++ g.set k o := by
  rw [List.set_append_right _ _ (Nat.le_add_right _ _), Nat.add_sub_cancel_left]
theorem app_set0 {st g : Sto} {o : DO} : (st ++ g).set st.length o = st ++ g.set 0 o := app_set (k := 0)
theorem app_oset {st g : Sto} {l : Nat} {o : DO} (h : l < st.length) : (st ++ g).set l o = st.set l o ++ g := List.set_append_left _ _ h
/-! ### slices, ends -/
theorem cut_from {α : Type} {xs : List α} {i : Int} (h : 0 ≤ i) : cutD xs (some i) none = xs.drop i.toNat := by
  unfold cutD HT.sIx
  simp only [if_neg (Int.not_lt.mpr h)]
  rw [List.take_of_length_le (by simp)]
  by_cases q : i.toNat ≤ xs.length
  · rw [Nat.min_eq_left q]
  · rw [Nat.min_eq_right (by omega), List.drop_eq_nil_of_le (Nat.le_refl _), List.drop_eq_nil_of_le (by omega)]
theorem cut_to {α : Type} {xs : List α} {i : Int} (h : 0 ≤ i) : cutD xs none (some i) = xs.take i.toNat := by
  unfold cutD HT.sIx
  simp only [if_neg (Int.not_lt.mpr h), List.drop_zero, Nat.sub_zero]
  by_cases q : i.toNat ≤ xs.length
  · rw [Nat.min_eq_left q]
  · rw [Nat.min_eq_right (by omega), List.take_of_length_le (Nat.le_refl _), List.take_of_length_le (by omega)]
theorem cut_last {α : Type} {xs : List α} : cutD xs none (some (-1)) = xs.dropLast := by
  unfold cutD HT.sIx
  simp only [if_pos (show (-1 : Int) < 0 by decide), List.drop_zero, Nat.sub_zero]
  have : (-1 + (xs.length : Int)).toNat = xs.length - 1 := by omega
  rw [this, List.dropLast_eq_take]
theorem at_last {α : Type} {xs : List α} : atI xs (-1) = xs.getLast? := by
  unfold atI ixN
  rw [if_neg (by decide), List.getLast?_eq_getElem?]
  cases xs with
  | nil => rfl
  | cons x r =>
    rw [if_pos (by simp; omega)]
    have : ((-1 : Int) + ((x :: r).length : Nat)).toNat = (x :: r).length - 1 := by omega
    simp only [Option.bind_some]
    first | rw [this] | (simp; done)
theorem at_nat {α : Type} {xs : List α} {i : Int} (h : 0 ≤ i) : atI xs i = xs[i.toNat]? := by
  obtain ⟨n, rfl⟩ := Int.eq_ofNat_of_zero_le h
  exact atI_ofNat
theorem rgD_pred (n : Nat) : rgD 0 ((n : Int) - 1) = (List.range (n - 1)).map fun k => DV.int (k : Nat) := by
  unfold rgD
  have : ((n : Int) - 1 - 0).toNat = n - 1 := by omega
  rw [this]
  simp
theorem rgD_lit (n : Nat) : rgD 0 (OfNat.ofNat (n + 2) : Int) = (List.range (n + 2)).map fun k => DV.int (k : Nat) := rgD_map (n + 2)
@[simp] theorem toBls_rep (n : Nat) (b : Bool) : toBls (List.replicate n (DV.bl b)) = some (List.replicate n b) := by
  induction n with
  | zero => rfl
  | succ n ih => simp [List.replicate_succ, toBls, ih]
theorem at_succ {α : Type} {xs : List α} {k : Nat} : atI xs ((k : Int) + 1) = xs[k + 1]? := by
  rw [show (k : Int) + 1 = ((k + 1 : Nat) : Int) by omega, atI_ofNat]
@[simp] theorem tyN_ref {st : Sto} {l : Nat} : tyN st (.ref l) = (match st[l]? with | some (.lst _) => some "list" | some (.dct _) => some "dict" | _ => none) := rfl
/-- the same data, nested at most so deep -/
inductive Same (st : Sto) : Nat → DV → DV → Prop
  | non (n : Nat) : Same st n .non .non
  | bl (n : Nat) (b : Bool) : Same st n (.bl b) (.bl b)
  | int (n : Nat) (i : Int) : Same st n (.int i) (.int i)
  | str (n : Nat) (s : String) : Same st n (.str (Str.ofString s)) (.str (Str.ofString s))
  | tup {n : Nat} {xs ys : List DV} (hl : xs.length = ys.length) (hz : xs.length ≤ 1000) (h : ∀ (i : Nat) (x y : DV), xs[i]? = some x → ys[i]? = some y → Same st n x y) : Same st (n + 1) (.tup xs) (.tup ys)
  | lst {n a b : Nat} {xs ys : List DV} (h1 : st[a]? = some (.lst xs)) (h2 : st[b]? = some (.lst ys)) (hl : xs.length = ys.length) (hz : xs.length ≤ 1000) (h : ∀ (i : Nat) (x y : DV), xs[i]? = some x → ys[i]? = some y → Same st n x y) : Same st (n + 1) (.ref a) (.ref b)
theorem Same.pre {st s : Sto} (p : Pre st s) {n : Nat} {a b : DV} (h : Same st n a b) : Same s n a b := by
  induction h with
  | non n => exact .non n
  | bl n b => exact .bl n b
  | int n i => exact .int n i
  | str n s => exact .str n s
  | tup hl hz _ ih => exact .tup hl hz ih
  | lst h1 h2 hl hz _ ih => exact .lst (p.get h1) (p.get h2) hl hz ih
theorem Same.mono {st : Sto} {n m : Nat} {a b : DV} (h : Same st n a b) : n ≤ m → Same st m a b := by
  induction h generalizing m with
  | non n => exact fun _ => .non m
  | bl n b => exact fun _ => .bl m b
  | int n i => exact fun _ => .int m i
  | str n s => exact fun _ => .str m s
  | tup hl hz _ ih =>
    intro hm
    obtain ⟨m, rfl⟩ : ∃ k, m = k + 1 := ⟨m - 1, by omega⟩
    exact .tup hl hz fun i x y h1 h2 => ih i x y h1 h2 (by omega)
  | lst h1 h2 hl hz _ ih =>
    intro hm
    obtain ⟨m, rfl⟩ : ∃ k, m = k + 1 := ⟨m - 1, by omega⟩
    exact .lst h1 h2 hl hz fun i x y h1 h2 => ih i x y h1 h2 (by omega)
theorem same_two {st : Sto} {n : Nat} {a b c d : DV} (h1 : Same st n a c) (h2 : Same st n b d) : ∀ (i : Nat) (x y : DV), [a, b][i]? = some x → [c, d][i]? = some y → Same st n x y := by
  intro i x y hx hy
  match i, hx, hy with
  | 0, hx, hy => cases hx; cases hy; exact h1
  | 1, hx, hy => cases hx; cases hy; exact h2
theorem same_ints {st : Sto} {ns : List Int} : ∀ (i : Nat) (x y : DV), (ns.map DV.int)[i]? = some x → (ns.map DV.int)[i]? = some y → Same st 0 x y := by
  intro i x y hx hy
  rw [hx] at hy
  cases hy
  rw [List.getElem?_map] at hx
  obtain ⟨c, _, rfl⟩ := Option.map_eq_some_iff.mp hx
  exact .int 0 c
@[simp] theorem ev_slS {st : Sto} {ds : List DV} {lo hi : Option Int} : gSl (.scr ds) lo hi st = some (.ref st.length, st ++ [.lst (cutD ds lo hi)]) := rfl
@[simp] theorem ev_slR {st : Sto} {l : Nat} {lo hi : Option Int} : gSl (.ref l) lo hi st = (match st[l]? with | some (.lst ds) => some (.ref st.length, st ++ [.lst (cutD ds lo hi)]) | _ => none) := by
  show (match itemsOf st (.ref l) with | some ds => some (DV.ref st.length, st ++ [DO.lst (cutD ds lo hi)]) | none => none) = _
  rw [ev_itemsR]
  cases st[l]? with
  | none => rfl
  | some c => cases c <;> rfl
end DL

/-! PL5: calls of objects, told plainly. -/
namespace DL
open PySem PySem.Spec PyProof.Rows L2

/-! ### states -/
/-- a state of a kind, with at most so many items -/
def Okk (kind : String) (n : Nat) (s : SV) : Prop := if kind = "cell" ∨ kind = "counter" then ∃ i, s = .n i ∧ 0 ≤ i ∧ i ≤ 99 else ∃ ns, s = .l ns ∧ ns.length ≤ n ∧ ∀ x ∈ ns, 0 ≤ x ∧ x ≤ 99
theorem Okk.ok {kind : String} {n : Nat} {s : SV} (h : Okk kind n s) (hn : n ≤ 1000) : OkS kind s := by
  unfold Okk at h
  unfold OkS
  by_cases q : kind = "cell" ∨ kind = "counter"
  · rw [if_pos q] at h ⊢
    obtain ⟨i, rfl, _⟩ := h
    exact ⟨i, rfl⟩
  · rw [if_neg q] at h ⊢
    obtain ⟨ns, rfl, h, _⟩ := h
    exact ⟨ns, rfl, by omega⟩
theorem Okk.mono {kind : String} {n m : Nat} {s : SV} (h : Okk kind n s) (hn : n ≤ m) : Okk kind m s := by
  unfold Okk at h ⊢
  by_cases q : kind = "cell" ∨ kind = "counter"
  · rw [if_pos q] at h ⊢
    exact h
  · rw [if_neg q] at h ⊢
    obtain ⟨ns, rfl, h, h2⟩ := h
    exact ⟨ns, rfl, by omega, h2⟩
theorem okk_init (kind : String) (n : Nat) : Okk kind n (initV kind) := by
  unfold Okk initV
  split
  · exact ⟨0, rfl, by decide, by decide⟩
  · exact ⟨[], rfl, Nat.zero_le _, by simp⟩
theorem isort_mem {x : Int} {ns : List Int} : x ∈ isort ns ↔ x ∈ ns := (isort_perm ns).mem_iff
theorem call_ok {kind : String} {n : Nat} {s : SV} {w : String} {a : Int} (hk : kind ∈ kinds5) (h : Okk kind n s) (ha : 0 ≤ a ∧ a ≤ 99) : Okk kind (n + 1) (callV kind s w a).1 ∧ -1 ≤ (callV kind s w a).2 ∧ (callV kind s w a).2 ≤ 99 := by
  simp only [kinds5, List.mem_cons, List.not_mem_nil, or_false] at hk
  rcases hk with rfl | rfl | rfl | rfl | rfl
  · obtain ⟨i, rfl, h1, h2⟩ := h
    by_cases hw : w = "get"
    · exact ⟨⟨i, by simp [callV, cellV, hw], h1, h2⟩, by simp [callV, cellV, hw]; omega⟩
    · exact ⟨⟨a, by simp [callV, cellV, hw], ha⟩, by simp [callV, cellV, hw]⟩
  · obtain ⟨i, rfl, h1, h2⟩ := h
    by_cases hw : w = "get"
    · exact ⟨⟨i, by simp [callV, counterV, hw], h1, h2⟩, by simp [callV, counterV, hw]; omega⟩
    · exact ⟨⟨(i + a) % 100, by simp [callV, counterV, hw], by omega, by omega⟩, by simp [callV, counterV, hw]⟩
  · obtain ⟨ns, rfl, h1, h2⟩ := h
    by_cases hw : w = "put"
    · refine ⟨⟨ns ++ [a], by simp [callV, lineV, hw], by simp; omega, fun x hx => ?_⟩, by simp [callV, lineV, hw]⟩
      rcases List.mem_append.mp hx with hx | hx
      · exact h2 x hx
      · rw [List.mem_singleton.mp hx]; exact ha
    · cases ns with
      | nil => exact ⟨⟨[], by simp [callV, lineV, hw], by simp, by simp⟩, by simp [callV, lineV, hw]⟩
      | cons x r =>
        have hx := h2 x List.mem_cons_self
        exact ⟨⟨r, by simp [callV, lineV, hw], by simp at h1; omega, fun y hy => h2 y (List.mem_cons_of_mem _ hy)⟩, by simp [callV, lineV, hw]; omega⟩
  · obtain ⟨ns, rfl, h1, h2⟩ := h
    by_cases hw : w = "put"
    · refine ⟨⟨ns ++ [a], by simp [callV, pileV, hw], by simp; omega, fun x hx => ?_⟩, by simp [callV, pileV, hw]⟩
      rcases List.mem_append.mp hx with hx | hx
      · exact h2 x hx
      · rw [List.mem_singleton.mp hx]; exact ha
    · cases q : ns.getLast? with
      | none => exact ⟨⟨[], by simp [callV, pileV, hw, q], by simp, by simp⟩, by simp [callV, pileV, hw, q]⟩
      | some x =>
        have hx := h2 x (List.mem_of_getLast? q)
        exact ⟨⟨ns.dropLast, by simp [callV, pileV, hw, q], by simp; omega, fun y hy => h2 y (List.dropLast_subset _ hy)⟩, by simp [callV, pileV, hw, q]; omega⟩
  · obtain ⟨ns, rfl, h1, h2⟩ := h
    have hb : ∀ p : Prop, ∀ [Decidable p], -1 ≤ (if p then (1 : Int) else 0) ∧ (if p then (1 : Int) else 0) ≤ 99 := fun p _ => by split <;> omega
    by_cases hw : w = "add" ∧ a ∉ ns
    · refine ⟨⟨isort (ns ++ [a]), by simp [callV, setV, hw], by rw [isort_len]; simp; omega, fun x hx => ?_⟩, by simp [callV, setV, hw]⟩
      rcases List.mem_append.mp (isort_mem.mp hx) with hx | hx
      · exact h2 x hx
      · rw [List.mem_singleton.mp hx]; exact ha
    · have e : callV "set" (.l ns) w a = if w = "take" then (.l (ns.filter fun x => x != a), if a ∈ ns then 1 else 0) else (.l ns, if a ∈ ns then 1 else 0) := by
        show setV (.l ns) w a = _
        unfold setV
        simp only [if_neg hw]
      rw [e]
      by_cases hw2 : w = "take"
      · rw [if_pos hw2]
        exact ⟨⟨_, rfl, Nat.le_trans (List.length_filter_le _ _) (by omega), fun y hy => h2 y (List.mem_filter.mp hy).1⟩, hb _⟩
      · rw [if_neg hw2]
        exact ⟨⟨_, rfl, by omega, h2⟩, hb _⟩
theorem sv_inj {s t : SV} : s.d = t.d ↔ s = t := by
  constructor
  · intro h
    cases s with
    | n i => cases t with
      | n j => cases h; rfl
      | l _ => cases h
    | l ns => cases t with
      | n j => cases h
      | l ms =>
        have h : DV.tup (ns.map DV.int) = DV.tup (ms.map DV.int) := h
        have h := DV.tup.inj h
        rw [List.map_inj_right (fun x y e => DV.int.inj e) |>.mp h]
  · rintro rfl; rfl
theorem eqv_ints : ∀ a b : List Int, PyData.eqvAll (toPs (a.map DV.int)) (toPs (b.map DV.int)) = decide (a = b)
  | [], [] => rfl
  | [], _ :: _ => rfl
  | _ :: _, [] => rfl
  | x :: a, y :: b => by
    show (PyData.eqv (.int x) (.int y) && PyData.eqvAll _ _) = _
    rw [eqv_ints a b]
    simp only [PyData.eqv, Bool.beq_eq_decide_eq]
    by_cases h : x = y <;> simp [h]
theorem eqv_sv (s t : SV) : PyData.eqv (toP s.d) (toP t.d) = decide (s = t) := by
  cases s with
  | n i => cases t with
    | n j =>
      show (i == j) = _
      rw [Bool.beq_eq_decide_eq]
      by_cases h : i = j <;> simp [h]
    | l _ => rfl
  | l ns => cases t with
    | n j => rfl
    | l ms =>
      show PyData.eqvAll (toPs (ns.map DV.int)) (toPs (ms.map DV.int)) = _
      rw [eqv_ints]
      simp
theorem ok_ints (n : Nat) (ns : List Int) : (ns.map DV.int).all (okD n) = true := by
  induction ns with
  | nil => rfl
  | cons x r ih =>
    rw [List.map_cons, List.all_cons, ih, Bool.and_true]
    cases n <;> rfl
theorem ok_sv (n : Nat) (s : SV) : okD (n + 1) s.d = true := by
  cases s with
  | n i => rfl
  | l ns => show (ns.map DV.int).all (okD n) = true; exact ok_ints _ _
theorem toPS_sv (st : Sto) (s : SV) : toPS st s.d = some (toP s.d) := by
  have h := ok_sv 7 s
  cases s with
  | n i => rfl
  | l ns =>
    show (if okD 8 _ = true then some (toP _) else none) = _
    rw [if_pos h]
@[simp] theorem ev_eqSV {s t : SV} {st : Sto} : gEq s.d t.d st = some (.bl (decide (s = t)), st) := by
  unfold gEq
  rw [toPS_sv, toPS_sv]
  simp only [eqv_sv]

/-! ### a run of calls -/
def dC (c : String × Int) : DV := .tup [.str (Str.ofString c.1), .int c.2]
def runV (kind : String) : SV → List (String × Int) → SV × List Int
  | s, [] => (s, [])
  | s, c :: r => ((runV kind (callV kind s c.1 c.2).1 r).1, (callV kind s c.1 c.2).2 :: (runV kind (callV kind s c.1 c.2).1 r).2)
theorem run_snoc (kind : String) (c : String × Int) : ∀ (r : List (String × Int)) (s : SV), runV kind s (r ++ [c]) = ((callV kind (runV kind s r).1 c.1 c.2).1, (runV kind s r).2 ++ [(callV kind (runV kind s r).1 c.1 c.2).2])
  | [], s => rfl
  | d :: r, s => by
    rw [List.cons_append]
    unfold runV
    rw [run_snoc kind c r]
    rfl
theorem run_len (kind : String) : ∀ (r : List (String × Int)) (s : SV), (runV kind s r).2.length = r.length
  | [], s => rfl
  | d :: r, s => by
    unfold runV
    simp [run_len kind r]
theorem run_ok {kind : String} (hk : kind ∈ kinds5) : ∀ (r : List (String × Int)) (n : Nat) (s : SV), Okk kind n s → (∀ c ∈ r, 0 ≤ c.2 ∧ c.2 ≤ 99) → Okk kind (n + r.length) (runV kind s r).1 ∧ ∀ x ∈ (runV kind s r).2, -1 ≤ x ∧ x ≤ 99
  | [], n, s, h, _ => ⟨h, by simp [runV]⟩
  | d :: r, n, s, h, ha => by
    obtain ⟨h1, h2⟩ := call_ok (w := d.1) (a := d.2) hk h (ha d List.mem_cons_self)
    obtain ⟨h3, h4⟩ := run_ok hk r (n + 1) _ h1 fun c hc => ha c (List.mem_cons_of_mem _ hc)
    unfold runV
    refine ⟨by rw [List.length_cons, show n + (r.length + 1) = n + 1 + r.length by omega]; exact h3, fun x hx => ?_⟩
    rcases List.mem_cons.mp hx with rfl | hx
    · exact h2
    · exact h4 x hx
theorem run_take {kind : String} {s : SV} {r : List (String × Int)} {i : Nat} {c : String × Int} (h : r[i]? = some c) : runV kind s (r.take (i + 1)) = ((callV kind (runV kind s (r.take i)).1 c.1 c.2).1, (runV kind s (r.take i)).2 ++ [(callV kind (runV kind s (r.take i)).1 c.1 c.2).2]) := by
  rw [List.take_add_one, h]
  exact run_snoc kind c _ s

/-! ### calls of a history -/
structure CR where
  hand : Int
  thing : Int
  kind : String
  word : String
  arg : Int
  ans : Option Int
  beg : Int
  fin : Option Int
def oI : Option Int → DV
  | none => .non
  | some i => .int i
@[simp] theorem oI_none : oI none = .non := rfl
@[simp] theorem oI_some {i : Int} : oI (some i) = .int i := rfl
@[simp] theorem isN_oI {o : Option Int} : isN (oI o) = o.isNone := by cases o <;> rfl
@[simp ↓] theorem in_ans {o : Option Int} {t : Int} {st : Sto} : gIn (oI o) (.tup [.non, .int t]) st = some (.bl (decide (o = none ∨ o = some t)), st) := by
  cases o with
  | none => rfl
  | some i =>
    by_cases h : t = i
    · subst h; simp
    · have h2 : ¬ i = t := fun e => h e.symm
      simp [h, h2, eqF]
@[simp ↓] theorem notin_ans {o : Option Int} {t : Int} {st : Sto} : gNotIn (oI o) (.tup [.non, .int t]) st = some (.bl (!decide (o = none ∨ o = some t)), st) := by
  cases o with
  | none => rfl
  | some i =>
    by_cases h : t = i
    · subst h; simp
    · have h2 : ¬ i = t := fun e => h e.symm
      simp [h, h2, eqF]
def CR.d (c : CR) : DV := .tup [.int c.hand, .int c.thing, .str (Str.ofString c.kind), .str (Str.ofString c.word), .int c.arg, oI c.ans, .int c.beg, oI c.fin]
def bareW (kind word : String) : Bool := decide (word = "get") || (decide (word = "take") && (decide (kind = "line") || decide (kind = "pile")))
structure OkC (c : CR) : Prop where
  hand : 1 ≤ c.hand ∧ c.hand ≤ 9
  thing : 0 ≤ c.thing ∧ c.thing ≤ 9
  kind : c.kind ∈ kinds5
  word : c.word ∈ kWords c.kind
  arg : 0 ≤ c.arg ∧ c.arg ≤ 99
  bare : bareW c.kind c.word = true → c.arg = 0
  beg : 0 ≤ c.beg ∧ c.beg ≤ 1000
  both : c.ans = none ↔ c.fin = none
  ans : ∀ a, c.ans = some a → -1 ≤ a ∧ a ≤ 99
  fin : ∀ f, c.fin = some f → c.beg + 1 ≤ f ∧ f ≤ 1000
def mcfV (a b : CR) (i j : Nat) (bt : Bool) : Bool := if bt then (match a.fin with | some f => decide (f < b.beg) | none => false) else decide (a.hand = b.hand) && decide (i < j)

def finL (c : CR) : List Int := match c.fin with
  | some f => [f]
  | none => []
def timesOf (cs : List CR) : List Int := cs.flatMap fun c => c.beg :: finL c
/-- a history of calls without a fault -/
structure OkH (cs : List CR) : Prop where
  ok : ∀ c ∈ cs, OkC c
  times : (timesOf cs).Nodup
  sorted : ∀ (k : Nat) (a b : CR), cs[k]? = some a → cs[k + 1]? = some b → a.beg ≤ b.beg
  hand : ∀ (i j : Nat) (a b : CR), i < j → cs[i]? = some a → cs[j]? = some b → a.hand = b.hand → ∃ f, a.fin = some f ∧ f ≤ b.beg
  kind : ∀ (i j : Nat) (a b : CR), i < j → cs[i]? = some a → cs[j]? = some b → a.thing = b.thing → a.kind = b.kind
/-! ### states of objects -/
abbrev SS := List (Int × SV)
def encS (S : SS) : List (Key × DV) := S.map fun p => (.inl p.1, p.2.d)
def lookA (S : SS) (k : Int) : Option SV := (S.find? fun p => decide (p.1 = k)).map (·.2)
def putA (S : SS) (k : Int) (v : SV) : SS := if (lookA S k).isSome then S.map (fun p => if p.1 = k then (p.1, v) else p) else S ++ [(k, v)]
theorem val_enc (S : SS) (k : Int) : valD (encS S) (.inl k) = (lookA S k).map SV.d := by
  unfold valD encS lookA
  rw [List.find?_map, Option.map_map, Option.map_map]
  have : ((fun kv : Key × DV => decide (kv.1 = .inl k)) ∘ fun p : Int × SV => ((.inl p.1 : Key), p.2.d)) = fun p : Int × SV => decide (p.1 = k) := by
    funext p
    simp
  rw [this]
  rfl
theorem put_enc (S : SS) (k : Int) (v : SV) : putD (encS S) (.inl k) v.d = encS (putA S k v) := by
  unfold putD putA
  rw [val_enc]
  cases h : lookA S k with
  | none => simp [encS]
  | some w =>
    simp only [Option.map_some, Option.isSome_some, if_true]
    unfold encS
    rw [List.map_map, List.map_map]
    congr 1
    funext p
    simp only [Function.comp]
    by_cases e : p.1 = k
    · simp [e]
    · simp [e]
theorem putA_len (S : SS) (k : Int) (v : SV) : (putA S k v).length ≤ S.length + 1 := by
  unfold putA
  split <;> simp
theorem putA_all {S : SS} {k : Int} {v : SV} {P : Int × SV → Prop} (h : ∀ p ∈ S, P p) (hv : P (k, v)) : ∀ p ∈ putA S k v, P p := by
  unfold putA
  split
  · intro p hp
    obtain ⟨q, hq, rfl⟩ := List.mem_map.mp hp
    split
    · rename_i e
      rw [e]; exact hv
    · exact h q hq
  · intro p hp
    rcases List.mem_append.mp hp with hp | hp
    · exact h p hp
    · rw [List.mem_singleton.mp hp]; exact hv
theorem lookA_mem {S : SS} {k : Int} {v : SV} (h : lookA S k = some v) : (k, v) ∈ S := by
  unfold lookA at h
  cases q : S.find? fun p => decide (p.1 = k) with
  | none => rw [q] at h; cases h
  | some p =>
    rw [q] at h
    cases h
    have h1 := List.mem_of_find?_eq_some q
    have h2 := List.find?_some q
    simp only [decide_eq_true_eq] at h2
    rw [← h2]; exact h1
def stOf (S : SS) (c : CR) : SV := (lookA S c.thing).getD (initV c.kind)
theorem getD_enc (S : SS) (c : CR) : ((lookA S c.thing).map SV.d).getD (initV c.kind).d = (stOf S c).d := by
  unfold stOf
  cases lookA S c.thing <;> rfl

@[simp] theorem keyD_int {i : Int} : keyD (.int i) = some (.inl i) := rfl
@[simp] theorem keyD_str {z : Str} : keyD (.str z) = some (.inr z) := rfl
theorem val_st (S : SS) (c : CR) : (valD (encS S) (.inl c.thing)).getD (initV c.kind).d = (stOf S c).d := by
  rw [val_enc, getD_enc]
@[simp] theorem encS_len (S : SS) : (encS S).length = S.length := by simp [encS]
theorem st_ok {S : SS} {c : CR} {kd : Int → String} {n : Nat} (hk : c.kind = kd c.thing) (h : ∀ p ∈ S, Okk (kd p.1) n p.2) : Okk c.kind n (stOf S c) := by
  unfold stOf
  cases q : lookA S c.thing with
  | none => exact okk_init _ _
  | some v => rw [hk]; exact h _ (lookA_mem q)
theorem gset_dct {st : Sto} {l : Nat} {y d : DV} {kvs : List (Key × DV)} {k : Key} (h : st[l]? = some (.dct kvs)) (hk : keyD y = some k) (hz : kvs.length < LIM) : gSet (.ref l) y d st = some (st.set l (.dct (putD kvs k d))) := by
  unfold gSet
  simp only [h, hk, if_pos hz]
theorem gset_lst {st : Sto} {l : Nat} {i : Int} {j : Nat} {d : DV} {ds : List DV} (h : st[l]? = some (.lst ds)) (hj : ixN ds.length i = some j) : gSet (.ref l) (.int i) d st = some (st.set l (.lst (ds.set j d))) := by
  unfold gSet
  simp only [h, hj]
/-! ### the search -/
def leftOf (n : Nat) (done : List Nat) : List Nat := (List.range n).filter fun k => decide (k ∉ done)
def stepS (S : SS) (c : CR) : SS := putA S c.thing (callV c.kind (stOf S c) c.word c.arg).1
def fits (S : SS) (c : CR) : Prop := c.ans = none ∨ c.ans = some (callV c.kind (stOf S c) c.word c.arg).2
instance {S : SS} {c : CR} : Decidable (fits S c) := by unfold fits; infer_instance
def mcfA (cs : List CR) (bt : Bool) (i j : Nat) : Bool := match cs[i]?, cs[j]? with
  | some a, some b => mcfV a b i j bt
  | _, _ => false
def allNone (cs : List CR) (l : List Nat) : Bool := l.all fun k => match cs[k]? with | some c => c.ans.isNone | none => true
def blocked (cs : List CR) (bt : Bool) (l : List Nat) (k : Nat) : Bool := l.any fun o => decide (o ≠ k) && mcfA cs bt o k
def srch (cs : List CR) (bt : Bool) : Nat → List Nat → SS → Option (List Nat)
  | 0, _, _ => none
  | n + 1, done, S => match allNone cs (leftOf cs.length done) with
    | true => some done
    | false => (leftOf cs.length done).findSome? fun k => match cs[k]? with
      | some c => (match blocked cs bt (leftOf cs.length done) k with
        | true => none
        | false => (match decide (fits S c) with
          | true => srch cs bt n (done ++ [k]) (stepS S c)
          | false => none))
      | none => none
/-- what the search finds by way of k -/
def tryV (cs : List CR) (bt : Bool) (n : Nat) (done : List Nat) (S : SS) (k : Nat) : Option (List Nat) := match cs[k]? with
  | some c => (match blocked cs bt (leftOf cs.length done) k with
    | true => none
    | false => (match decide (fits S c) with
      | true => srch cs bt n (done ++ [k]) (stepS S c)
      | false => none))
  | none => none
theorem srch_all {cs : List CR} {bt : Bool} {n : Nat} {done : List Nat} {S : SS} (h : allNone cs (leftOf cs.length done) = true) : srch cs bt (n + 1) done S = some done := by
  unfold srch
  rw [h]
theorem srch_try {cs : List CR} {bt : Bool} {n : Nat} {done : List Nat} {S : SS} (h : allNone cs (leftOf cs.length done) = false) : srch cs bt (n + 1) done S = (leftOf cs.length done).findSome? (tryV cs bt n done S) := by
  rw [srch, h]
  rfl
theorem try_blocked {cs : List CR} {bt : Bool} {n : Nat} {done : List Nat} {S : SS} {k : Nat} (h : blocked cs bt (leftOf cs.length done) k = true) : tryV cs bt n done S k = none := by
  unfold tryV
  cases cs[k]? with
  | none => rfl
  | some c => simp only [h]
theorem try_unfit {cs : List CR} {bt : Bool} {n : Nat} {done : List Nat} {S : SS} {k : Nat} {c : CR} (hc : cs[k]? = some c) (hf : ¬ fits S c) : tryV cs bt n done S k = none := by
  unfold tryV
  rw [hc]
  cases blocked cs bt (leftOf cs.length done) k with
  | true => rfl
  | false => simp only [decide_eq_false hf]
theorem try_go {cs : List CR} {bt : Bool} {n : Nat} {done : List Nat} {S : SS} {k : Nat} {c : CR} (hc : cs[k]? = some c) (h : blocked cs bt (leftOf cs.length done) k = false) (hf : fits S c) : tryV cs bt n done S k = srch cs bt n (done ++ [k]) (stepS S c) := by
  unfold tryV
  rw [hc]
  simp only [h, decide_eq_true hf]
theorem all_id {α : Type} {l : List α} {h : α → Bool} : (l.map h).all id = l.all h := by
  rw [List.all_map]; rfl
theorem any_id {α : Type} {l : List α} {h : α → Bool} : (l.map h).any id = l.any h := by
  rw [List.any_map]; rfl
theorem any_fid {α : Type} {l : List α} {p h : α → Bool} : ((l.filter p).map h).any id = l.any fun x => p x && h x := by
  rw [any_id, List.any_filter]
def nsD (l : List Nat) : DV := .tup (l.map fun (n : Nat) => .int n)
def oT : Option (List Nat) → DV
  | none => .non
  | some l => nsD l
theorem left_lt {n : Nat} {done : List Nat} {k : Nat} (h : k ∈ leftOf n done) : k < n := by
  have := (List.mem_filter.mp h).1
  simpa using this
theorem left_snoc (n : Nat) (done : List Nat) (k : Nat) : leftOf n (done ++ [k]) = (leftOf n done).filter fun x => decide (x ≠ k) := by
  unfold leftOf
  rw [List.filter_filter]
  congr 1
  funext x
  by_cases h1 : x ∈ done <;> by_cases h2 : x = k <;> simp [h1, h2]
theorem left_dec {n : Nat} {done : List Nat} {k : Nat} (h : k ∈ leftOf n done) : (leftOf n (done ++ [k])).length < (leftOf n done).length := by
  rw [left_snoc, List.length_filter_lt_length_iff_exists]
  exact ⟨k, h, by simp⟩
theorem inD_nats (a : Nat) (ns : List Nat) : inD (.int a) (ns.map fun (n : Nat) => DV.int n) = decide (a ∈ ns) := by
  have h := inD_ints (a : Int) (ns.map fun (n : Nat) => (n : Int))
  rw [List.map_map] at h
  rw [show (ns.map fun (n : Nat) => DV.int n) = ns.map (DV.int ∘ fun (n : Nat) => (n : Int)) from rfl, h]
  congr 1
  simp [Int.ofNat_inj]
theorem flat_nats (ns : List Nat) : (ns.map fun (n : Nat) => DV.int n).all flatD = true := by
  have := flat_ints (ns.map fun (n : Nat) => (n : Int))
  rw [List.map_map] at this
  exact this
/-! ### an order's fault -/
def ofRun (cs : List CR) (bt : Bool) : Nat → List Nat → SS → Option (String × Nat)
  | _, [], _ => none
  | p, k :: r, S =>
    if r.any (fun o => mcfA cs bt o k) then some ("late", p)
    else match cs[k]? with
      | some c => if fits S c then ofRun cs bt (p + 1) r (stepS S c) else some ("answer", p)
      | none => none
theorem of_cons {cs : List CR} {bt : Bool} {p k : Nat} {r : List Nat} {S : SS} : ofRun cs bt p (k :: r) S = if r.any (fun o => mcfA cs bt o k) then some ("late", p) else match cs[k]? with
  | some c => if fits S c then ofRun cs bt (p + 1) r (stepS S c) else some ("answer", p)
  | none => none := rfl
def missL (cs : List CR) (order : List Nat) : List Nat := (List.range cs.length).filter fun k => decide (k ∉ order) && (match cs[k]? with | some c => c.ans.isSome | none => false)
def ofV (cs : List CR) (order : List Nat) (bt : Bool) : Option (String × Nat) := match missL cs order with
  | k :: _ => some ("missing", k)
  | [] => ofRun cs bt 0 order []
def oF : Option (String × Nat) → DV
  | none => .non
  | some p => .tup [.str (Str.ofString p.1), .int p.2]
theorem isN_oF {o : Option (String × Nat)} : isN (oF o) = o.isNone := by cases o <;> rfl
/-! ### lists -/
theorem findSome_at {α β : Type} {l : List α} {f : α → Option β} {i : Nat} {x : α} {r : β} (h1 : ∀ (j : Nat) (y : α), j < i → l[j]? = some y → f y = none) (h2 : l[i]? = some x) (h3 : f x = some r) : l.findSome? f = some r := by
  induction l generalizing i with
  | nil => cases h2
  | cons y l ih =>
    cases i with
    | zero =>
      cases h2
      simp [h3]
    | succ i =>
      rw [List.findSome?_cons, h1 0 y (by omega) rfl]
      exact ih (fun j z hj hz => h1 (j + 1) z (by omega) hz) h2
theorem findSome_none {α β : Type} {l : List α} {f : α → Option β} (h1 : ∀ (j : Nat) (y : α), l[j]? = some y → f y = none) : l.findSome? f = none := by
  rw [List.findSome?_eq_none_iff]
  intro x hx
  obtain ⟨j, hj⟩ := List.getElem?_of_mem hx
  exact h1 j x hj
@[simp] theorem toBls_map {α : Type} (l : List α) (f : α → Bool) : toBls (l.map fun x => DV.bl (f x)) = some (l.map f) := by
  induction l with
  | nil => rfl
  | cons x r ih => simp [toBls, ih]
@[simp] theorem all_tt {α : Type} {l : List α} : (l.all fun _ => true) = true := List.all_eq_true.mpr fun _ _ => rfl
@[simp] theorem any_ff {α : Type} {l : List α} : (l.any fun _ => false) = false := by
  rw [List.any_eq_false]
  intro x _ h
  cases h
theorem cut_succ {α : Type} {xs : List α} {k : Nat} : cutD xs (some ((k : Int) + 1)) none = xs.drop (k + 1) := by
  rw [cut_from (by omega)]
  congr 1
theorem toIs_nats (l : List Nat) : toIs (l.map fun (n : Nat) => DV.int n) = some (l.map fun (n : Nat) => (n : Int)) := by
  have := toIs_map (l.map fun (n : Nat) => (n : Int))
  rw [List.map_map] at this
  exact this
theorem nodup_cast {l : List Nat} (h : l.Nodup) : (l.map fun (n : Nat) => (n : Int)).Nodup := by
  unfold List.Nodup at h ⊢
  rw [List.pairwise_map]
  exact h.imp fun e q => e (Int.ofNat_inj.mp q)
@[simp] theorem filter_tt {α : Type} {l : List α} : l.filter (fun _ => true) = l := List.filter_eq_self.mpr fun _ _ => rfl
/-! ### the drawn numbers -/
structure PS where
  ns : List Int
  i : Int
  r : Int
  c : Int
  salt : Int
def PS.st (p : PS) : Sto := [.lst (p.ns.map DV.int), .lst (p.ns.map DV.int), .lst [.ref 1, .int p.i, .int p.r, .int p.c, .int p.salt]]
def OkP (p : PS) : Prop := 0 ≤ p.i ∧ p.i ≤ (p.ns.length : Int) ∧ p.ns.length ≤ 63
def DrawOk (g : Sto) (many : Int) (d : DV) (s : Sto) : Prop := ∃ v p, d = .int v ∧ s = p.st ++ g ∧ 0 ≤ v ∧ v < many ∧ OkP p
theorem draw_ok {g : Sto} {many v i r c salt : Int} {ns : List Int} (h1 : 0 ≤ v) (h2 : v < many) (h : OkP ⟨ns, i, r, c, salt⟩) : DrawOk g many (.int v) (.lst (ns.map DV.int) :: .lst (ns.map DV.int) :: .lst [.ref 1, .int i, .int r, .int c, .int salt] :: g) := ⟨v, ⟨ns, i, r, c, salt⟩, rfl, rfl, h1, h2, h⟩
theorem trim_draw {F : FM} {ds : List DV} {p : PS} {g : Sto} {many : Int} (h : V (F ds (p.st ++ g)) (DrawOk g many)) : ∃ v p', trim F ds (p.st ++ g) = some (.int v, p'.st ++ g) ∧ 0 ≤ v ∧ v < many ∧ OkP p' := by
  obtain ⟨_, _, h1, v, p', rfl, rfl, h2, h3, h4⟩ := h
  refine ⟨v, p', trim_eq (g := []) (by rw [List.append_nil]; exact h1) (by simp [PS.st]) (fun l o hl => ?_) rfl, h2, h3, h4⟩
  match l, hl with
  | 0, hl => cases hl; exact .inr (by simp [ltO, ltDs_ints])
  | 1, hl => cases hl; exact .inr (by simp [ltO, ltDs_ints])
  | 2, hl => cases hl; exact .inr (by simp [ltO, ltDs, ltD, PS.st])
  | l + 3, hl => exact .inl hl
@[simp] theorem ps_len {p : PS} : p.st.length = 3 := rfl
@[simp ↓] theorem ps_alen {p : PS} {g : Sto} : (p.st ++ g).length = g.length + 3 := by
  rw [List.length_append, ps_len, Nat.add_comm]
@[simp ↓] theorem ps_alen2 {p : PS} {g h : Sto} : ((p.st ++ g) ++ h).length = (g ++ h).length + 3 := by
  rw [List.append_assoc, ps_alen]
@[simp high] theorem ps_alen3 {p : PS} {g : Sto} : (p.st ++ g).length = g.length + 3 := ps_alen
@[simp ↓] theorem ps_get {p : PS} {g : Sto} {j : Nat} : (p.st ++ g)[j + 3]? = g[j]? := by
  rw [List.getElem?_append_right (by simp), ps_len, Nat.add_sub_cancel]
theorem ps_set {p : PS} {g : Sto} {j : Nat} {o : DO} : (p.st ++ g).set (j + 3) o = p.st ++ g.set j o := by
  rw [List.set_append_right _ _ (by simp), ps_len, Nat.add_sub_cancel]
/-- a pool was drawn from; what stands behind it is as it was -/
def PoolOk (g : Sto) (R : DV → Prop) (d : DV) (s : Sto) : Prop := ∃ p, Pre (p.st ++ g) s ∧ OkP p ∧ R d
theorem trim_pool {F : FM} {ds : List DV} {p : PS} {g : Sto} {R : DV → Prop} (h : V (F ds (p.st ++ g)) (PoolOk g R)) (hR : ∀ d, R d → ltD 3 d = true) : ∃ d p', trim F ds (p.st ++ g) = some (d, p'.st ++ g) ∧ OkP p' ∧ R d := by
  obtain ⟨d, _, h1, p', ⟨u, rfl⟩, h2, h3⟩ := h
  refine ⟨d, p', trim_eq (g := u) h1 (by simp [PS.st]) (fun l o hl => ?_) (ltD_mono (by simp) (hR d h3)), h2, h3⟩
  match l, hl with
  | 0, hl => cases hl; exact .inr (by simp [ltO, ltDs_ints])
  | 1, hl => cases hl; exact .inr (by simp [ltO, ltDs_ints])
  | 2, hl => cases hl; exact .inr (by simp [ltO, ltDs, ltD])
  | l + 3, hl => exact .inl hl
def strD (s : String) : DV := .str (Str.ofString s)
/-- a word and an argument that a kind may be called with -/
def OkW (kind : String) (c : String × Int) : Prop := c.1 ∈ kWords kind ∧ 0 ≤ c.2 ∧ c.2 ≤ 99 ∧ (bareW kind c.1 = true → c.2 = 0)
theorem ixN_nat {n : Nat} {i : Int} (h : 0 ≤ i) (h' : i < n) : ixN n i = some i.toNat := by
  unfold ixN
  rw [if_pos h, if_pos (by omega)]
end DL

/-! PL6: calls one after another, then two beside each other, then one behind. -/
namespace DL
open PySem PySem.Spec PyProof.Rows L2

theorem left_range {N k : Nat} (h : k ≤ N) : leftOf N (List.range k) = List.range' k (N - k) := by
  unfold leftOf
  have e : List.range N = List.range k ++ List.range' k (N - k) := by
    rw [List.range_eq_range', List.range_eq_range']
    have := List.range'_append_1 (s := 0) (m := k) (n := N - k)
    rw [Nat.zero_add] at this
    rw [this]
    congr 1
    omega
  rw [e, List.filter_append]
  have h1 : (List.range k).filter (fun x => decide (x ∉ List.range k)) = [] := by
    rw [List.filter_eq_nil_iff]
    intro x hx
    simp at hx ⊢
    exact hx
  have h2 : (List.range' k (N - k)).filter (fun x => decide (x ∉ List.range k)) = List.range' k (N - k) := by
    rw [List.filter_eq_self]
    intro x hx
    have := List.mem_range'_1.mp hx
    simp
    omega
  rw [h1, h2, List.nil_append]
/-- the states of the one object -/
def SSt (kind : String) (s : SV) (S : SS) : Prop := S = [(0, s)] ∨ (S = [] ∧ s = initV kind)
theorem sst_of {kind : String} {s : SV} {S : SS} {c : CR} (h : SSt kind s S) (h1 : c.thing = 0) (h2 : c.kind = kind) : stOf S c = s := by
  unfold stOf lookA
  rw [h1, h2]
  rcases h with rfl | ⟨rfl, rfl⟩
  · simp
  · simp
theorem sst_step {kind : String} {s : SV} {S : SS} {c : CR} (h : SSt kind s S) (h1 : c.thing = 0) (h2 : c.kind = kind) : SSt kind (callV kind s c.word c.arg).1 (stepS S c) := by
  have e := sst_of h h1 h2
  unfold stepS putA lookA
  rw [e, h1, h2]
  rcases h with rfl | ⟨rfl, rfl⟩
  · exact .inl (by simp)
  · exact .inl (by simp)
theorem sst_fits {kind : String} {s : SV} {S : SS} {c : CR} {a : Int} (h : SSt kind s S) (h1 : c.thing = 0) (h2 : c.kind = kind) (ha : c.ans = some a) : fits S c ↔ a = (callV kind s c.word c.arg).2 := by
  unfold fits
  rw [sst_of h h1 h2, ha, h2]
  simp
/-- calls one after another, and later ones -/
structure Line (kind : String) (n : Nat) (st : Nat → SV) (cs : List CR) : Prop where
  init : st 0 = initV kind
  one : ∀ k, k < n → ∃ c : CR, cs[k]? = some c ∧ c.thing = 0 ∧ c.kind = kind ∧ c.beg = 2 * (k : Int) ∧ c.fin = some (2 * (k : Int) + 1) ∧ c.ans = some (callV kind (st k) c.word c.arg).2 ∧ st (k + 1) = (callV kind (st k) c.word c.arg).1
  late : ∀ (k : Nat) (c : CR), n ≤ k → cs[k]? = some c → 50 ≤ c.beg ∧ (∃ f, c.fin = some f ∧ 60 ≤ f) ∧ ∃ a, c.ans = some a
  small : n ≤ 4
section
variable {kind : String} {n : Nat} {st : Nat → SV} {cs : List CR}
/-- nothing later must come first -/
theorem Line.free (L : Line kind n st cs) {k o : Nat} (hk : k < n) (ho : k ≤ o) : mcfA cs true o k = false := by
  obtain ⟨c, hc, _, _, hb, _⟩ := L.one k hk
  have hs := L.small
  unfold mcfA
  rw [hc]
  cases ho2 : cs[o]? with
  | none => rfl
  | some d =>
    simp only [mcfV, if_true]
    by_cases h : o < n
    · obtain ⟨d', hd, _, _, _, hf, _⟩ := L.one o h
      rw [ho2] at hd
      cases hd
      rw [hf, hb]
      simp
      omega
    · obtain ⟨_, ⟨f, hf, hf2⟩, _⟩ := L.late o d (by omega) ho2
      rw [hf, hb]
      simp
      omega
/-- what is earlier must come first -/
theorem Line.must (L : Line kind n st cs) {k o : Nat} (hk : k < n) (ho : k < o) (hl : o < cs.length) : mcfA cs true k o = true := by
  obtain ⟨c, hc, _, _, _, hf, _⟩ := L.one k hk
  have hs := L.small
  have ho2 : cs[o]? = some cs[o] := List.getElem?_eq_getElem hl
  unfold mcfA
  rw [hc, ho2]
  simp only [mcfV, if_true, hf]
  by_cases h : o < n
  · obtain ⟨d', hd, _, _, hb, _⟩ := L.one o h
    rw [ho2] at hd
    cases hd
    rw [hb]
    simp
    omega
  · obtain ⟨hb, _⟩ := L.late o _ (by omega) ho2
    simp
    omega
theorem Line.ans (L : Line kind n st cs) {k : Nat} (hl : k < cs.length) : ∃ c a, cs[k]? = some c ∧ c.ans = some a := by
  by_cases h : k < n
  · obtain ⟨c, hc, _, _, _, _, ha, _⟩ := L.one k h
    exact ⟨c, _, hc, ha⟩
  · have hc : cs[k]? = some cs[k] := List.getElem?_eq_getElem hl
    obtain ⟨_, _, a, ha⟩ := L.late k _ (by omega) hc
    exact ⟨_, a, hc, ha⟩
theorem Line.some_left (L : Line kind n st cs) {k : Nat} {r : List Nat} (hl : k < cs.length) : allNone cs (k :: r) = false := by
  obtain ⟨c, a, hc, ha⟩ := L.ans hl
  unfold allNone
  rw [List.all_cons, hc]
  simp only
  rw [ha]
  rfl
theorem Line.of (L : Line kind n st cs) (rest : List Nat) (hr : ∀ o ∈ rest, n ≤ o) (k : Nat) (hk : k ≤ n) : ∃ S, SSt kind (st k) S ∧ ofRun cs true 0 (List.range n ++ rest) [] = ofRun cs true k (List.range' k (n - k) ++ rest) S := by
  induction k with
  | zero => exact ⟨[], .inr ⟨rfl, L.init⟩, by rw [List.range_eq_range']; rfl⟩
  | succ k ih =>
    obtain ⟨S, hS, e⟩ := ih (by omega)
    obtain ⟨c, hc, h1, h2, _, _, ha, hst⟩ := L.one k (by omega)
    refine ⟨stepS S c, by rw [hst]; exact sst_step hS h1 h2, ?_⟩
    rw [e, show n - k = (n - (k + 1)) + 1 by omega, List.range'_succ, List.cons_append, of_cons, if_neg, hc]
    · simp only
      rw [if_pos ((sst_fits hS h1 h2 ha).mpr rfl)]
    · rw [Bool.not_eq_true, List.any_eq_false]
      intro o ho
      rw [L.free (by omega)]
      · simp
      · rcases List.mem_append.mp ho with ho | ho
        · have := List.mem_range'_1.mp ho
          omega
        · have := hr o ho
          omega
theorem Line.srch (L : Line kind n st cs) (hn : n < cs.length) (m k : Nat) (hk : k ≤ n) : ∃ S, SSt kind (st k) S ∧ srch cs true (m + k) [] [] = srch cs true m (List.range k) S := by
  induction k generalizing m with
  | zero => exact ⟨[], .inr ⟨rfl, L.init⟩, rfl⟩
  | succ k ih =>
    obtain ⟨S, hS, e⟩ := ih (m + 1) (by omega)
    obtain ⟨c, hc, h1, h2, _, _, ha, hst⟩ := L.one k (by omega)
    refine ⟨stepS S c, by rw [hst]; exact sst_step hS h1 h2, ?_⟩
    rw [show m + (k + 1) = m + 1 + k by omega, e]
    have hl := left_range (N := cs.length) (k := k) (by omega)
    rw [show cs.length - k = (cs.length - (k + 1)) + 1 by omega, List.range'_succ] at hl
    rw [srch_try (by rw [hl]; exact L.some_left (by omega)), hl, List.findSome?_cons]
    have hb : blocked cs true (leftOf cs.length (List.range k)) k = false := by
      unfold blocked
      rw [hl, List.any_eq_false]
      intro o ho
      have ho2 : k ≤ o := by
        rcases List.mem_cons.mp ho with rfl | ho
        · exact Nat.le_refl _
        · have := List.mem_range'_1.mp ho
          omega
      rw [L.free (by omega) ho2]
      simp
    rw [try_go hc hb ((sst_fits hS h1 h2 ha).mpr rfl), ← List.range_succ]
    cases q : DL.srch cs true m (List.range (k + 1)) (stepS S c) with
    | some r => rfl
    | none =>
      simp only
      rw [List.findSome?_eq_none_iff]
      intro o ho
      have ho2 := List.mem_range'_1.mp ho
      refine try_blocked ?_
      unfold blocked
      rw [hl, List.any_eq_true]
      refine ⟨k, List.mem_cons_self, ?_⟩
      rw [L.must (by omega) (by omega) (by omega)]
      simp
      omega
end
theorem of_step {cs : List CR} {bt : Bool} {p k : Nat} {r : List Nat} {S : SS} {c : CR} (hc : cs[k]? = some c) (hr : ∀ o ∈ r, mcfA cs bt o k = false) (hf : fits S c) : ofRun cs bt p (k :: r) S = ofRun cs bt (p + 1) r (stepS S c) := by
  rw [of_cons, if_neg, hc]
  · simp only
    rw [if_pos hf]
  · rw [Bool.not_eq_true, List.any_eq_false]
    intro o ho
    rw [hr o ho]
    simp
theorem of_unfit {cs : List CR} {bt : Bool} {p k : Nat} {r : List Nat} {S : SS} {c : CR} (hc : cs[k]? = some c) (hr : ∀ o ∈ r, mcfA cs bt o k = false) (hf : ¬ fits S c) : ofRun cs bt p (k :: r) S = some ("answer", p) := by
  rw [of_cons, if_neg, hc]
  · simp only
    rw [if_neg hf]
  · rw [Bool.not_eq_true, List.any_eq_false]
    intro o ho
    rw [hr o ho]
    simp
theorem blocked_f {cs : List CR} {bt : Bool} {l : List Nat} {k : Nat} (h : ∀ o ∈ l, o = k ∨ mcfA cs bt o k = false) : blocked cs bt l k = false := by
  unfold blocked
  rw [List.any_eq_false]
  intro o ho
  rcases h o ho with e | e
  · simp [e]
  · simp [e]
theorem blocked_t {cs : List CR} {bt : Bool} {l : List Nat} {k o : Nat} (ho : o ∈ l) (hk : o ≠ k) (h : mcfA cs bt o k = true) : blocked cs bt l k = true := by
  unfold blocked
  rw [List.any_eq_true]
  exact ⟨o, ho, by simp [hk, h]⟩
/-- two calls beside each other behind a line -/
structure Duo (kind : String) (n : Nat) (s : SV) (cs : List CR) (c d : CR) : Prop where
  c1 : cs[n]? = some c
  c2 : c.thing = 0
  c3 : c.kind = kind
  c4 : c.beg = 50
  c5 : c.fin = some 60
  c6 : c.ans = some (callV kind s c.word c.arg).2
  d1 : cs[n + 1]? = some d
  d2 : d.thing = 0
  d3 : d.kind = kind
  d4 : d.beg = 51
  d5 : d.fin = some 61
  d6 : d.ans = some (callV kind (callV kind s c.word c.arg).1 d.word d.arg).2
section
variable {kind : String} {n : Nat} {st : Nat → SV} {s : SV} {cs : List CR} {c d e : CR} {S : SS}
theorem Duo.m1 (D : Duo kind n s cs c d) : mcfA cs true n (n + 1) = false := by
  unfold mcfA
  rw [D.c1, D.d1]
  simp [mcfV, D.c5, D.d4]
theorem Duo.m2 (D : Duo kind n s cs c d) : mcfA cs true (n + 1) n = false := by
  unfold mcfA
  rw [D.c1, D.d1]
  simp [mcfV, D.d5, D.c4]
/-- told answers of both orders -/
def twin (kind : String) (s : SV) (c d : CR) : Bool :=
  decide ((callV kind s c.word c.arg).2 = (callV kind (callV kind s d.word d.arg).1 c.word c.arg).2) && decide ((callV kind (callV kind s c.word c.arg).1 d.word d.arg).2 = (callV kind s d.word d.arg).2)
theorem twin_t (h1 : (callV kind s c.word c.arg).2 = (callV kind (callV kind s d.word d.arg).1 c.word c.arg).2) (h2 : (callV kind (callV kind s c.word c.arg).1 d.word d.arg).2 = (callV kind s d.word d.arg).2) : twin kind s c d = true := by
  unfold twin
  rw [decide_eq_true h1, decide_eq_true h2]
  rfl
theorem twin_f1 (h1 : ¬ (callV kind s c.word c.arg).2 = (callV kind (callV kind s d.word d.arg).1 c.word c.arg).2) : twin kind s c d = false := by
  unfold twin
  rw [decide_eq_false h1, Bool.false_and]
theorem twin_f2 (h2 : ¬ (callV kind (callV kind s c.word c.arg).1 d.word d.arg).2 = (callV kind s d.word d.arg).2) : twin kind s c d = false := by
  unfold twin
  rw [decide_eq_false h2, Bool.and_false]
theorem Duo.straight (D : Duo kind n s cs c d) (hS : SSt kind s S) (p : Nat) (r : List Nat) (hr : ∀ o ∈ r, mcfA cs true o n = false ∧ mcfA cs true o (n + 1) = false) : ∃ S', SSt kind (callV kind (callV kind s c.word c.arg).1 d.word d.arg).1 S' ∧ ofRun cs true p ([n, n + 1] ++ r) S = ofRun cs true (p + 2) r S' := by
  have h1 := sst_step hS D.c2 D.c3
  have h2 := sst_step h1 D.d2 D.d3
  refine ⟨_, h2, ?_⟩
  show ofRun cs true p (n :: (n + 1) :: r) S = _
  rw [of_step D.c1 (fun o ho => ?_) ((sst_fits hS D.c2 D.c3 D.c6).mpr rfl), of_step D.d1 (fun o ho => (hr o ho).2) ((sst_fits h1 D.d2 D.d3 D.d6).mpr rfl)]
  rcases List.mem_cons.mp ho with rfl | ho
  · exact D.m2
  · exact (hr o ho).1
theorem Duo.turned (D : Duo kind n s cs c d) (hS : SSt kind s S) (p : Nat) (r : List Nat) (hr : ∀ o ∈ r, mcfA cs true o n = false ∧ mcfA cs true o (n + 1) = false) : (twin kind s c d = true ∧ ∃ S', SSt kind (callV kind (callV kind s d.word d.arg).1 c.word c.arg).1 S' ∧ ofRun cs true p ([n + 1, n] ++ r) S = ofRun cs true (p + 2) r S') ∨ (twin kind s c d = false ∧ ∃ q, ofRun cs true p ([n + 1, n] ++ r) S = some q) := by
  have h1 := sst_step hS D.d2 D.d3
  have h2 := sst_step h1 D.c2 D.c3
  have hm : ∀ o ∈ n :: r, mcfA cs true o (n + 1) = false := fun o ho => by
    rcases List.mem_cons.mp ho with rfl | ho
    · exact D.m1
    · exact (hr o ho).2
  have hm2 : ∀ o ∈ r, mcfA cs true o n = false := fun o ho => (hr o ho).1
  show (_ ∧ ∃ S', _ ∧ ofRun cs true p ((n + 1) :: n :: r) S = _) ∨ (_ ∧ ∃ q, ofRun cs true p ((n + 1) :: n :: r) S = _)
  by_cases f1 : fits S d
  · have g1 := (sst_fits hS D.d2 D.d3 D.d6).mp f1
    rw [of_step D.d1 hm f1]
    by_cases f2 : fits (stepS S d) c
    · have g2 := (sst_fits h1 D.c2 D.c3 D.c6).mp f2
      refine .inl ⟨twin_t g2 g1, _, h2, ?_⟩
      rw [of_step D.c1 hm2 f2]
    · refine .inr ⟨?_, _, of_unfit D.c1 hm2 f2⟩
      have g2 := fun q => f2 ((sst_fits h1 D.c2 D.c3 D.c6).mpr q)
      exact twin_f1 g2
  · refine .inr ⟨?_, _, of_unfit D.d1 hm f1⟩
    have g1 := fun q => f1 ((sst_fits hS D.d2 D.d3 D.d6).mpr q)
    exact twin_f2 g1
/-- the search, where just the two are left -/
theorem Duo.srch (D : Duo kind n s cs c d) (hS : SSt kind s S) (hl : cs.length = n + 2) (m : Nat) : DL.srch cs true (m + 3) (List.range n) S = some (List.range n ++ [n, n + 1]) := by
  have l0 : leftOf cs.length (List.range n) = [n, n + 1] := by
    rw [left_range (by omega), hl, show n + 2 - n = 2 by omega]
    rfl
  have l1 : leftOf cs.length (List.range n ++ [n]) = [n + 1] := by
    rw [left_snoc, l0]
    simp
  have l2 : leftOf cs.length (List.range n ++ [n] ++ [n + 1]) = [] := by
    rw [left_snoc, l1]
    simp
  have h1 := sst_step hS D.c2 D.c3
  have a0 : allNone cs [n, n + 1] = false := by simp [allNone, D.c1, D.c6]
  have a1 : allNone cs [n + 1] = false := by simp [allNone, D.d1, D.d6]
  have b0 : blocked cs true (leftOf cs.length (List.range n)) n = false := by
    rw [l0]
    exact blocked_f fun o ho => by
      simp at ho
      rcases ho with rfl | rfl
      · exact .inl rfl
      · exact .inr D.m2
  have b1 : blocked cs true (leftOf cs.length (List.range n ++ [n])) (n + 1) = false := by
    rw [l1]
    exact blocked_f fun o ho => by
      simp at ho
      exact .inl ho
  have e2 : DL.srch cs true (m + 1) (List.range n ++ [n] ++ [n + 1]) (stepS (stepS S c) d) = some (List.range n ++ [n] ++ [n + 1]) := srch_all (by rw [l2]; rfl)
  have e1 : DL.srch cs true (m + 2) (List.range n ++ [n]) (stepS S c) = some (List.range n ++ [n] ++ [n + 1]) := by
    rw [srch_try (by rw [l1]; exact a1), l1, List.findSome?_cons, try_go D.d1 b1 ((sst_fits h1 D.d2 D.d3 D.d6).mpr rfl), e2]
  rw [srch_try (by rw [l0]; exact a0), l0, List.findSome?_cons, try_go D.c1 b0 ((sst_fits hS D.c2 D.c3 D.c6).mpr rfl), e1]
  simp
/-- one behind both -/
structure Trio (kind : String) (n : Nat) (s : SV) (cs : List CR) (c d e : CR) : Prop extends Duo kind n s cs c d where
  e1 : cs[n + 2]? = some e
  e2 : e.thing = 0
  e3 : e.kind = kind
  e4 : e.beg = 70
  e5 : e.fin = some 71
  e6 : e.ans = some (callV kind (callV kind (callV kind s d.word d.arg).1 c.word c.arg).1 e.word e.arg).2
theorem Trio.m3 (D : Trio kind n s cs c d e) : mcfA cs true n (n + 2) = true := by
  unfold mcfA
  rw [D.c1, D.e1]
  simp [mcfV, D.c5, D.e4]
theorem Trio.m4 (D : Trio kind n s cs c d e) : mcfA cs true (n + 1) (n + 2) = true := by
  unfold mcfA
  rw [D.d1, D.e1]
  simp [mcfV, D.d5, D.e4]
theorem Trio.m5 (D : Trio kind n s cs c d e) : mcfA cs true (n + 2) n = false := by
  unfold mcfA
  rw [D.c1, D.e1]
  simp [mcfV, D.e5, D.c4]
theorem Trio.m6 (D : Trio kind n s cs c d e) : mcfA cs true (n + 2) (n + 1) = false := by
  unfold mcfA
  rw [D.d1, D.e1]
  simp [mcfV, D.e5, D.d4]
/-- the last answer is the same behind both orders -/
def lastly (kind : String) (s : SV) (c d e : CR) : Bool := decide ((callV kind (callV kind (callV kind s c.word c.arg).1 d.word d.arg).1 e.word e.arg).2 = (callV kind (callV kind (callV kind s d.word d.arg).1 c.word c.arg).1 e.word e.arg).2)
theorem Trio.srch (D : Trio kind n s cs c d e) (hS : SSt kind s S) (hl : cs.length = n + 3) (m : Nat) : DL.srch cs true (m + 4) (List.range n) S = if lastly kind s c d e then some (List.range n ++ [n, n + 1, n + 2]) else if twin kind s c d then some (List.range n ++ [n + 1, n, n + 2]) else none := by
  have l0 : leftOf cs.length (List.range n) = [n, n + 1, n + 2] := by
    rw [left_range (by omega), hl, show n + 3 - n = 3 by omega]
    rfl
  have l1 : leftOf cs.length (List.range n ++ [n]) = [n + 1, n + 2] := by
    rw [left_snoc, l0]
    simp
  have l2 : leftOf cs.length (List.range n ++ [n] ++ [n + 1]) = [n + 2] := by
    rw [left_snoc, l1]
    simp
  have l3 : leftOf cs.length (List.range n ++ [n] ++ [n + 1] ++ [n + 2]) = [] := by
    rw [left_snoc, l2]
    simp
  have k1 : leftOf cs.length (List.range n ++ [n + 1]) = [n, n + 2] := by
    rw [left_snoc, l0]
    simp
  have k2 : leftOf cs.length (List.range n ++ [n + 1] ++ [n]) = [n + 2] := by
    rw [left_snoc, k1]
    simp
  have k3 : leftOf cs.length (List.range n ++ [n + 1] ++ [n] ++ [n + 2]) = [] := by
    rw [left_snoc, k2]
    simp
  have h1 := sst_step hS D.c2 D.c3
  have h2 := sst_step h1 D.d2 D.d3
  have i1 := sst_step hS D.d2 D.d3
  have i2 := sst_step i1 D.c2 D.c3
  have a0 : allNone cs [n, n + 1, n + 2] = false := by simp [allNone, D.c1, D.c6]
  have a1 : allNone cs [n + 1, n + 2] = false := by simp [allNone, D.d1, D.d6]
  have a2 : allNone cs [n + 2] = false := by simp [allNone, D.e1, D.e6]
  have a3 : allNone cs [n, n + 2] = false := by simp [allNone, D.c1, D.c6]
  have b0 : blocked cs true (leftOf cs.length (List.range n)) n = false := by
    rw [l0]
    exact blocked_f fun o ho => by
      simp at ho
      rcases ho with rfl | rfl | rfl
      · exact .inl rfl
      · exact .inr D.m2
      · exact .inr D.m5
  have b1 : blocked cs true (leftOf cs.length (List.range n ++ [n])) (n + 1) = false := by
    rw [l1]
    exact blocked_f fun o ho => by
      simp at ho
      rcases ho with rfl | rfl
      · exact .inl rfl
      · exact .inr D.m6
  have b2 : blocked cs true (leftOf cs.length (List.range n ++ [n] ++ [n + 1])) (n + 2) = false := by
    rw [l2]
    exact blocked_f fun o ho => by
      simp at ho
      exact .inl ho
  have b3 : blocked cs true (leftOf cs.length (List.range n)) (n + 1) = false := by
    rw [l0]
    exact blocked_f fun o ho => by
      simp at ho
      rcases ho with rfl | rfl | rfl
      · exact .inr D.m1
      · exact .inl rfl
      · exact .inr D.m6
  have b4 : blocked cs true (leftOf cs.length (List.range n ++ [n + 1])) n = false := by
    rw [k1]
    exact blocked_f fun o ho => by
      simp at ho
      rcases ho with rfl | rfl
      · exact .inl rfl
      · exact .inr D.m5
  have b5 : blocked cs true (leftOf cs.length (List.range n ++ [n + 1] ++ [n])) (n + 2) = false := by
    rw [k2]
    exact blocked_f fun o ho => by
      simp at ho
      exact .inl ho
  have t0 : blocked cs true (leftOf cs.length (List.range n)) (n + 2) = true := by
    rw [l0]
    exact blocked_t (o := n) (by simp) (by omega) D.m3
  have t1 : blocked cs true (leftOf cs.length (List.range n ++ [n])) (n + 2) = true := by
    rw [l1]
    exact blocked_t (o := n + 1) (by simp) (by omega) D.m4
  have t2 : blocked cs true (leftOf cs.length (List.range n ++ [n + 1])) (n + 2) = true := by
    rw [k1]
    exact blocked_t (o := n) (by simp) (by omega) D.m3
  -- one way
  have x2 : DL.srch cs true (m + 2) (List.range n ++ [n] ++ [n + 1]) (stepS (stepS S c) d) = if lastly kind s c d e then some (List.range n ++ [n, n + 1, n + 2]) else none := by
    rw [srch_try (by rw [l2]; exact a2), l2, List.findSome?_cons, List.findSome?_nil]
    by_cases f : fits (stepS (stepS S c) d) e
    · have g := (sst_fits h2 D.e2 D.e3 D.e6).mp f
      rw [try_go D.e1 b2 f, srch_all (by rw [l3]; rfl), if_pos (by simp [lastly, g])]
      simp
    · have g := fun q => f ((sst_fits h2 D.e2 D.e3 D.e6).mpr q)
      rw [try_unfit D.e1 f, if_neg (by simp [lastly]; exact fun q => g q.symm)]
  have x1 : DL.srch cs true (m + 3) (List.range n ++ [n]) (stepS S c) = if lastly kind s c d e then some (List.range n ++ [n, n + 1, n + 2]) else none := by
    rw [srch_try (by rw [l1]; exact a1), l1, List.findSome?_cons, List.findSome?_cons, List.findSome?_nil, try_go D.d1 b1 ((sst_fits h1 D.d2 D.d3 D.d6).mpr rfl), x2, try_blocked t1]
    cases lastly kind s c d e <;> rfl
  -- the other
  have y2 : DL.srch cs true (m + 2) (List.range n ++ [n + 1] ++ [n]) (stepS (stepS S d) c) = some (List.range n ++ [n + 1, n, n + 2]) := by
    rw [srch_try (by rw [k2]; exact a2), k2, List.findSome?_cons, List.findSome?_nil, try_go D.e1 b5 ((sst_fits i2 D.e2 D.e3 D.e6).mpr rfl), srch_all (by rw [k3]; rfl)]
    simp
  have y0 : tryV cs true (m + 3) (List.range n) S (n + 1) = if twin kind s c d then some (List.range n ++ [n + 1, n, n + 2]) else none := by
    by_cases f1 : fits S d
    · have g1 := (sst_fits hS D.d2 D.d3 D.d6).mp f1
      rw [try_go D.d1 b3 f1, srch_try (by rw [k1]; exact a3), k1, List.findSome?_cons, List.findSome?_cons, List.findSome?_nil, try_blocked t2]
      by_cases f2 : fits (stepS S d) c
      · have g2 := (sst_fits i1 D.c2 D.c3 D.c6).mp f2
        rw [try_go D.c1 b4 f2, y2, if_pos (twin_t g2 g1)]
      · have g2 := fun q => f2 ((sst_fits i1 D.c2 D.c3 D.c6).mpr q)
        rw [try_unfit D.c1 f2, twin_f1 g2]
        rfl
    · have g1 := fun q => f1 ((sst_fits hS D.d2 D.d3 D.d6).mpr q)
      rw [try_unfit D.d1 f1, twin_f2 g1]
      rfl
  rw [srch_try (by rw [l0]; exact a0), l0, List.findSome?_cons, List.findSome?_cons, List.findSome?_cons, List.findSome?_nil, try_go D.c1 b0 ((sst_fits hS D.c2 D.c3 D.c6).mpr rfl), x1, y0, try_blocked t0]
  cases lastly kind s c d e with
  | true => rfl
  | false => cases twin kind s c d <;> rfl
end
/-! ### the calls as a law lays them -/
def pCR (kind : String) (k : Nat) (c : String × Int) (t : Int) : CR := ⟨1, 0, kind, c.1, c.2, some t, 2 * (k : Int), some (2 * (k : Int) + 1)⟩
def toldL (kind : String) (past : List (String × Int)) : List Int := (runV kind (initV kind) past).2
def lineC (kind : String) (past : List (String × Int)) : List CR := (List.range past.length).map fun k => pCR kind k (past.getD k ("", 0)) ((toldL kind past).getD k 0)
theorem told_get {kind : String} {c : String × Int} : ∀ {past : List (String × Int)} {s : SV} {k : Nat}, past[k]? = some c → (runV kind s past).2[k]? = some (callV kind (runV kind s (past.take k)).1 c.1 c.2).2
  | [], _, _, h => by cases h
  | d :: r, s, 0, h => by cases h; rfl
  | d :: r, s, k + 1, h => by
    have h : r[k]? = some c := h
    exact told_get (kind := kind) (s := (callV kind s d.1 d.2).1) h
theorem lineC_len (kind : String) (past : List (String × Int)) : (lineC kind past).length = past.length := by simp [lineC]
theorem lineC_get {kind : String} {past : List (String × Int)} {k : Nat} {c : String × Int} (h : past[k]? = some c) : (lineC kind past)[k]? = some (pCR kind k c (callV kind (runV kind (initV kind) (past.take k)).1 c.1 c.2).2) := by
  have hk := (List.getElem?_eq_some_iff.mp h).1
  unfold lineC toldL
  rw [List.getElem?_map, List.getElem?_range hk, Option.map_some, List.getD_eq_getElem?_getD, List.getD_eq_getElem?_getD, h, told_get h]
  rfl
theorem line_ok {kind : String} {past : List (String × Int)} {late : List CR} (hn : past.length ≤ 4) (hl : ∀ c ∈ late, 50 ≤ c.beg ∧ (∃ f, c.fin = some f ∧ 60 ≤ f) ∧ ∃ a, c.ans = some a) : Line kind past.length (fun k => (runV kind (initV kind) (past.take k)).1) (lineC kind past ++ late) where
  init := rfl
  one k hk := by
    have hc : past[k]? = some past[k] := List.getElem?_eq_getElem hk
    refine ⟨_, by rw [List.getElem?_append_left (by rw [lineC_len]; exact hk)]; exact lineC_get hc, rfl, rfl, rfl, rfl, rfl, ?_⟩
    simp only [run_take hc]
    rfl
  late k c hk hc := by
    rw [List.getElem?_append_right (by rw [lineC_len]; exact hk)] at hc
    exact hl c (List.mem_of_getElem? hc)
  small := hn
def qCR (hand : Int) (kind : String) (c : String × Int) (t b f : Int) : CR := ⟨hand, 0, kind, c.1, c.2, some t, b, some f⟩
theorem times_line (kind : String) (past : List (String × Int)) (late : List CR) : timesOf (lineC kind past ++ late) = ((List.range past.length).flatMap fun (k : Nat) => [2 * (k : Int), 2 * (k : Int) + 1]) ++ timesOf late := by
  unfold timesOf lineC
  rw [List.flatMap_append, List.flatMap_map]
  rfl
theorem oks_line {kind : String} {past : List (String × Int)} (hk : kind ∈ kinds5) (hw : ∀ c ∈ past, OkW kind c) (hn : past.length ≤ 4) : ∀ c ∈ lineC kind past, OkC c := by
  intro c hc
  obtain ⟨k, hk2⟩ := List.getElem?_of_mem hc
  have hlt : k < past.length := by
    have := (List.getElem?_eq_some_iff.mp hk2).1
    rwa [lineC_len] at this
  have hp : past[k]? = some past[k] := List.getElem?_eq_getElem hlt
  rw [lineC_get hp] at hk2
  cases hk2
  obtain ⟨h1, h2, h3, h4⟩ := hw _ (List.getElem_mem hlt)
  have hr := (run_ok hk past 0 (initV kind) (okk_init _ _) fun c hc => ⟨(hw c hc).2.1, (hw c hc).2.2.1⟩).2
  have ht := hr _ (List.mem_of_getElem? (told_get hp))
  constructor
  · exact ⟨by simp [pCR], by simp [pCR]⟩
  · exact ⟨by simp [pCR], by simp [pCR]⟩
  · exact hk
  · exact h1
  · exact ⟨h2, h3⟩
  · exact h4
  · simp only [pCR]; omega
  · simp [pCR]
  · intro a ha; cases ha; exact ht
  · intro f hf
    simp only [pCR, Option.some.injEq] at hf ⊢
    omega
/-- two calls beside each other behind a line: no fault -/
theorem okh_two {kind : String} {past : List (String × Int)} (hk : kind ∈ kinds5) (hw : ∀ c ∈ past, OkW kind c) (hn : past.length ≤ 4) {c d : String × Int} (hc : OkW kind c) (hd : OkW kind d) {t u : Int} (ht : -1 ≤ t ∧ t ≤ 99) (hu : -1 ≤ u ∧ u ≤ 99) : OkH (lineC kind past ++ [qCR 2 kind c t 50 60, qCR 3 kind d u 51 61]) := by
  have hlen : (lineC kind past ++ [qCR 2 kind c t 50 60, qCR 3 kind d u 51 61]).length = past.length + 2 := by simp [lineC_len]
  have get : ∀ (k : Nat) (a : CR), (lineC kind past ++ [qCR 2 kind c t 50 60, qCR 3 kind d u 51 61])[k]? = some a → (k < past.length ∧ a.hand = 1 ∧ a.kind = kind ∧ a.beg = 2 * (k : Int) ∧ a.fin = some (2 * (k : Int) + 1)) ∨ (k = past.length ∧ a = qCR 2 kind c t 50 60) ∨ (k = past.length + 1 ∧ a = qCR 3 kind d u 51 61) := by
    intro k a h
    by_cases q : k < past.length
    · rw [List.getElem?_append_left (by rw [lineC_len]; exact q), lineC_get (List.getElem?_eq_getElem q)] at h
      cases h
      exact .inl ⟨q, rfl, rfl, rfl, rfl⟩
    · rw [List.getElem?_append_right (by rw [lineC_len]; omega), lineC_len] at h
      match e : k - past.length, h with
      | 0, h => cases h; exact .inr (.inl ⟨by omega, rfl⟩)
      | 1, h => cases h; exact .inr (.inr ⟨by omega, rfl⟩)
      | j + 2, h => cases h
  constructor
  · intro a ha
    rcases List.mem_append.mp ha with ha | ha
    · exact oks_line hk hw hn a ha
    · have one : ∀ (hand : Int) (x : String × Int) (v b f : Int), 1 ≤ hand ∧ hand ≤ 9 → OkW kind x → -1 ≤ v ∧ v ≤ 99 → 0 ≤ b ∧ b + 1 ≤ f ∧ f ≤ 1000 → OkC (qCR hand kind x v b f) := by
        intro hand x v b f h1 h2 h3 h4
        obtain ⟨w1, w2, w3, w4⟩ := h2
        constructor
        · exact h1
        · exact ⟨by simp [qCR], by simp [qCR]⟩
        · exact hk
        · exact w1
        · exact ⟨w2, w3⟩
        · exact w4
        · exact ⟨h4.1, by simp only [qCR]; omega⟩
        · simp [qCR]
        · intro a ha; cases ha; exact h3
        · intro g hg
          simp only [qCR, Option.some.injEq] at hg ⊢
          omega
      simp only [List.mem_cons, List.not_mem_nil, or_false] at ha
      rcases ha with rfl | rfl
      · exact one _ _ _ _ _ (by decide) hc ht (by decide)
      · exact one _ _ _ _ _ (by decide) hd hu (by decide)
  · rw [times_line]
    have : timesOf [qCR 2 kind c t 50 60, qCR 3 kind d u 51 61] = [50, 60, 51, 61] := rfl
    rw [this]
    generalize past.length = n at hn
    match n, hn with
    | 0, _ => decide
    | 1, _ => decide
    | 2, _ => decide
    | 3, _ => decide
    | 4, _ => decide
  · intro k a b ha hb
    rcases get k a ha with ⟨h1, _, _, h2, _⟩ | ⟨h1, rfl⟩ | ⟨h1, rfl⟩ <;> rcases get (k + 1) b hb with ⟨i1, _, _, i2, _⟩ | ⟨i1, rfl⟩ | ⟨i1, rfl⟩ <;> simp only [qCR] at * <;> omega
  · intro i j a b hij ha hb e
    rcases get i a ha with ⟨h1, g1, _, h2, h3⟩ | ⟨h1, rfl⟩ | ⟨h1, rfl⟩
    · rcases get j b hb with ⟨i1, g2, _, i2, i3⟩ | ⟨i1, rfl⟩ | ⟨i1, rfl⟩
      · exact ⟨_, h3, by rw [i2]; omega⟩
      · rw [g1] at e; cases e
      · rw [g1] at e; cases e
    · rcases get j b hb with ⟨i1, g2, _, i2, i3⟩ | ⟨i1, rfl⟩ | ⟨i1, rfl⟩
      · omega
      · omega
      · cases e
    · rcases get j b hb with ⟨i1, g2, _, i2, i3⟩ | ⟨i1, rfl⟩ | ⟨i1, rfl⟩ <;> omega
  · intro i j a b hij ha hb e
    have : ∀ (k : Nat) (a : CR), (lineC kind past ++ [qCR 2 kind c t 50 60, qCR 3 kind d u 51 61])[k]? = some a → a.kind = kind := fun k a h => by
      rcases get k a h with ⟨_, _, h, _⟩ | ⟨_, rfl⟩ | ⟨_, rfl⟩
      · exact h
      · rfl
      · rfl
    rw [this i a ha, this j b hb]
theorem miss_nil {cs : List CR} {o : List Nat} (h : ∀ k, k < cs.length → k ∈ o) : missL cs o = [] := by
  unfold missL
  rw [List.filter_eq_nil_iff]
  intro k hk
  have hk : k < cs.length := by simpa using hk
  simp [h k hk]
theorem ofV_run {cs : List CR} {o : List Nat} {bt : Bool} (h : ∀ k, k < cs.length → k ∈ o) : ofV cs o bt = ofRun cs bt 0 o [] := by
  unfold ofV
  rw [miss_nil h]
section
variable {kind : String} {past : List (String × Int)} {c d e : String × Int}
def st1 (kind : String) (past : List (String × Int)) : SV := (runV kind (initV kind) past).1
def fstA (kind : String) (s : SV) (c : String × Int) : Int := (callV kind s c.1 c.2).2
def nxtS (kind : String) (s : SV) (c : String × Int) : SV := (callV kind s c.1 c.2).1
def cs2 (kind : String) (past : List (String × Int)) (c d : String × Int) : List CR := lineC kind past ++ [qCR 2 kind c (fstA kind (st1 kind past) c) 50 60, qCR 3 kind d (fstA kind (nxtS kind (st1 kind past) c) d) 51 61]
def lastA (kind : String) (s : SV) (c d e : String × Int) : Int := fstA kind (nxtS kind (nxtS kind s c) d) e
def cs3 (kind : String) (past : List (String × Int)) (c d e : String × Int) : List CR := cs2 kind past c d ++ [qCR 1 kind e (lastA kind (st1 kind past) d c e) 70 71]
def bothV (kind : String) (s : SV) (c d : String × Int) : Bool := decide (fstA kind s c = fstA kind (nxtS kind s d) c) && decide (fstA kind (nxtS kind s c) d = fstA kind s d)
theorem cs2_len : (cs2 kind past c d).length = past.length + 2 := by simp [cs2, lineC_len]
theorem cs3_len : (cs3 kind past c d e).length = past.length + 3 := by simp [cs3, cs2_len]
theorem cs3_eq : cs3 kind past c d e = lineC kind past ++ [qCR 2 kind c (fstA kind (st1 kind past) c) 50 60, qCR 3 kind d (fstA kind (nxtS kind (st1 kind past) c) d) 51 61, qCR 1 kind e (lastA kind (st1 kind past) d c e) 70 71] := by simp [cs3, cs2]
theorem line2 (hn : past.length ≤ 4) : Line kind past.length (fun k => (runV kind (initV kind) (past.take k)).1) (cs2 kind past c d) := line_ok hn fun x hx => by
  simp only [List.mem_cons, List.not_mem_nil, or_false] at hx
  rcases hx with rfl | rfl
  · exact ⟨by simp [qCR], ⟨_, rfl, by decide⟩, _, rfl⟩
  · exact ⟨by simp [qCR], ⟨_, rfl, by decide⟩, _, rfl⟩
theorem line3 (hn : past.length ≤ 4) : Line kind past.length (fun k => (runV kind (initV kind) (past.take k)).1) (cs3 kind past c d e) := by
  rw [cs3_eq]
  exact line_ok hn fun x hx => by
    simp only [List.mem_cons, List.not_mem_nil, or_false] at hx
    rcases hx with rfl | rfl | rfl
    · exact ⟨by simp [qCR], ⟨_, rfl, by decide⟩, _, rfl⟩
    · exact ⟨by simp [qCR], ⟨_, rfl, by decide⟩, _, rfl⟩
    · exact ⟨by simp [qCR], ⟨_, rfl, by decide⟩, _, rfl⟩
theorem at_behind {a : List CR} {b : List CR} {j : Nat} : (a ++ b)[a.length + j]? = b[j]? := by
  rw [List.getElem?_append_right (Nat.le_add_right _ _), Nat.add_sub_cancel_left]
theorem duo2 : Duo kind past.length (st1 kind past) (cs2 kind past c d) (qCR 2 kind c (fstA kind (st1 kind past) c) 50 60) (qCR 3 kind d (fstA kind (nxtS kind (st1 kind past) c) d) 51 61) where
  c1 := by unfold cs2; rw [← lineC_len kind past]; exact at_behind (j := 0)
  c2 := rfl
  c3 := rfl
  c4 := rfl
  c5 := rfl
  c6 := rfl
  d1 := by unfold cs2; rw [← lineC_len kind past]; exact at_behind (j := 1)
  d2 := rfl
  d3 := rfl
  d4 := rfl
  d5 := rfl
  d6 := rfl
theorem trio3 : Trio kind past.length (st1 kind past) (cs3 kind past c d e) (qCR 2 kind c (fstA kind (st1 kind past) c) 50 60) (qCR 3 kind d (fstA kind (nxtS kind (st1 kind past) c) d) 51 61) (qCR 1 kind e (lastA kind (st1 kind past) d c e) 70 71) where
  c1 := by rw [cs3_eq, ← lineC_len kind past]; exact at_behind (j := 0)
  c2 := rfl
  c3 := rfl
  c4 := rfl
  c5 := rfl
  c6 := rfl
  d1 := by rw [cs3_eq, ← lineC_len kind past]; exact at_behind (j := 1)
  d2 := rfl
  d3 := rfl
  d4 := rfl
  d5 := rfl
  d6 := rfl
  e1 := by rw [cs3_eq, ← lineC_len kind past]; exact at_behind (j := 2)
  e2 := rfl
  e3 := rfl
  e4 := rfl
  e5 := rfl
  e6 := rfl
theorem st_all : (runV kind (initV kind) (past.take past.length)).1 = st1 kind past := by simp [st1]
theorem t_straight (hn : past.length ≤ 4) : ofV (cs2 kind past c d) (List.range past.length ++ [past.length, past.length + 1]) true = none := by
  rw [ofV_run (fun k hk => by rw [cs2_len] at hk; simp; omega)]
  obtain ⟨S, hS, e1⟩ := (line2 (kind := kind) (c := c) (d := d) hn).of [past.length, past.length + 1] (by simp) past.length (Nat.le_refl _)
  simp only [st_all] at hS
  rw [e1, Nat.sub_self]
  obtain ⟨S', _, e2⟩ := duo2.straight hS past.length [] (by simp)
  exact e2
theorem t_turned (hn : past.length ≤ 4) : (ofV (cs2 kind past c d) (List.range past.length ++ [past.length + 1, past.length]) true).isNone = bothV kind (st1 kind past) c d := by
  rw [ofV_run (fun k hk => by rw [cs2_len] at hk; simp; omega)]
  obtain ⟨S, hS, e1⟩ := (line2 (kind := kind) (c := c) (d := d) hn).of [past.length + 1, past.length] (by simp) past.length (Nat.le_refl _)
  simp only [st_all] at hS
  rw [e1, Nat.sub_self]
  rcases duo2.turned hS past.length [] (by simp) with ⟨h, S', _, e2⟩ | ⟨h, q, e2⟩
  · rw [show ofRun (cs2 kind past c d) true past.length (List.range' past.length 0 ++ [past.length + 1, past.length]) S = none from e2]
    exact h.symm
  · rw [show ofRun (cs2 kind past c d) true past.length (List.range' past.length 0 ++ [past.length + 1, past.length]) S = some q from e2]
    exact h.symm
theorem t_srch2 (hn : past.length ≤ 4) : srch (cs2 kind past c d) true 12 [] [] = some (List.range past.length ++ [past.length, past.length + 1]) := by
  obtain ⟨S, hS, e1⟩ := (line2 (kind := kind) (c := c) (d := d) hn).srch (by rw [cs2_len]; omega) (12 - past.length) past.length (Nat.le_refl _)
  simp only [st_all] at hS
  rw [show 12 - past.length + past.length = 12 by omega] at e1
  rw [e1, show 12 - past.length = (9 - past.length) + 3 by omega]
  exact duo2.srch hS cs2_len _
theorem t_straight3 (hn : past.length ≤ 4) : (ofV (cs3 kind past c d e) (List.range past.length ++ [past.length, past.length + 1, past.length + 2]) true).isNone = decide (lastA kind (st1 kind past) c d e = lastA kind (st1 kind past) d c e) := by
  have T := trio3 (kind := kind) (past := past) (c := c) (d := d) (e := e)
  rw [ofV_run (fun k hk => by rw [cs3_len] at hk; simp; omega)]
  obtain ⟨S, hS, e1⟩ := (line3 (kind := kind) (c := c) (d := d) (e := e) hn).of [past.length, past.length + 1, past.length + 2] (by simp) past.length (Nat.le_refl _)
  simp only [st_all] at hS
  rw [e1, Nat.sub_self]
  obtain ⟨S', hS', e2⟩ := T.toDuo.straight hS past.length [past.length + 2] (by simp [T.m5, T.m6])
  rw [show ofRun (cs3 kind past c d e) true past.length (List.range' past.length 0 ++ [past.length, past.length + 1, past.length + 2]) S = _ from e2]
  by_cases f : fits S' (qCR 1 kind e (lastA kind (st1 kind past) d c e) 70 71)
  · have g : lastA kind (st1 kind past) d c e = lastA kind (st1 kind past) c d e := (sst_fits hS' T.e2 T.e3 T.e6).mp f
    rw [of_step T.e1 (by simp) f, g]
    simp [ofRun]
  · have g : ¬ lastA kind (st1 kind past) d c e = lastA kind (st1 kind past) c d e := fun q => f ((sst_fits hS' T.e2 T.e3 T.e6).mpr q)
    rw [of_unfit T.e1 (by simp) f, decide_eq_false (fun q => g q.symm)]
    rfl
theorem t_turned3 (hn : past.length ≤ 4) : (ofV (cs3 kind past c d e) (List.range past.length ++ [past.length + 1, past.length, past.length + 2]) true).isNone = bothV kind (st1 kind past) c d := by
  have T := trio3 (kind := kind) (past := past) (c := c) (d := d) (e := e)
  rw [ofV_run (fun k hk => by rw [cs3_len] at hk; simp; omega)]
  obtain ⟨S, hS, e1⟩ := (line3 (kind := kind) (c := c) (d := d) (e := e) hn).of [past.length + 1, past.length, past.length + 2] (by simp) past.length (Nat.le_refl _)
  simp only [st_all] at hS
  rw [e1, Nat.sub_self]
  rcases T.toDuo.turned hS past.length [past.length + 2] (by simp [T.m5, T.m6]) with ⟨h, S', hS', e2⟩ | ⟨h, q, e2⟩
  · rw [show ofRun (cs3 kind past c d e) true past.length (List.range' past.length 0 ++ [past.length + 1, past.length, past.length + 2]) S = _ from e2]
    rw [of_step T.e1 (by simp) ((sst_fits hS' T.e2 T.e3 T.e6).mpr rfl)]
    exact h.symm
  · rw [show ofRun (cs3 kind past c d e) true past.length (List.range' past.length 0 ++ [past.length + 1, past.length, past.length + 2]) S = some q from e2]
    exact h.symm
theorem t_srch3 (hn : past.length ≤ 4) : srch (cs3 kind past c d e) true 12 [] [] = if decide (lastA kind (st1 kind past) c d e = lastA kind (st1 kind past) d c e) then some (List.range past.length ++ [past.length, past.length + 1, past.length + 2]) else if bothV kind (st1 kind past) c d then some (List.range past.length ++ [past.length + 1, past.length, past.length + 2]) else none := by
  obtain ⟨S, hS, e1⟩ := (line3 (kind := kind) (c := c) (d := d) (e := e) hn).srch (by rw [cs3_len]; omega) (12 - past.length) past.length (Nat.le_refl _)
  simp only [st_all] at hS
  rw [show 12 - past.length + past.length = 12 by omega] at e1
  rw [e1, show 12 - past.length = (8 - past.length) + 4 by omega]
  exact trio3.srch hS cs3_len _
end
section
variable {kind : String} {past : List (String × Int)} {c d e : String × Int}
theorem lineC_args (hk : kind ∈ kinds5) (hw : ∀ c ∈ past, OkW kind c) : ∀ x ∈ lineC kind past, x.kind = kind ∧ x.kind ∈ kinds5 ∧ 0 ≤ x.arg ∧ x.arg ≤ 99 := by
  intro x hx
  obtain ⟨k, hk2⟩ := List.getElem?_of_mem hx
  have hlt : k < past.length := by
    have := (List.getElem?_eq_some_iff.mp hk2).1
    rwa [lineC_len] at this
  rw [lineC_get (List.getElem?_eq_getElem hlt)] at hk2
  cases hk2
  have := hw _ (List.getElem_mem hlt)
  exact ⟨rfl, hk, this.2.1, this.2.2.1⟩
theorem cs2_mem {x : CR} (h : x ∈ cs2 kind past c d) : x ∈ lineC kind past ∨ x = qCR 2 kind c (fstA kind (st1 kind past) c) 50 60 ∨ x = qCR 3 kind d (fstA kind (nxtS kind (st1 kind past) c) d) 51 61 := by
  unfold cs2 at h
  rcases List.mem_append.mp h with h | h
  · exact .inl h
  · simp only [List.mem_cons, List.not_mem_nil, or_false] at h
    exact .inr h
theorem cs2_args (hk : kind ∈ kinds5) (hw : ∀ c ∈ past, OkW kind c) (hc : OkW kind c) (hd : OkW kind d) : ∀ x ∈ cs2 kind past c d, x.kind = kind ∧ x.kind ∈ kinds5 ∧ 0 ≤ x.arg ∧ x.arg ≤ 99 := by
  intro x hx
  rcases cs2_mem hx with h | rfl | rfl
  · exact lineC_args hk hw x h
  · exact ⟨rfl, hk, hc.2.1, hc.2.2.1⟩
  · exact ⟨rfl, hk, hd.2.1, hd.2.2.1⟩
theorem cs3_args (hk : kind ∈ kinds5) (hw : ∀ c ∈ past, OkW kind c) (hc : OkW kind c) (hd : OkW kind d) (he : OkW kind e) : ∀ x ∈ cs3 kind past c d e, x.kind = kind ∧ x.kind ∈ kinds5 ∧ 0 ≤ x.arg ∧ x.arg ≤ 99 := by
  intro x hx
  unfold cs3 at hx
  rcases List.mem_append.mp hx with h | h
  · exact cs2_args hk hw hc hd x h
  · rw [List.mem_singleton.mp h]
    exact ⟨rfl, hk, he.2.1, he.2.2.1⟩
theorem cs2_fin : ∀ x ∈ cs2 kind past c d, x.fin ≠ none := by
  intro x hx
  rcases cs2_mem hx with h | rfl | rfl
  · unfold lineC at h
    obtain ⟨k, _, rfl⟩ := List.mem_map.mp h
    simp [pCR]
  · simp [qCR]
  · simp [qCR]
end
theorem rgD_two (n : Nat) : rgD 0 ((n : Int) + 2) = (List.range n ++ [n, n + 1]).map fun (k : Nat) => DV.int k := by
  rw [show (n : Int) + 2 = ((n + 2 : Nat) : Int) by omega, rgD_map, List.range_succ, List.range_succ]
  simp
theorem nsD_straight (n : Nat) : DV.tup (rgD 0 ((n : Int) + 2)) = nsD (List.range n ++ [n, n + 1]) := by rw [rgD_two]; rfl
theorem nsD_turned (n : Nat) : DV.tup (rgD 0 (n : Int) ++ [DV.int ((n : Int) + 1), DV.int n]) = nsD (List.range n ++ [n + 1, n]) := by
  rw [rgD_map]
  simp [nsD]
theorem nsD_add {l : List Nat} {n : Nat} {st : Sto} (h : l.length + 1 ≤ LIM) : gAdd (nsD l) (.tup [.int ((n : Int) + 2)]) st = some (nsD (l ++ [n + 2]), st) := by
  unfold nsD
  rw [ev_addT, if_pos (by simpa using h)]
  simp
theorem same_nsD {st : Sto} {l : List Nat} (h : l.length ≤ 1000) : Same st 1 (nsD l) (nsD l) := by
  have e : nsD l = .tup ((l.map fun (n : Nat) => (n : Int)).map DV.int) := by unfold nsD; rw [List.map_map]; rfl
  rw [e]
  exact .tup rfl (by simpa using h) same_ints
end DL

/-! PL7: while; dicts by numbers; drawn calls. -/
namespace DL
open PySem PySem.Spec PyProof.Rows L2

theorem while_W {t : ME Bool} {m : MS} {Q : Fl → Env → Sto → Prop} (P : Nat → Env → Sto → Prop) (step : ∀ n e st, P n e st → V (t e st) fun b s1 => cd b (W (m e s1) fun f e2 s2 => lp f (∃ n', n' < n ∧ P n' e2 s2) (fun f => Q f e2 s2)) (Q .nx e s1)) : ∀ (k n : Nat) (e : Env) (st : Sto), P n e st → n < k → W (sWhile t m k e st) Q
  | 0, n, e, st, _, hn => absurd hn (Nat.not_lt_zero _)
  | k + 1, n, e, st, hp, hn => by
    obtain ⟨b, s1, h1, h2⟩ := step n e st hp
    unfold sWhile
    rw [h1]
    cases b with
    | false => exact ⟨_, _, _, rfl, h2⟩
    | true =>
      obtain ⟨f, e2, s2, h3, h4⟩ := h2
      simp only [h3]
      cases f with
      | nx =>
        obtain ⟨n', h5, h6⟩ := h4
        exact while_W P step k n' e2 s2 h6 (by omega)
      | ct =>
        obtain ⟨n', h5, h6⟩ := h4
        exact while_W P step k n' e2 s2 h6 (by omega)
      | bk => exact ⟨_, _, _, rfl, h4⟩
      | rt d => exact ⟨_, _, _, rfl, h4⟩
/-! ### dicts by numbers -/
section
variable {α : Type}
def encG (f : α → DV) (S : List (Int × α)) : List (Key × DV) := S.map fun p => (.inl p.1, f p.2)
def lookG (S : List (Int × α)) (k : Int) : Option α := (S.find? fun p => decide (p.1 = k)).map (·.2)
def putG (S : List (Int × α)) (k : Int) (v : α) : List (Int × α) := if (lookG S k).isSome then S.map (fun p => if p.1 = k then (p.1, v) else p) else S ++ [(k, v)]
theorem val_encG (f : α → DV) (S : List (Int × α)) (k : Int) : valD (encG f S) (.inl k) = (lookG S k).map f := by
  unfold valD encG lookG
  rw [List.find?_map, Option.map_map, Option.map_map]
  have : ((fun kv : Key × DV => decide (kv.1 = .inl k)) ∘ fun p : Int × α => ((.inl p.1 : Key), f p.2)) = fun p : Int × α => decide (p.1 = k) := by
    funext p
    simp
  rw [this]
  rfl
theorem put_encG (f : α → DV) (S : List (Int × α)) (k : Int) (v : α) : putD (encG f S) (.inl k) (f v) = encG f (putG S k v) := by
  unfold putD putG
  rw [val_encG]
  cases h : lookG S k with
  | none => simp [encG]
  | some w =>
    simp only [Option.map_some, Option.isSome_some, if_true]
    unfold encG
    rw [List.map_map, List.map_map]
    congr 1
    funext p
    simp only [Function.comp]
    by_cases e : p.1 = k
    · simp [e]
    · simp [e]
theorem putG_len (S : List (Int × α)) (k : Int) (v : α) : (putG S k v).length ≤ S.length + 1 := by
  unfold putG
  split <;> simp
@[simp] theorem encG_len (f : α → DV) (S : List (Int × α)) : (encG f S).length = S.length := by simp [encG]
theorem look_put (S : List (Int × α)) (k : Int) (v : α) (j : Int) : lookG (putG S k v) j = if j = k then some v else lookG S j := by
  unfold putG
  cases h : lookG S k with
  | none =>
    simp only [Option.isSome_none, Bool.false_eq_true, if_false]
    unfold lookG at h ⊢
    rw [List.find?_append]
    by_cases e : j = k
    · subst e
      rw [Option.map_eq_none_iff] at h
      rw [h]
      simp
    · rw [if_neg e]
      have e2 : ¬ k = j := fun q => e q.symm
      cases q : S.find? fun p => decide (p.1 = j) with
      | none => simp [e2]
      | some p => simp
  | some w =>
    simp only [Option.isSome_some, if_true]
    by_cases e : j = k
    · subst e
      rw [if_pos rfl]
      unfold lookG at h ⊢
      rw [List.find?_map]
      have : ((fun p : Int × α => decide (p.1 = j)) ∘ fun p => if p.1 = j then (p.1, v) else p) = fun p : Int × α => decide (p.1 = j) := by
        funext p
        simp only [Function.comp]
        by_cases q : p.1 = j <;> simp [q]
      rw [this]
      cases q : S.find? fun p => decide (p.1 = j) with
      | none => rw [q] at h; cases h
      | some p =>
        have := List.find?_some q
        simp only [decide_eq_true_eq] at this
        simp [this]
    · rw [if_neg e]
      unfold lookG
      rw [List.find?_map]
      have : ((fun p : Int × α => decide (p.1 = j)) ∘ fun p => if p.1 = k then (p.1, v) else p) = fun p : Int × α => decide (p.1 = j) := by
        funext p
        simp only [Function.comp]
        by_cases q : p.1 = k <;> simp [q]
      rw [this]
      cases q : S.find? fun p => decide (p.1 = j) with
      | none => rfl
      | some p =>
        have := List.find?_some q
        simp only [decide_eq_true_eq] at this
        have e2 : ¬ p.1 = k := by rw [this]; exact e
        simp [e2]
end
/-! ### in lists, in dicts -/
theorem in_lst {st : Sto} {l : Nat} {x : DV} {ds : List DV} (h : st[l]? = some (.lst ds)) (hx : flatD x = true) (hd : ds.all flatD = true) : gIn x (.ref l) st = some (.bl (inD x ds), st) := by
  show (match itemsOf st (.ref l) with | some ds => if flatD x = true ∧ ds.all flatD = true then some (DV.bl (inD x ds), st) else none | none => _) = _
  rw [ev_itemsL h]
  simp only
  rw [if_pos ⟨hx, hd⟩]
theorem in_ints {st : Sto} {l : Nat} {x : Int} {ns : List Int} (h : st[l]? = some (.lst (ns.map DV.int))) : gIn (.int x) (.ref l) st = some (.bl (decide (x ∈ ns)), st) := by
  rw [in_lst h rfl (flat_ints ns), inD_ints]
theorem notin_dct {st : Sto} {l : Nat} {x : DV} {k : Key} {kvs : List (Key × DV)} (h : st[l]? = some (.dct kvs)) (hk : keyD x = some k) : gNotIn x (.ref l) st = some (.bl (!(valD kvs k).isSome), st) := by
  show (match itemsOf st (.ref l) with | some ds => _ | none => match st[l]?, keyD x with | some (.dct kvs), some k => some (DV.bl (!(valD kvs k).isSome), st) | _, _ => none) = _
  rw [ev_itemsR, h, hk]
theorem ne_nil {st : Sto} {a b : Nat} {ns : List Int} (h1 : st[a]? = some (.lst (ns.map DV.int))) (h2 : st[b]? = some (.lst [])) : gNe (.ref a) (.ref b) st = some (.bl (!decide (ns = [])), st) := by
  have e1 : toPS st (.ref a) = some (.list (toPs (ns.map DV.int))) := by
    show (match st[a]? with | some (.lst ds) => if ds.all (okD 8) = true then some (PyData.list (toPs ds)) else none | _ => none) = _
    rw [h1]
    simp only
    rw [if_pos (ok_ints 8 ns)]
  have e2 : toPS st (.ref b) = some (.list (toPs (([] : List Int).map DV.int))) := by
    show (match st[b]? with | some (.lst ds) => if ds.all (okD 8) = true then some (PyData.list (toPs ds)) else none | _ => none) = _
    rw [h2]
    rfl
  unfold gNe
  rw [e1, e2]
  simp only [PyData.eqv, eqv_ints]
/-! ### drawn calls -/
def geq (used : List Int) (c : Int) : Nat := (used.filter fun x => decide (c ≤ x)).length
theorem geq_dec {used : List Int} {c : Int} (h : c ∈ used) : geq used (c + 1) < geq used c := by
  unfold geq
  have e : used.filter (fun x => decide (c + 1 ≤ x)) = (used.filter fun x => decide (c ≤ x)).filter fun x => decide (x ≠ c) := by
    rw [List.filter_filter]
    congr 1
    funext x
    by_cases h1 : c ≤ x <;> by_cases h2 : x = c <;> simp [h1, h2] <;> omega
  rw [e, List.length_filter_lt_length_iff_exists]
  exact ⟨c, List.mem_filter.mpr ⟨h, by simp⟩, by simp⟩
theorem geq_le (used : List Int) (c : Int) : geq used c ≤ used.length := List.length_filter_le _ _
/-- how far the clock may have come -/
def bd (i : Nat) : Nat := i * (i + 2)
theorem bd_succ (i : Nat) : bd (i + 1) = bd i + 2 * i + 3 := by
  unfold bd
  simp only [Nat.add_mul, Nat.mul_add]
  omega
theorem bd_le {i : Nat} (h : i ≤ 5) : bd i ≤ 35 := by
  match i, h with
  | 0, _ => decide
  | 1, _ => decide
  | 2, _ => decide
  | 3, _ => decide
  | 4, _ => decide
  | 5, _ => decide
/-- a history of drawn calls -/
structure Hist (things : Int) (nat : Int → String) (cs : List CR) : Prop where
  kinds : ∀ t, nat t ∈ kinds5
  len : cs.length ≤ 5
  one : ∀ c ∈ cs, 1 ≤ c.hand ∧ c.hand ≤ 3 ∧ 0 ≤ c.thing ∧ c.thing < things ∧ c.kind = nat c.thing ∧ OkW c.kind (c.word, c.arg) ∧ 1 ≤ c.beg ∧ c.beg ≤ 60 ∧ (c.ans = none ↔ c.fin = none) ∧ (∀ a, c.ans = some a → -1 ≤ a ∧ a ≤ 99) ∧ ∀ f, c.fin = some f → c.beg + 1 ≤ f ∧ f ≤ 60
  times : (timesOf cs).Nodup
  sorted : ∀ (i j : Nat) (a b : CR), i < j → cs[i]? = some a → cs[j]? = some b → a.beg < b.beg
  hand : ∀ (i j : Nat) (a b : CR), i < j → cs[i]? = some a → cs[j]? = some b → a.hand = b.hand → ∃ f, a.fin = some f ∧ f < b.beg
theorem get_snoc {α : Type} {xs : List α} {x y : α} {i : Nat} (h : (xs ++ [x])[i]? = some y) : (i < xs.length ∧ xs[i]? = some y) ∨ (i = xs.length ∧ y = x) := by
  by_cases q : i < xs.length
  · rw [List.getElem?_append_left q] at h
    exact .inl ⟨q, h⟩
  · rw [List.getElem?_append_right (by omega)] at h
    have : i - xs.length = 0 := by
      have := (List.getElem?_eq_some_iff.mp h).1
      simp at this
      omega
    rw [this] at h
    cases h
    exact .inr ⟨by omega, rfl⟩
theorem times_snoc (cs : List CR) (c : CR) : timesOf (cs ++ [c]) = timesOf cs ++ (c.beg :: finL c) := by
  unfold timesOf
  rw [List.flatMap_append]
  simp
theorem beg_mem {cs : List CR} {c : CR} (h : c ∈ cs) : c.beg ∈ timesOf cs := List.mem_flatMap.mpr ⟨c, h, List.mem_cons_self⟩
/-- a further call -/
theorem Hist.snoc {things : Int} {nat : Int → String} {cs : List CR} {c : CR} (H : Hist things nat cs) (hl : cs.length < 5)
    (one : 1 ≤ c.hand ∧ c.hand ≤ 3 ∧ 0 ≤ c.thing ∧ c.thing < things ∧ c.kind = nat c.thing ∧ OkW c.kind (c.word, c.arg) ∧ 1 ≤ c.beg ∧ c.beg ≤ 60 ∧ (c.ans = none ↔ c.fin = none) ∧ (∀ a, c.ans = some a → -1 ≤ a ∧ a ≤ 99) ∧ ∀ f, c.fin = some f → c.beg + 1 ≤ f ∧ f ≤ 60)
    (h1 : c.beg ∉ timesOf cs) (h2 : ∀ f, c.fin = some f → f ∉ timesOf cs) (h3 : ∀ a ∈ cs, a.beg < c.beg) (h4 : ∀ a ∈ cs, a.hand = c.hand → ∃ f, a.fin = some f ∧ f < c.beg) : Hist things nat (cs ++ [c]) where
  kinds := H.kinds
  len := by simp; omega
  one := by
    intro x hx
    rcases List.mem_append.mp hx with hx | hx
    · exact H.one x hx
    · rw [List.mem_singleton.mp hx]; exact one
  times := by
    rw [times_snoc, List.nodup_append]
    refine ⟨H.times, ?_, ?_⟩
    · unfold finL
      cases hf : c.fin with
      | none => simp
      | some f =>
        have := (one.2.2.2.2.2.2.2.2.2.2 f hf).1
        simp
        omega
    · intro a ha b hb e
      subst e
      rcases List.mem_cons.mp hb with rfl | hb
      · exact h1 ha
      · unfold finL at hb
        cases hf : c.fin with
        | none => rw [hf] at hb; cases hb
        | some f =>
          rw [hf] at hb
          rw [List.mem_singleton.mp hb] at ha
          exact h2 f hf ha
  sorted := by
    intro i j a b hij ha hb
    rcases get_snoc hb with ⟨q, hb⟩ | ⟨q, rfl⟩
    · rcases get_snoc ha with ⟨r, ha⟩ | ⟨r, rfl⟩
      · exact H.sorted i j a b hij ha hb
      · omega
    · rcases get_snoc ha with ⟨r, ha⟩ | ⟨r, rfl⟩
      · exact h3 a (List.mem_of_getElem? ha)
      · omega
  hand := by
    intro i j a b hij ha hb e
    rcases get_snoc hb with ⟨q, hb⟩ | ⟨q, rfl⟩
    · rcases get_snoc ha with ⟨r, ha⟩ | ⟨r, rfl⟩
      · exact H.hand i j a b hij ha hb e
      · omega
    · rcases get_snoc ha with ⟨r, ha⟩ | ⟨r, rfl⟩
      · exact h4 a (List.mem_of_getElem? ha) e
      · omega
theorem hist_nil {things : Int} {nat : Int → String} (h : ∀ t, nat t ∈ kinds5) : Hist things nat [] where
  kinds := h
  len := by simp
  one := by simp
  times := by simp [timesOf]
  sorted := by intro i j a b _ ha; cases ha
  hand := by intro i j a b _ ha; cases ha
theorem ltD_cr (n : Nat) (c : CR) : ltD n c.d = true := by
  obtain ⟨hand, thing, kind, word, arg, ans, beg, fin⟩ := c
  cases ans <;> cases fin <;> simp [CR.d, ltD, ltDs]
theorem ltDs_cr (n : Nat) (cs : List CR) : ltDs n (cs.map CR.d) = true := by
  induction cs with
  | nil => rfl
  | cons c r ih => simp [ltDs, ltD_cr, ih]
/-! ### small things of laws -/
theorem len_succ {α : Type} {n : Nat} {l : List α} (h : l.length = n + 1) : ∃ a l', l = a :: l' ∧ l'.length = n := by
  cases l with
  | nil => cases h
  | cons a l => exact ⟨a, l, rfl, by simpa using h⟩
def cap (c : String × Int) : String × Int := (c.1, if 2 < c.2 then 2 else c.2)
theorem cap_ok {kind : String} {c : String × Int} (h : OkW kind c) : OkW kind (cap c) := by
  obtain ⟨h1, h2, h3, h4⟩ := h
  refine ⟨h1, ?_, ?_, fun q => ?_⟩
  · unfold cap; simp only; split <;> omega
  · unfold cap; simp only; split <;> omega
  · have := h4 q
    unfold cap; simp only [this]; rfl
theorem same_sv {st : Sto} {kind : String} {n : Nat} {s : SV} (h : Okk kind n s) (hn : n ≤ 1000) : Same st 1 s.d s.d := by
  cases s with
  | n i => exact .int 1 i
  | l ns =>
    unfold Okk at h
    by_cases q : kind = "cell" ∨ kind = "counter"
    · rw [if_pos q] at h
      obtain ⟨i, e, _⟩ := h
      cases e
    · rw [if_neg q] at h
      obtain ⟨ms, e, h, _⟩ := h
      cases e
      exact .tup rfl (by simp; omega) same_ints
theorem same_init (st : Sto) (kind : String) : Same st 1 (initV kind).d (initV kind).d := same_sv (okk_init kind 0) (by decide)
theorem dC_0 {c : String × Int} {st : Sto} : gIx (dC c) (.int 0) st = some (.str (Str.ofString c.1), st) := rfl
theorem dC_1 {c : String × Int} {st : Sto} : gIx (dC c) (.int 1) st = some (.int c.2, st) := rfl
theorem and_V {ma mb : ME DV} {e : Env} {st : Sto} {Q : DV → Sto → Prop} (a b : Bool) (h1 : V (ma e st) fun d s => d = .bl a ∧ s = st) (h2 : V (mb e st) fun d s => d = .bl b ∧ s = st) (q : Q (.bl (a && b)) st) : V (mAnd ma mb e st) Q := by
  obtain ⟨_, _, e1, rfl, rfl⟩ := h1
  rw [v_and, e1, V_some, kB_bl]
  cases a with
  | true =>
    obtain ⟨_, _, e2, rfl, rfl⟩ := h2
    rw [cd_t, e2, V_some]
    exact q
  | false => exact q
theorem andT_V {ma mb : ME Bool} {e : Env} {st : Sto} {Q : Bool → Sto → Prop} (a b : Bool) (h1 : V (ma e st) fun d s => d = a ∧ s = st) (h2 : V (mb e st) fun d s => d = b ∧ s = st) (q : Q (a && b) st) : V (mAndT ma mb e st) Q := by
  obtain ⟨_, _, e1, rfl, rfl⟩ := h1
  subst_vars
  rw [v_andT, e1, V_some]
  rename_i a _
  cases a with
  | true =>
    obtain ⟨_, _, e2, rfl, rfl⟩ := h2
    rw [cd_t, e2, V_some]
    exact q
  | false => exact q
theorem nodup1 (n : Nat) : (List.range n ++ [n, n + 1]).Nodup := by
  rw [List.nodup_append]
  refine ⟨List.nodup_range, by simp, fun a ha b hb => ?_⟩
  simp at ha hb
  omega
theorem nodup2 (n : Nat) : (List.range n ++ [n + 1, n]).Nodup := by
  rw [List.nodup_append]
  refine ⟨List.nodup_range, by simp, fun a ha b hb => ?_⟩
  simp at ha hb
  omega
theorem nodup3 (n : Nat) : (List.range n ++ [n, n + 1, n + 2]).Nodup := by
  rw [List.nodup_append]
  refine ⟨List.nodup_range, by simp, fun a ha b hb => ?_⟩
  simp at ha hb
  omega
theorem nodup4 (n : Nat) : (List.range n ++ [n + 1, n, n + 2]).Nodup := by
  rw [List.nodup_append]
  refine ⟨List.nodup_range, by simp, fun a ha b hb => ?_⟩
  simp at ha hb
  omega
theorem ne_bb {st : Sto} {a b : Nat} {x y z w : Bool} (h1 : st[a]? = some (.lst [.bl x, .bl y])) (h2 : st[b]? = some (.lst [.bl z, .bl w])) : gNe (.ref a) (.ref b) st = some (.bl (!((x == z) && (y == w))), st) := by
  have e : ∀ (a : Nat) (x y : Bool), st[a]? = some (.lst [.bl x, .bl y]) → toPS st (.ref a) = some (.list [.bool x, .bool y]) := fun a x y h => by
    show (match st[a]? with | some (.lst ds) => if ds.all (okD 8) = true then some (PyData.list (toPs ds)) else none | _ => none) = _
    rw [h]
    rfl
  unfold gNe
  rw [e a x y h1, e b z w h2]
  simp only [PyData.eqv, PyData.eqvAll, Bool.and_true]
end DL

/-! PL8: the search finds the first of all orders that are right. -/
namespace DL
open PySem PySem.Spec PyProof.Rows L2

def extL (n : Nat) (row : List Nat) : List (List Nat) := (leftOf n row).map fun x => row ++ [x]
def allP (n : Nat) : Nat → List Nat → List (List Nat)
  | 0, row => [row]
  | m + 1, row => (leftOf n row).flatMap fun x => allP n m (row ++ [x])
def rowsAt (n : Nat) : Nat → List (List Nat)
  | 0 => [[]]
  | m + 1 => (rowsAt n m).flatMap (extL n)
theorem allP_ext (n : Nat) : ∀ (m : Nat) (r : List Nat), (allP n m r).flatMap (extL n) = allP n (m + 1) r
  | 0, r => by
    show [r].flatMap (extL n) = (leftOf n r).flatMap fun x => [r ++ [x]]
    rw [List.flatMap_singleton]
    unfold extL
    rw [List.map_eq_flatMap]
  | m + 1, r => by
    show ((leftOf n r).flatMap fun x => allP n m (r ++ [x])).flatMap (extL n) = (leftOf n r).flatMap fun x => allP n (m + 1) (r ++ [x])
    rw [List.flatMap_assoc]
    congr 1
    funext x
    exact allP_ext n m _
theorem rows_all (n : Nat) : ∀ m, rowsAt n m = allP n m []
  | 0 => rfl
  | m + 1 => by
    show (rowsAt n m).flatMap (extL n) = _
    rw [rows_all n m, allP_ext]
/-- what an order of them all is made of -/
theorem allP_mem {n : Nat} : ∀ {m : Nat} {row r : List Nat}, m = (leftOf n row).length → r ∈ allP n m row → ∃ rest, r = row ++ rest ∧ rest.length = m ∧ rest.Nodup ∧ ∀ o, o ∈ rest ↔ o ∈ leftOf n row
  | 0, row, r, hm, hr => by
    obtain rfl : r = row := List.mem_singleton.mp hr
    have : leftOf n r = [] := List.eq_nil_of_length_eq_zero hm.symm
    exact ⟨[], by simp, rfl, List.nodup_nil, fun o => by rw [this]⟩
  | m + 1, row, r, hm, hr => by
    obtain ⟨x, hx, hr⟩ := List.mem_flatMap.mp hr
    have hl : (leftOf n (row ++ [x])).length = m := by
      have hnd : (leftOf n row).Nodup := List.nodup_range.filter _
      have e : leftOf n (row ++ [x]) = (leftOf n row).erase x := by
        rw [left_snoc, hnd.erase_eq_filter]
        congr 1
        funext y
        by_cases h : y = x <;> simp [h]
      rw [e, List.length_erase_of_mem hx]
      omega
    obtain ⟨rest, rfl, h1, h2, h3⟩ := allP_mem hl.symm hr
    have hf : ∀ o, o ∈ leftOf n (row ++ [x]) ↔ o ∈ leftOf n row ∧ o ≠ x := fun o => by
      rw [left_snoc, List.mem_filter]
      simp
    refine ⟨x :: rest, by simp, by simp [h1], ?_, fun o => ?_⟩
    · rw [List.nodup_cons]
      exact ⟨fun h => ((hf x).mp ((h3 x).mp h)).2 rfl, h2⟩
    · rw [List.mem_cons, h3, hf]
      constructor
      · rintro (rfl | ⟨h, _⟩)
        · exact hx
        · exact h
      · intro h
        by_cases e : o = x
        · exact .inl e
        · exact .inr ⟨h, e⟩
theorem left_len {n : Nat} : (leftOf n []).length = n := by unfold leftOf; simp
theorem left_snoc_len {n : Nat} {row : List Nat} {x : Nat} (hx : x ∈ leftOf n row) : (leftOf n (row ++ [x])).length + 1 = (leftOf n row).length := by
  have hnd : (leftOf n row).Nodup := List.nodup_range.filter _
  have e : leftOf n (row ++ [x]) = (leftOf n row).erase x := by
    rw [left_snoc, hnd.erase_eq_filter]
    congr 1
    funext y
    by_cases h : y = x <;> simp [h]
  have := List.length_pos_of_mem hx
  rw [e, List.length_erase_of_mem hx]
  omega
theorem find_ff {α : Type} : ∀ {l : List α}, l.find? (fun _ => false) = none
  | [] => rfl
  | _ :: l => by rw [List.find?_cons]; exact find_ff
theorem find_congr {α : Type} {p q : α → Bool} : ∀ {l : List α}, (∀ x ∈ l, p x = q x) → l.find? p = l.find? q
  | [], _ => rfl
  | a :: l, h => by
    rw [List.find?_cons, List.find?_cons, h a List.mem_cons_self, find_congr fun x hx => h x (List.mem_cons_of_mem _ hx)]
theorem findSome_congr {α β : Type} {f g : α → Option β} : ∀ {l : List α}, (∀ x ∈ l, f x = g x) → l.findSome? f = l.findSome? g
  | [], _ => rfl
  | a :: l, h => by
    rw [List.findSome?_cons, List.findSome?_cons, h a List.mem_cons_self, findSome_congr fun x hx => h x (List.mem_cons_of_mem _ hx)]
theorem of_place {cs : List CR} {bt : Bool} : ∀ (r : List Nat) (p q : Nat) (S : SS), (ofRun cs bt p r S).isNone = (ofRun cs bt q r S).isNone
  | [], _, _, _ => rfl
  | k :: r, p, q, S => by
    rw [of_cons, of_cons]
    split
    · rfl
    · split
      · split
        · exact of_place r _ _ _
        · rfl
      · rfl
/-- the order is right from there on -/
def right (cs : List CR) (bt : Bool) (r : List Nat) (S : SS) : Bool := (ofRun cs bt 0 r S).isNone
theorem right_nil {cs : List CR} {bt : Bool} {S : SS} : right cs bt [] S = true := rfl
theorem right_cons {cs : List CR} {bt : Bool} {k : Nat} {r : List Nat} {S : SS} {c : CR} (hc : cs[k]? = some c) : right cs bt (k :: r) S = (!(r.any fun o => mcfA cs bt o k) && (decide (fits S c) && right cs bt r (stepS S c))) := by
  unfold right
  rw [of_cons, hc]
  cases r.any fun o => mcfA cs bt o k with
  | true => rfl
  | false =>
    simp only [Bool.false_eq_true, if_false]
    by_cases f : fits S c
    · rw [if_pos f, decide_eq_true f, of_place r (0 + 1) 0]
      rfl
    · rw [if_neg f, decide_eq_false f]
      rfl
theorem srch_find {cs : List CR} {bt : Bool} (hA : ∀ (k : Nat) (c : CR), cs[k]? = some c → c.ans ≠ none) : ∀ (m f : Nat) (done : List Nat) (S : SS), m = (leftOf cs.length done).length → m < f → srch cs bt f done S = (allP cs.length m done).find? fun r => right cs bt (r.drop done.length) S
  | m, 0, done, S, hm, hf => absurd hf (Nat.not_lt_zero _)
  | 0, f + 1, done, S, hm, hf => by
    have hl : leftOf cs.length done = [] := List.eq_nil_of_length_eq_zero hm.symm
    rw [srch_all (by rw [hl]; rfl)]
    show some done = [done].find? _
    rw [List.find?_cons, List.drop_length]
    rfl
  | m + 1, f + 1, done, S, hm, hf => by
    have hnn : allNone cs (leftOf cs.length done) = false := by
      cases hl : leftOf cs.length done with
      | nil => rw [hl] at hm; cases hm
      | cons k r =>
        have hk := left_lt (n := cs.length) (done := done) (k := k) (by rw [hl]; exact List.mem_cons_self)
        have hc : cs[k]? = some cs[k] := List.getElem?_eq_getElem hk
        unfold allNone
        rw [List.all_cons, hc]
        cases ha : cs[k].ans with
        | none => exact absurd ha (hA k _ hc)
        | some a => simp [ha]
    rw [srch_try hnn]
    show _ = ((leftOf cs.length done).flatMap fun x => allP cs.length m (done ++ [x])).find? _
    rw [List.find?_flatMap]
    refine findSome_congr fun x hx => ?_
    have hxl := left_lt hx
    have hc : cs[x]? = some cs[x] := List.getElem?_eq_getElem hxl
    have hlen := left_snoc_len hx
    have hpred : ∀ r ∈ allP cs.length m (done ++ [x]), right cs bt (r.drop done.length) S = (!blocked cs bt (leftOf cs.length done) x && (decide (fits S cs[x]) && right cs bt (r.drop (done ++ [x]).length) (stepS S cs[x]))) := by
      intro r hr
      obtain ⟨rest, rfl, _, _, hmem⟩ := allP_mem (by omega) hr
      rw [List.drop_left, List.append_assoc, List.drop_left]
      show right cs bt (x :: rest) S = _
      rw [right_cons hc]
      congr 2
      unfold blocked
      rw [Bool.eq_iff_iff, List.any_eq_true, List.any_eq_true]
      constructor
      · rintro ⟨o, ho, h⟩
        have ho := (hmem o).mp ho
        rw [left_snoc, List.mem_filter] at ho
        exact ⟨o, ho.1, by rw [h, Bool.and_true]; exact ho.2⟩
      · rintro ⟨o, ho, h⟩
        rw [Bool.and_eq_true] at h
        refine ⟨o, (hmem o).mpr ?_, h.2⟩
        rw [left_snoc, List.mem_filter]
        exact ⟨ho, h.1⟩
    rw [find_congr hpred]
    cases hb : blocked cs bt (leftOf cs.length done) x with
    | true =>
      rw [try_blocked hb]
      simp [find_ff]
    | false =>
      by_cases ff : fits S cs[x]
      · rw [try_go hc hb ff, srch_find hA m f (done ++ [x]) (stepS S cs[x]) (by omega) (by omega)]
        simp [ff]
      · rw [try_unfit hc ff]
        simp [ff, find_ff]
/-- all answered: the search and the orders -/
theorem srch_rows {cs : List CR} {bt : Bool} (hA : ∀ c ∈ cs, c.ans ≠ none) (hl : cs.length ≤ 11) : srch cs bt 12 [] [] = (rowsAt cs.length cs.length).find? fun r => right cs bt r [] := by
  rw [srch_find (fun k c h => hA c (List.mem_of_getElem? h)) cs.length 12 [] [] left_len.symm (by omega), rows_all]
  rfl
theorem row_mem {n : Nat} {r : List Nat} (h : r ∈ rowsAt n n) : r.length = n ∧ r.Nodup ∧ ∀ o, o ∈ r ↔ o < n := by
  rw [rows_all] at h
  obtain ⟨rest, rfl, h1, h2, h3⟩ := allP_mem left_len.symm h
  refine ⟨by simpa using h1, by simpa using h2, fun o => ?_⟩
  rw [h3]
  unfold leftOf
  simp
theorem ofV_right {cs : List CR} {bt : Bool} {r : List Nat} (h : ∀ k, k < cs.length → k ∈ r) : (ofV cs r bt).isNone = right cs bt r [] := by
  rw [ofV_run h]
  rfl
/-- the same calls, told with less order -/
structure Like (cs ds : List CR) : Prop where
  len : cs.length = ds.length
  same : ∀ (k : Nat) (c d : CR), cs[k]? = some c → ds[k]? = some d → c.thing = d.thing ∧ c.kind = d.kind ∧ c.word = d.word ∧ c.arg = d.arg ∧ c.ans = d.ans
theorem like_step {c d : CR} {S : SS} (h : c.thing = d.thing ∧ c.kind = d.kind ∧ c.word = d.word ∧ c.arg = d.arg ∧ c.ans = d.ans) : stepS S c = stepS S d ∧ (fits S c ↔ fits S d) := by
  obtain ⟨h1, h2, h3, h4, h5⟩ := h
  have e : stOf S c = stOf S d := by unfold stOf; rw [h1, h2]
  unfold stepS fits
  rw [e, h1, h2, h3, h4, h5]
  exact ⟨rfl, Iff.rfl⟩
theorem right_mono {cs ds : List CR} {bt : Bool} (L : Like cs ds) (hm : ∀ i j, mcfA ds bt i j = true → mcfA cs bt i j = true) : ∀ (r : List Nat) (S : SS), (∀ k ∈ r, k < cs.length) → right cs bt r S = true → right ds bt r S = true
  | [], _, _, _ => rfl
  | k :: r, S, hr, h => by
    have hk := hr k List.mem_cons_self
    have hc : cs[k]? = some cs[k] := List.getElem?_eq_getElem hk
    have hd : ds[k]? = some (ds[k]'(by rw [← L.len]; exact hk)) := List.getElem?_eq_getElem _
    obtain ⟨e1, e2⟩ := like_step (S := S) (L.same k _ _ hc hd)
    rw [right_cons hc, Bool.and_eq_true, Bool.and_eq_true] at h
    rw [right_cons hd, Bool.and_eq_true, Bool.and_eq_true]
    refine ⟨?_, ?_, ?_⟩
    · have h1 := h.1
      rw [Bool.not_eq_true', List.any_eq_false] at h1 ⊢
      intro o ho q
      exact h1 o ho (hm o k q)
    · rw [decide_eq_true_eq, ← e2]
      exact decide_eq_true_eq.mp h.2.1
    · rw [← e1]
      exact right_mono L hm r _ (fun x hx => hr x (List.mem_cons_of_mem _ hx)) h.2.2
/-! ### one after another -/
def okSeq : List CR → SS → Bool
  | [], _ => true
  | c :: r, S => decide (fits S c) && okSeq r (stepS S c)
theorem seq_srch {cs : List CR} (hA : ∀ c ∈ cs, c.ans ≠ none) (hb : ∀ i j, i < j → j < cs.length → mcfA cs true i j = true) (hn : ∀ i j, i < cs.length → j ≤ i → mcfA cs true i j = false) : ∀ (m k : Nat) (S : SS) (f : Nat), k + m = cs.length → m < f → srch cs true f (List.range k) S = if okSeq (cs.drop k) S = true then some (List.range cs.length) else none
  | m, k, S, 0, _, hf => absurd hf (Nat.not_lt_zero _)
  | 0, k, S, f + 1, hk, _ => by
    have hl : leftOf cs.length (List.range k) = [] := by
      rw [left_range (by omega), show cs.length - k = 0 by omega]
      rfl
    rw [srch_all (by rw [hl]; rfl), show k = cs.length by omega, List.drop_length]
    rfl
  | m + 1, k, S, f + 1, hk, hf => by
    have hlt : k < cs.length := by omega
    have hc : cs[k]? = some cs[k] := List.getElem?_eq_getElem hlt
    have hl : leftOf cs.length (List.range k) = k :: List.range' (k + 1) m := by
      rw [left_range (by omega), show cs.length - k = m + 1 by omega, List.range'_succ]
    have hnn : allNone cs (k :: List.range' (k + 1) m) = false := by
      unfold allNone
      rw [List.all_cons, hc]
      cases ha : cs[k].ans with
      | none => exact absurd ha (hA _ (List.getElem_mem _))
      | some a => simp [ha]
    have hbk : blocked cs true (leftOf cs.length (List.range k)) k = false := by
      rw [hl]
      refine blocked_f fun o ho => ?_
      rcases List.mem_cons.mp ho with rfl | ho
      · exact .inl rfl
      · have := List.mem_range'_1.mp ho
        exact .inr (hn o k (by omega) (by omega))
    have hrest : (List.range' (k + 1) m).findSome? (tryV cs true f (List.range k) S) = none := by
      rw [List.findSome?_eq_none_iff]
      intro o ho
      have := List.mem_range'_1.mp ho
      refine try_blocked ?_
      rw [hl]
      exact blocked_t List.mem_cons_self (by omega) (hb k o (by omega) (by omega))
    rw [srch_try (by rw [hl]; exact hnn), hl, List.findSome?_cons, hrest, List.drop_eq_getElem_cons hlt]
    show _ = if (decide (fits S cs[k]) && okSeq (cs.drop (k + 1)) (stepS S cs[k])) = true then _ else _
    by_cases ff : fits S cs[k]
    · rw [try_go hc hbk ff, ← List.range_succ, seq_srch hA hb hn m (k + 1) (stepS S cs[k]) f (by omega) (by omega), decide_eq_true ff, Bool.true_and]
      cases okSeq (cs.drop (k + 1)) (stepS S cs[k]) <;> rfl
    · rw [try_unfit hc ff, decide_eq_false ff]
      rfl
/-- the calls of one thing -/
def ofT (cs : List CR) (t : Int) : List CR := cs.filter fun c => decide (c.thing = t)
def pairsOf (cs : List CR) : List (String × Int) := cs.map fun c => (c.word, c.arg)
def ansOf (cs : List CR) : List (Option Int) := cs.map (·.ans)
theorem look_step {S : SS} {c : CR} {t : Int} : lookA (stepS S c) t = if t = c.thing then some (callV c.kind (stOf S c) c.word c.arg).1 else lookA S t := by
  unfold stepS
  have h := look_put (α := SV) S c.thing (callV c.kind (stOf S c) c.word c.arg).1 t
  exact h
theorem seq_things {nat : Int → String} : ∀ (cs : List CR) (S : SS), (∀ c ∈ cs, c.kind = nat c.thing ∧ c.ans ≠ none) → (okSeq cs S = true ↔ ∀ t, ansOf (ofT cs t) = (runV (nat t) ((lookA S t).getD (initV (nat t))) (pairsOf (ofT cs t))).2.map some)
  | [], S, _ => by simp [okSeq, ofT, ansOf, pairsOf, runV]
  | c :: r, S, h => by
    obtain ⟨hk, ha⟩ := h c List.mem_cons_self
    obtain ⟨a, ha⟩ := Option.ne_none_iff_exists'.mp ha
    have hst : stOf S c = (lookA S c.thing).getD (initV (nat c.thing)) := by unfold stOf; rw [hk]
    have ih := seq_things (nat := nat) r (stepS S c) fun x hx => h x (List.mem_cons_of_mem _ hx)
    show (decide (fits S c) && okSeq r (stepS S c)) = true ↔ _
    rw [Bool.and_eq_true, ih, decide_eq_true_eq]
    have hf : fits S c ↔ a = (callV (nat c.thing) ((lookA S c.thing).getD (initV (nat c.thing))) c.word c.arg).2 := by
      unfold fits
      rw [hst, ha, hk]
      simp
    have hcons : ofT (c :: r) c.thing = c :: ofT r c.thing := by unfold ofT; rw [List.filter_cons]; simp
    have hother : ∀ t, t ≠ c.thing → ofT (c :: r) t = ofT r t := fun t ht => by
      unfold ofT
      rw [List.filter_cons]
      have : ¬ c.thing = t := fun e => ht e.symm
      simp [this]
    have hl1 : lookA (stepS S c) c.thing = some (callV (nat c.thing) ((lookA S c.thing).getD (initV (nat c.thing))) c.word c.arg).1 := by rw [look_step, if_pos rfl, hst, hk]
    constructor
    · rintro ⟨h1, h2⟩ t
      by_cases e : t = c.thing
      · subst e
        have h3 := h2 c.thing
        rw [hl1] at h3
        rw [hcons]
        show c.ans :: ansOf (ofT r c.thing) = ((runV _ _ ((c.word, c.arg) :: pairsOf (ofT r c.thing))).2).map some
        rw [h3, ha, hf.mp h1]
        rfl
      · have h3 := h2 t
        rw [look_step, if_neg e] at h3
        rw [hother t e]
        exact h3
    · intro h1
      have h2 := h1 c.thing
      rw [hcons] at h2
      have h2 : c.ans :: ansOf (ofT r c.thing) = some (callV (nat c.thing) ((lookA S c.thing).getD (initV (nat c.thing))) c.word c.arg).2 :: ((runV (nat c.thing) (callV (nat c.thing) ((lookA S c.thing).getD (initV (nat c.thing))) c.word c.arg).1 (pairsOf (ofT r c.thing))).2).map some := h2
      rw [List.cons.injEq] at h2
      refine ⟨hf.mpr (by rw [ha] at h2; exact Option.some.inj h2.1), fun t => ?_⟩
      by_cases e : t = c.thing
      · subst e
        rw [hl1]
        exact h2.2
      · rw [look_step, if_neg e, ← hother t e]
        exact h1 t
/-! ### rows of numbers -/
theorem rows_len (n : Nat) : ∀ (k : Nat) (r : List Nat), r ∈ rowsAt n k → r.length = k
  | 0, r, h => by rw [List.mem_singleton.mp h]; rfl
  | k + 1, r, h => by
    obtain ⟨q, hq, h⟩ := List.mem_flatMap.mp h
    obtain ⟨x, _, rfl⟩ := List.mem_map.mp h
    rw [List.length_append, rows_len n k q hq]
    rfl
theorem ext_len (n : Nat) (r : List Nat) : (extL n r).length ≤ n := by
  unfold extL leftOf
  rw [List.length_map]
  exact Nat.le_trans (List.length_filter_le _ _) (by simp)
theorem flat_len {n : Nat} : ∀ (L : List (List Nat)), (L.flatMap (extL n)).length ≤ n * L.length
  | [] => by simp
  | r :: L => by
    rw [List.flatMap_cons, List.length_append, List.length_cons, Nat.mul_add, Nat.mul_one]
    have := ext_len n r
    have := flat_len (n := n) L
    omega
theorem rows_many {n : Nat} (hn : n ≤ 5) : ∀ k, (rowsAt n k).length ≤ 5 ^ k
  | 0 => by simp [rowsAt]
  | k + 1 => by
    have h1 := flat_len (n := n) (rowsAt n k)
    have h2 := rows_many hn k
    have h3 : n * (rowsAt n k).length ≤ 5 * 5 ^ k := Nat.mul_le_mul hn h2
    rw [Nat.pow_succ, Nat.mul_comm]
    exact Nat.le_trans h1 h3
theorem notin_nsD {x : Nat} {r : List Nat} {st : Sto} : gNotIn (.int x) (nsD r) st = some (.bl (decide (x ∉ r)), st) := by
  unfold nsD
  rw [ev_notinT, if_pos ⟨rfl, flat_nats r⟩, inD_nats]
  by_cases h : x ∈ r <;> simp [h]
theorem nsD_add1 {l : List Nat} {m : Nat} {st : Sto} (h : l.length + 1 ≤ LIM) : gAdd (nsD l) (.tup [.int m]) st = some (nsD (l ++ [m]), st) := by
  unfold nsD
  rw [ev_addT, if_pos (by simpa using h)]
  simp
theorem ltD_nsD' (n : Nat) (l : List Nat) : ltD n (nsD l) = true := by
  have := ltDs_ints (n := n) (l.map fun (n : Nat) => (n : Int))
  rw [List.map_map] at this
  exact this
theorem ltDs_nsD (n : Nat) (L : List (List Nat)) : ltDs n (L.map nsD) = true := by
  induction L with
  | nil => rfl
  | cons r L ih => simp [ltDs, ltD_nsD', ih]
end DL

/-! PL9: drawn calls led on. -/
namespace DL
open PySem PySem.Spec PyProof.Rows L2

/-- the times of a call -/
def tl (c : CR) : List Int := c.beg :: finL c
theorem okh_of {cs : List CR} (ok : ∀ c ∈ cs, OkC c) (dis : ∀ (i j : Nat) (a b : CR), i < j → cs[i]? = some a → cs[j]? = some b → ∀ x ∈ tl a, ∀ y ∈ tl b, x ≠ y) (srt : ∀ (i j : Nat) (a b : CR), i < j → cs[i]? = some a → cs[j]? = some b → a.beg ≤ b.beg)
    (hand : ∀ (i j : Nat) (a b : CR), i < j → cs[i]? = some a → cs[j]? = some b → a.hand = b.hand → ∃ f, a.fin = some f ∧ f ≤ b.beg) (kind : ∀ (i j : Nat) (a b : CR), i < j → cs[i]? = some a → cs[j]? = some b → a.thing = b.thing → a.kind = b.kind) : OkH cs where
  ok := ok
  times := by
    unfold timesOf List.Nodup
    rw [List.pairwise_flatMap]
    refine ⟨fun c hc => ?_, ?_⟩
    · unfold finL
      cases hf : c.fin with
      | none => simp
      | some f =>
        have := (ok c hc).fin f hf
        simp
        omega
    · rw [List.pairwise_iff_getElem]
      intro i j hi hj hij
      exact dis i j _ _ hij (List.getElem?_eq_getElem hi) (List.getElem?_eq_getElem hj)
  sorted := fun k a b ha hb => srt k (k + 1) a b (Nat.lt_succ_self _) ha hb
  hand := hand
  kind := kind
/-- ended calls that were drawn -/
structure Drw (things : Int) (nat : Int → String) (cs : List CR) : Prop where
  kinds : ∀ t, nat t ∈ kinds5
  len : cs.length ≤ 5
  one : ∀ c ∈ cs, 1 ≤ c.hand ∧ c.hand ≤ 3 ∧ 0 ≤ c.thing ∧ c.thing < things ∧ c.kind = nat c.thing ∧ OkW c.kind (c.word, c.arg) ∧ 1 ≤ c.beg ∧ c.beg ≤ 60 ∧ (∃ a, c.ans = some a ∧ -1 ≤ a ∧ a ≤ 99) ∧ ∃ f, c.fin = some f ∧ c.beg + 1 ≤ f ∧ f ≤ 60
  srt : cs.Pairwise fun a b => a.beg < b.beg
  dis : cs.Pairwise fun a b => ∀ x ∈ tl a, ∀ y ∈ tl b, x ≠ y
theorem drw_of {things : Int} {nat : Int → String} {cs : List CR} (H : Hist things nat cs) : Drw things nat (cs.filter fun c => c.fin.isSome) where
  kinds := H.kinds
  len := Nat.le_trans (List.length_filter_le _ _) H.len
  one := by
    intro c hc
    obtain ⟨h1, h2⟩ := List.mem_filter.mp hc
    obtain ⟨f, hf⟩ := Option.isSome_iff_exists.mp h2
    obtain ⟨a1, a2, a3, a4, a5, a6, a7, a8, a9, a10, a11⟩ := H.one c h1
    have hn : c.ans ≠ none := fun e => by rw [a9.mp e] at hf; cases hf
    obtain ⟨a, ha⟩ := Option.ne_none_iff_exists'.mp hn
    exact ⟨a1, a2, a3, a4, a5, a6, a7, a8, ⟨a, ha, a10 a ha⟩, f, hf, a11 f hf⟩
  srt := by
    refine List.Pairwise.filter _ ?_
    rw [List.pairwise_iff_getElem]
    intro i j hi hj hij
    exact H.sorted i j _ _ hij (List.getElem?_eq_getElem hi) (List.getElem?_eq_getElem hj)
  dis := by
    have h := H.times
    unfold timesOf List.Nodup at h
    rw [List.pairwise_flatMap] at h
    exact h.2.filter _
def ixD (f : Nat → CR → CR) (l : List CR) (k : Nat) : DV := match l[k]? with | some c => (f k c).d | none => DV.non
theorem ixD_at {f : Nat → CR → CR} {l : List CR} {k : Nat} {c : CR} (h : l[k]? = some c) : ixD f l k = (f k c).d := by unfold ixD; rw [h]
theorem ix_map (f : Nat → CR → CR) (l : List CR) : (List.range l.length).map (ixD f l) = (l.mapIdx f).map CR.d := by
  apply List.ext_getElem?
  intro i
  rw [List.getElem?_map, List.getElem?_map, List.getElem?_mapIdx]
  by_cases h : i < l.length
  · rw [List.getElem?_range h, List.getElem?_eq_getElem h]
    simp [h, ixD]
  · rw [List.getElem?_eq_none_iff.mpr (by simpa using h), List.getElem?_eq_none_iff.mpr (by omega : l.length ≤ i)]
    rfl
def fC (k : Nat) (c : CR) : CR := { c with hand := (k : Int) + 1, beg := 10 * c.beg, fin := c.fin.map (10 * ·) }
def fW (k : Nat) (c : CR) : CR := { c with beg := (k : Int), fin := some (900 + (k : Int)) }
def fA (k : Nat) (c : CR) : CR := { c with beg := 2 * (k : Int), fin := some (2 * (k : Int) + 1) }
def LgAt (cs ls : List CR) : Prop := ∀ (k : Nat) (c d : CR), cs[k]? = some c → ls[k]? = some d → ∃ f v, c.fin = some f ∧ 0 ≤ v ∧ v < 30 ∧ d = { c with fin := some (f + 10 * v + 1 + (k : Int)) }
theorem lg_nil {cs : List CR} : LgAt cs [] := fun k c d _ h => by cases h
theorem LgAt.snoc {cs ls : List CR} (h : LgAt cs ls) {c : CR} {f v : Int} (hc : cs[ls.length]? = some c) (hf : c.fin = some f) (v0 : 0 ≤ v) (v1 : v < 30) : LgAt cs (ls ++ [{ c with fin := some (f + 10 * v + 1 + (ls.length : Int)) }]) := fun k x y hx hy => by
  rcases get_snoc hy with ⟨_, q⟩ | ⟨rfl, rfl⟩
  · exact h k x y hx q
  · rw [hc] at hx
    cases hx
    exact ⟨f, v, hf, v0, v1, rfl⟩
/-- ends led on -/
structure Longer (cs ls : List CR) : Prop where
  len : ls.length = cs.length
  at_ : ∀ (k : Nat) (c d : CR), cs[k]? = some c → ls[k]? = some d → ∃ f v, c.fin = some f ∧ 0 ≤ v ∧ v < 30 ∧ d = { c with fin := some (f + 10 * v + 1 + (k : Int)) }
theorem get_ix {f : Nat → CR → CR} {l : List CR} {k : Nat} {x : CR} (h : (l.mapIdx f)[k]? = some x) : ∃ c, l[k]? = some c ∧ x = f k c := by
  rw [List.getElem?_mapIdx] at h
  obtain ⟨c, h1, h2⟩ := Option.map_eq_some_iff.mp h
  exact ⟨c, h1, h2.symm⟩
theorem mem_ix {f : Nat → CR → CR} {l : List CR} {x : CR} (h : x ∈ l.mapIdx f) : ∃ k c, l[k]? = some c ∧ c ∈ l ∧ x = f k c := by
  obtain ⟨k, hk⟩ := List.getElem?_of_mem h
  obtain ⟨c, h1, h2⟩ := get_ix hk
  exact ⟨k, c, h1, List.mem_of_getElem? h1, h2⟩
section
variable {things : Int} {nat : Int → String} {ds ls : List CR}
theorem Drw.lt (D : Drw things nat ds) {i j : Nat} {a b : CR} (h : i < j) (ha : ds[i]? = some a) (hb : ds[j]? = some b) : a.beg < b.beg ∧ ∀ x ∈ tl a, ∀ y ∈ tl b, x ≠ y := by
  obtain ⟨hi, rfl⟩ := List.getElem?_eq_some_iff.mp ha
  obtain ⟨hj, rfl⟩ := List.getElem?_eq_some_iff.mp hb
  exact ⟨List.pairwise_iff_getElem.mp D.srt i j hi hj h, List.pairwise_iff_getElem.mp D.dis i j hi hj h⟩
theorem Drw.ix (D : Drw things nat ds) {k : Nat} {c : CR} (h : ds[k]? = some c) : k < 5 := by
  have := (List.getElem?_eq_some_iff.mp h).1
  have := D.len
  omega
/-- the calls of the law -/
theorem okh_calls (D : Drw things nat ds) (ht : things ≤ 2) : OkH (ds.mapIdx fC) := by
  refine okh_of (fun x hx => ?_) (fun i j a b hij ha hb => ?_) (fun i j a b hij ha hb => ?_) (fun i j a b hij ha hb e => ?_) (fun i j a b hij ha hb e => ?_)
  · obtain ⟨k, c, hk, hc, rfl⟩ := mem_ix hx
    obtain ⟨a1, a2, a3, a4, a5, a6, a7, a8, ⟨a, ha, ha2⟩, f, hf, hf2⟩ := D.one c hc
    have := D.ix hk
    constructor
    · simp only [fC]; omega
    · simp only [fC]; omega
    · simp only [fC]; rw [a5]; exact D.kinds _
    · exact a6.1
    · exact ⟨a6.2.1, a6.2.2.1⟩
    · exact a6.2.2.2
    · simp only [fC]; omega
    · simp [fC, ha, hf]
    · intro x hx
      simp only [fC] at hx
      rw [ha] at hx; cases hx; exact ha2
    · intro x hx
      simp only [fC] at hx ⊢
      rw [hf] at hx
      simp only [Option.map_some, Option.some.injEq] at hx
      omega
  · obtain ⟨c, hc, rfl⟩ := get_ix ha
    obtain ⟨d, hd, rfl⟩ := get_ix hb
    obtain ⟨_, _, _, _, _, _, _, _, _, f, hf, _⟩ := D.one c (List.mem_of_getElem? hc)
    obtain ⟨_, _, _, _, _, _, _, _, _, f', hf', _⟩ := D.one d (List.mem_of_getElem? hd)
    have h := (D.lt hij hc hd).2
    intro x hx y hy
    simp [tl, finL, fC, hf] at hx
    simp [tl, finL, fC, hf'] at hy
    simp [tl, finL, hf, hf'] at h
    rcases hx with rfl | rfl <;> rcases hy with rfl | rfl <;> omega
  · obtain ⟨c, hc, rfl⟩ := get_ix ha
    obtain ⟨d, hd, rfl⟩ := get_ix hb
    have := (D.lt hij hc hd).1
    simp only [fC]
    omega
  · obtain ⟨c, hc, rfl⟩ := get_ix ha
    obtain ⟨d, hd, rfl⟩ := get_ix hb
    simp only [fC] at e
    omega
  · obtain ⟨c, hc, rfl⟩ := get_ix ha
    obtain ⟨d, hd, rfl⟩ := get_ix hb
    simp only [fC] at e ⊢
    rw [(D.one c (List.mem_of_getElem? hc)).2.2.2.2.1, (D.one d (List.mem_of_getElem? hd)).2.2.2.2.1, e]
theorem Longer.get (L : Longer (ds.mapIdx fC) ls) {k : Nat} {x : CR} (h : ls[k]? = some x) : ∃ c f v, ds[k]? = some c ∧ c.fin = some f ∧ 0 ≤ v ∧ v < 30 ∧ x = { fC k c with fin := some (10 * f + 10 * v + 1 + (k : Int)) } := by
  have hk := (List.getElem?_eq_some_iff.mp h).1
  rw [L.len, List.length_mapIdx] at hk
  have hc : ds[k]? = some ds[k] := List.getElem?_eq_getElem hk
  have hm : (ds.mapIdx fC)[k]? = some (fC k ds[k]) := by rw [List.getElem?_mapIdx, hc]; rfl
  obtain ⟨f, v, h1, h2, h3, h4⟩ := L.at_ k _ _ hm h
  simp only [fC] at h1
  obtain ⟨g, h5, h6⟩ := Option.map_eq_some_iff.mp h1
  refine ⟨_, g, v, hc, h5, h2, h3, ?_⟩
  rw [h4, ← h6]
theorem okh_longer (D : Drw things nat ds) (ht : things ≤ 2) (L : Longer (ds.mapIdx fC) ls) : OkH ls := by
  refine okh_of (fun x hx => ?_) (fun i j a b hij ha hb => ?_) (fun i j a b hij ha hb => ?_) (fun i j a b hij ha hb e => ?_) (fun i j a b hij ha hb e => ?_)
  · obtain ⟨k, hk⟩ := List.getElem?_of_mem hx
    obtain ⟨c, f, v, hc, hf, v0, v1, rfl⟩ := L.get hk
    obtain ⟨a1, a2, a3, a4, a5, a6, a7, a8, ⟨a, ha, ha2⟩, f', hf', hf2⟩ := D.one c (List.mem_of_getElem? hc)
    rw [hf] at hf'
    cases hf'
    have := D.ix hc
    constructor
    · simp only [fC]; omega
    · simp only [fC]; omega
    · simp only [fC]; rw [a5]; exact D.kinds _
    · exact a6.1
    · exact ⟨a6.2.1, a6.2.2.1⟩
    · exact a6.2.2.2
    · simp only [fC]; omega
    · simp [fC, ha]
    · intro x hx
      simp only [fC] at hx
      rw [ha] at hx; cases hx; exact ha2
    · intro x hx
      simp only [fC, Option.some.injEq] at hx ⊢
      omega
  · obtain ⟨c, f, v, hc, hf, v0, v1, rfl⟩ := L.get ha
    obtain ⟨d, f', v', hd, hf', v0', v1', rfl⟩ := L.get hb
    have h := (D.lt hij hc hd).2
    have := D.ix hc
    have := D.ix hd
    intro x hx y hy
    simp [tl, finL, fC] at hx
    simp [tl, finL, fC] at hy
    simp [tl, finL, hf, hf'] at h
    rcases hx with rfl | rfl <;> rcases hy with rfl | rfl <;> omega
  · obtain ⟨c, f, v, hc, hf, v0, v1, rfl⟩ := L.get ha
    obtain ⟨d, f', v', hd, hf', v0', v1', rfl⟩ := L.get hb
    have := (D.lt hij hc hd).1
    simp only [fC]
    omega
  · obtain ⟨c, f, v, hc, hf, v0, v1, rfl⟩ := L.get ha
    obtain ⟨d, f', v', hd, hf', v0', v1', rfl⟩ := L.get hb
    simp only [fC] at e
    omega
  · obtain ⟨c, f, v, hc, hf, v0, v1, rfl⟩ := L.get ha
    obtain ⟨d, f', v', hd, hf', v0', v1', rfl⟩ := L.get hb
    simp only [fC] at e ⊢
    rw [(D.one c (List.mem_of_getElem? hc)).2.2.2.2.1, (D.one d (List.mem_of_getElem? hd)).2.2.2.2.1, e]
/-- what stays of each call -/
theorem ix_args (D : Drw things nat ds) {f : Nat → CR → CR} (hf : ∀ k c, (f k c).thing = c.thing ∧ (f k c).kind = c.kind ∧ (f k c).arg = c.arg) : ∀ c ∈ ds.mapIdx f, c.kind = nat c.thing ∧ c.kind ∈ kinds5 ∧ 0 ≤ c.arg ∧ c.arg ≤ 99 := by
  intro x hx
  obtain ⟨k, c, hk, hc, rfl⟩ := mem_ix hx
  obtain ⟨_, _, _, _, a5, a6, _⟩ := D.one c hc
  obtain ⟨e1, e2, e3⟩ := hf k c
  rw [e1, e2, e3]
  exact ⟨a5, by rw [a5]; exact D.kinds _, a6.2.1, a6.2.2.1⟩
theorem longer_args (D : Drw things nat ds) (L : Longer (ds.mapIdx fC) ls) : ∀ c ∈ ls, c.kind = nat c.thing ∧ c.kind ∈ kinds5 ∧ 0 ≤ c.arg ∧ c.arg ≤ 99 := by
  intro x hx
  obtain ⟨k, hk⟩ := List.getElem?_of_mem hx
  obtain ⟨c, f, v, hc, hf, v0, v1, rfl⟩ := L.get hk
  obtain ⟨_, _, _, _, a5, a6, _⟩ := D.one c (List.mem_of_getElem? hc)
  exact ⟨a5, by simp only [fC]; rw [a5]; exact D.kinds _, a6.2.1, a6.2.2.1⟩
theorem ix_ans (D : Drw things nat ds) {f : Nat → CR → CR} (hf : ∀ k c, (f k c).ans = c.ans) : ∀ c ∈ ds.mapIdx f, c.ans ≠ none := by
  intro x hx
  obtain ⟨k, c, hk, hc, rfl⟩ := mem_ix hx
  obtain ⟨_, _, _, _, _, _, _, _, ⟨a, ha, _⟩, _⟩ := D.one c hc
  rw [hf, ha]
  simp
theorem like_longer (L : Longer (ds.mapIdx fC) ls) : Like (ds.mapIdx fC) ls where
  len := L.len.symm
  same k c d hc hd := by
    obtain ⟨f, v, _, _, _, rfl⟩ := L.at_ k c d hc hd
    exact ⟨rfl, rfl, rfl, rfl, rfl⟩
theorem mcf_longer (L : Longer (ds.mapIdx fC) ls) (i j : Nat) (h : mcfA ls true i j = true) : mcfA (ds.mapIdx fC) true i j = true := by
  unfold mcfA at h ⊢
  cases hi : ls[i]? with
  | none => rw [hi] at h; cases h
  | some a =>
    cases hj : ls[j]? with
    | none => rw [hi, hj] at h; cases h
    | some b =>
      rw [hi, hj] at h
      obtain ⟨c, f, v, hc, hf, v0, v1, rfl⟩ := L.get hi
      obtain ⟨d, f', v', hd, hf', v0', v1', rfl⟩ := L.get hj
      rw [List.getElem?_mapIdx, List.getElem?_mapIdx, hc, hd]
      simp [mcfV, fC, hf] at h ⊢
      have h := of_decide_eq_true h
      omega
end
/-! ### compared lists -/
theorem ne_empty {st : Sto} {a b : Nat} {ds : List DV} (h1 : st[a]? = some (.lst ds)) (hok : ds.all (okD 8) = true) (h2 : st[b]? = some (.lst [])) : gNe (.ref a) (.ref b) st = some (.bl (!ds.isEmpty), st) := by
  have e1 : toPS st (.ref a) = some (.list (toPs ds)) := by
    show (match st[a]? with | some (.lst ds) => if ds.all (okD 8) = true then some (PyData.list (toPs ds)) else none | _ => none) = _
    rw [h1]
    simp only
    rw [if_pos hok]
  have e2 : toPS st (.ref b) = some (.list (toPs [])) := by
    show (match st[b]? with | some (.lst ds) => if ds.all (okD 8) = true then some (PyData.list (toPs ds)) else none | _ => none) = _
    rw [h2]
    rfl
  unfold gNe
  rw [e1, e2]
  cases ds <;> rfl
theorem eq_lists {st : Sto} {a b : Nat} {ns ms : List Int} (h1 : st[a]? = some (.lst (ns.map DV.int))) (h2 : st[b]? = some (.lst (ms.map DV.int))) : gEq (.ref a) (.ref b) st = some (.bl (decide (ns = ms)), st) := by
  have e : ∀ (a : Nat) (ns : List Int), st[a]? = some (.lst (ns.map DV.int)) → toPS st (.ref a) = some (.list (toPs (ns.map DV.int))) := fun a ns h => by
    show (match st[a]? with | some (.lst ds) => if ds.all (okD 8) = true then some (PyData.list (toPs ds)) else none | _ => none) = _
    rw [h]
    simp only
    rw [if_pos (ok_ints 8 ns)]
  unfold gEq
  rw [e a ns h1, e b ms h2]
  simp only [PyData.eqv, eqv_ints]
theorem ok_nsD (n : Nat) (l : List Nat) : okD (n + 1) (nsD l) = true := by
  have := ok_ints n (l.map fun (n : Nat) => (n : Int))
  rw [List.map_map] at this
  exact this
theorem ok_nsDs (L : List (List Nat)) : (L.map nsD).all (okD 8) = true := by
  rw [List.all_map, List.all_eq_true]
  intro r _
  exact ok_nsD 7 r
theorem ok_cr (c : CR) : okD 8 c.d = true := by
  obtain ⟨hand, thing, kind, word, arg, ans, beg, fin⟩ := c
  cases ans <;> cases fin <;> simp [CR.d, okD, ofS_ok]
theorem ok_crs (cs : List CR) : (cs.map CR.d).all (okD 8) = true := by
  rw [List.all_map, List.all_eq_true]
  intro r _
  exact ok_cr r
theorem nsD_range (n : Nat) : DV.tup (rgD 0 (n : Int)) = nsD (List.range n) := by rw [rgD_map]; rfl
theorem seq_like : ∀ (cs ds : List CR), Like cs ds → ∀ S, okSeq cs S = okSeq ds S
  | [], [], _, _ => rfl
  | [], _ :: _, L, _ => by have := L.len; cases this
  | _ :: _, [], L, _ => by have := L.len; cases this
  | c :: cs, d :: ds, L, S => by
    obtain ⟨e1, e2⟩ := like_step (S := S) (L.same 0 c d rfl rfl)
    have L' : Like cs ds := ⟨by have := L.len; simpa using this, fun k x y hx hy => L.same (k + 1) x y hx hy⟩
    show (decide (fits S c) && okSeq cs (stepS S c)) = (decide (fits S d) && okSeq ds (stepS S d))
    rw [e1, seq_like cs ds L', decide_eq_decide.mpr e2]
theorem like_ix {f : Nat → CR → CR} (hf : ∀ k c, (f k c).thing = c.thing ∧ (f k c).kind = c.kind ∧ (f k c).word = c.word ∧ (f k c).arg = c.arg ∧ (f k c).ans = c.ans) (cs : List CR) : Like (cs.mapIdx f) cs where
  len := List.length_mapIdx
  same k c d hc hd := by
    obtain ⟨c', h1, rfl⟩ := get_ix hc
    rw [hd] at h1
    cases h1
    exact hf k d
def ansI (cs : List CR) : List Int := cs.map fun c => c.ans.getD 0
theorem ansI_of {cs : List CR} (h : ∀ c ∈ cs, c.ans ≠ none) : ansOf cs = (ansI cs).map some := by
  unfold ansOf ansI
  rw [List.map_map]
  refine List.map_congr_left fun c hc => ?_
  obtain ⟨a, ha⟩ := Option.ne_none_iff_exists'.mp (h c hc)
  simp [ha]
/-- what a thing's calls tell is right -/
def goodT (nat : Int → String) (cs : List CR) (t : Int) : Bool := decide ((runV (nat t) (initV (nat t)) (pairsOf (ofT cs t))).2 = ansI (ofT cs t))
theorem seq_good {nat : Int → String} {cs : List CR} (hk : ∀ c ∈ cs, c.kind = nat c.thing ∧ c.ans ≠ none) (ht : ∀ c ∈ cs, 0 ≤ c.thing ∧ c.thing < 2) : okSeq cs [] = (goodT nat cs 0 && goodT nat cs 1) := by
  rw [Bool.eq_iff_iff, seq_things (nat := nat) cs [] hk, Bool.and_eq_true]
  have hA : ∀ t, ansOf (ofT cs t) = (ansI (ofT cs t)).map some := fun t => ansI_of fun c hc => (hk c (List.mem_filter.mp hc).1).2
  have one : ∀ t, (ansOf (ofT cs t) = (runV (nat t) ((lookA ([] : SS) t).getD (initV (nat t))) (pairsOf (ofT cs t))).2.map some) ↔ goodT nat cs t = true := fun t => by
    rw [hA t]
    unfold goodT
    rw [decide_eq_true_eq, List.map_inj_right (fun x y e => Option.some.inj e)]
    exact ⟨fun h => h.symm, fun h => h.symm⟩
  constructor
  · intro h
    exact ⟨(one 0).mp (h 0), (one 1).mp (h 1)⟩
  · rintro ⟨h0, h1⟩ t
    by_cases e0 : t = 0
    · rw [e0]; exact (one 0).mpr h0
    · by_cases e1 : t = 1
      · rw [e1]; exact (one 1).mpr h1
      · have : ofT cs t = [] := by
          unfold ofT
          rw [List.filter_eq_nil_iff]
          intro c hc
          have := ht c hc
          simp
          omega
        rw [this]
        rfl
theorem apart_mcf {cs : List CR} {i j : Nat} : (i < j → j < cs.length → mcfA (cs.mapIdx fA) true i j = true) ∧ (j ≤ i → mcfA (cs.mapIdx fA) true i j = false) := by
  constructor
  · intro h hj
    have e1 : cs[i]? = some cs[i] := List.getElem?_eq_getElem (by omega)
    have e2 : cs[j]? = some cs[j] := List.getElem?_eq_getElem hj
    unfold mcfA
    rw [List.getElem?_mapIdx, List.getElem?_mapIdx, e1, e2]
    simp [mcfV, fA]
    omega
  · intro h
    unfold mcfA
    rw [List.getElem?_mapIdx, List.getElem?_mapIdx]
    cases cs[i]? with
    | none => rfl
    | some a =>
      cases cs[j]? with
      | none => rfl
      | some b =>
        simp [mcfV, fA]
        omega
theorem apart_srch {nat : Int → String} {cs : List CR} (hk : ∀ c ∈ cs, c.kind = nat c.thing ∧ c.ans ≠ none) (ht : ∀ c ∈ cs, 0 ≤ c.thing ∧ c.thing < 2) (hl : cs.length ≤ 11) : srch (cs.mapIdx fA) true 12 [] [] = if (goodT nat cs 0 && goodT nat cs 1) = true then some (List.range cs.length) else none := by
  have hA : ∀ c ∈ cs.mapIdx fA, c.ans ≠ none := fun x hx => by
    obtain ⟨k, c, _, hc, rfl⟩ := mem_ix hx
    exact (hk c hc).2
  have h := seq_srch hA (fun i j h1 h2 => apart_mcf.1 h1 (by rwa [List.length_mapIdx] at h2)) (fun i j _ h2 => apart_mcf.2 h2) cs.length 0 [] 12 (by rw [List.length_mapIdx]; omega) (by omega)
  rw [List.drop_zero, seq_like _ _ (like_ix (f := fA) (fun k c => ⟨rfl, rfl, rfl, rfl, rfl⟩) cs), seq_good hk ht, List.length_mapIdx] at h
  exact h
end DL

/-! PL10: calls told at other times, by other hands, of other objects. -/
namespace DL
open PySem PySem.Spec PyProof.Rows L2

section
variable {e : Env} {st : Sto} {ma mb : ME DV} {mq : ME (List DV)} {T : List DV → Sto → Prop} {S : DV → Sto → Prop}
@[simp ↓] theorem v_srtSet : V (mSrtSet mq e st) T = V (mq e st) (fun ds s => P1 (toIs ds) (fun ns => gd ((usort ns).length < 64 ∧ ns.length ≤ 4000) (T ((usort ns).map DV.int) s))) := by
  unfold mSrtSet
  rw [v_bind]
  refine V_ext fun ds s => ?_
  cases toIs ds with
  | none => simp
  | some ns => simp only [P1_some]; by_cases h : (usort ns).length < 64 ∧ ns.length ≤ 4000 <;> simp [h, gd]
@[simp ↓] theorem v_popAt : V (mPopAt ma mb e st) S = V (ma e st) (fun x s => P1 (itemsOf s x) (fun _ => V (mb e s) (fun y s => kI y (fun i => P1 (lstOf s x) (fun p => gd (0 ≤ i ∧ i < p.2.length ∧ p.2.length ≤ LIM) (P1 p.2[i.toNat]? (fun d => le (s.set p.1 (.lst (p.2.eraseIdx i.toNat))) (fun s => S d s)))))))) := by
  unfold mPopAt
  rw [v_bind]
  refine V_ext fun x s => ?_
  cases itemsOf s x with
  | none => simp
  | some ds0 =>
    simp only [P1_some, v_bind]
    refine V_ext fun y s => ?_
    cases x with
    | ref l =>
      cases y with
      | int i =>
        rw [lstOf_ref]
        cases h : s[l]? with
        | none => simp [h]
        | some c =>
          cases c with
          | lst ds =>
            simp only [P1_some, h, kI_int]
            by_cases q : 0 ≤ i ∧ i < ds.length ∧ ds.length ≤ LIM
            · rw [if_pos q, gd_h q]
              cases ds[i.toNat]? <;> simp
            · rw [if_neg q, gd_n q, V_none]
          | _ => simp [h]
      | _ => simp [kI]
    | _ => cases y <;> simp [lstOf, kI]
end
@[simp ↓] theorem v_tgIN {ma mb : ME DV} {d : DV} {e : Env} {st : Sto} {U : Env → Sto → Prop} : V (tgIN ma mb d e st) U = V (ma e st) (fun x s => V (mb e s) (fun y s => gd (y = .non) (P1 (gSetN x d s) (fun s => U e s)))) := by
  unfold tgIN
  cases ma e st with
  | none => simp
  | some p =>
    obtain ⟨x, s⟩ := p
    simp only [V_some]
    cases mb e s with
    | none => simp
    | some p =>
      obtain ⟨y, s⟩ := p
      cases y with
      | non => simp only [V_some]; cases gSetN x d s <;> simp
      | _ => simp [gd]
theorem same_self {st : Sto} {n : Nat} {xs : List DV} (h : ∀ x ∈ xs, Same st n x x) : ∀ (i : Nat) (x y : DV), xs[i]? = some x → xs[i]? = some y → Same st n x y := by
  intro i x y hx hy
  rw [hx] at hy
  cases hy
  exact h x (List.mem_of_getElem? hx)
theorem same_oT {st : Sto} {o : Option (List Nat)} (h : ∀ l, o = some l → l.length ≤ 1000) : Same st 1 (oT o) (oT o) := by
  cases o with
  | none => exact .non 1
  | some l => exact same_nsD (h l rfl)
theorem same_oF {st : Sto} (o : Option (String × Nat)) : Same st 1 (oF o) (oF o) := by
  cases o with
  | none => exact .non 1
  | some p => exact .tup rfl (by simp) (same_self fun x hx => by
      rcases List.mem_cons.mp hx with rfl | hx
      · exact .str 0 _
      · rw [List.mem_singleton.mp hx]; exact .int 0 _)
theorem cut_take {α : Type} {xs : List α} (i : Int) : ∃ m, cutD xs none (some i) = xs.take m := by
  unfold cutD HT.sIx
  simp only [List.drop_zero, Nat.sub_zero]
  exact ⟨_, rfl⟩
theorem srch_short {cs : List CR} {bt : Bool} : ∀ (n : Nat) (done : List Nat) (S : SS) (l : List Nat), srch cs bt n done S = some l → l.length ≤ done.length + (leftOf cs.length done).length
  | 0, _, _, _, h => by cases h
  | n + 1, done, S, l, h => by
    cases ha : allNone cs (leftOf cs.length done) with
    | true =>
      rw [srch_all ha] at h
      cases h
      omega
    | false =>
      rw [srch_try ha] at h
      obtain ⟨k, hk, h⟩ := List.exists_of_findSome?_eq_some h
      have hlt := left_lt hk
      have hc : cs[k]? = some cs[k] := List.getElem?_eq_getElem hlt
      cases hb : blocked cs bt (leftOf cs.length done) k with
      | true => rw [try_blocked hb] at h; cases h
      | false =>
        by_cases q : fits S cs[k]
        · rw [try_go hc hb q] at h
          have := srch_short n _ _ l h
          have := left_dec hk
          rw [List.length_append, List.length_singleton] at *
          omega
        · rw [try_unfit hc q] at h; cases h
/-! ### dicts with None -/
theorem nget_at {st : Sto} {l : Nat} {S : List (Int × Int)} (o : Option Int) (h : st[l]? = some (.dcn (encG DV.int S) .non)) : gNGet (.ref l) (oI o) st = (match o with | none => some (.non, st) | some i => (lookG S i).map fun x => (.int x, st)) := by
  unfold gNGet
  simp only [h]
  cases o with
  | none => rfl
  | some i =>
    simp only [oI_some, keyD_int]
    rw [val_encG]
    cases lookG S i <;> rfl
theorem enc_isL (S : List (Int × Int)) : ((encG DV.int S).all fun kv => isL kv.1) = true := by
  rw [List.all_eq_true]
  intro x hx
  obtain ⟨p, _, rfl⟩ := List.mem_map.mp hx
  rfl
theorem setN_at {st : Sto} {l : Nat} {S : List (Int × Int)} {d : DV} (h : st[l]? = some (.dct (encG DV.int S))) (hz : S.length < LIM) : gSetN (.ref l) d st = some (st.set l (.dcn (encG DV.int S) d)) := by
  unfold gSetN
  simp only [h, encG_len]
  rw [if_pos ⟨hz, enc_isL S⟩]
/-! ### times led on -/
structure LaterOk (S : List (Int × Int)) (ts : List Int) (clock : Int) : Prop where
  get : ∀ t ∈ ts, ∃ v, lookG S t = some v ∧ 0 ≤ v ∧ v ≤ clock
  mono : ∀ t ∈ ts, ∀ u ∈ ts, t < u → ∀ v x, lookG S t = some v → lookG S u = some x → v < x
theorem later_nil (S : List (Int × Int)) (clock : Int) : LaterOk S [] clock := ⟨fun _ h => absurd h List.not_mem_nil, fun _ h => absurd h List.not_mem_nil⟩
theorem LaterOk.snoc {S : List (Int × Int)} {ts : List Int} {clock : Int} (h : LaterOk S ts clock) {t c : Int} (h0 : 0 ≤ clock) (ht : ∀ u ∈ ts, u < t) (hc : clock < c) : LaterOk (putG S t c) (ts ++ [t]) c where
  get := by
    intro u hu
    rcases List.mem_append.mp hu with hu | hu
    · have := ht u hu
      obtain ⟨v, h1, h2, h3⟩ := h.get u hu
      exact ⟨v, by rw [look_put, if_neg (by omega)]; exact h1, h2, by omega⟩
    · rw [List.mem_singleton.mp hu]
      exact ⟨c, by rw [look_put, if_pos rfl], by omega, Int.le_refl _⟩
  mono := by
    intro u hu x hx hux v y hv hy
    rw [look_put] at hv hy
    rcases List.mem_append.mp hu with hu | hu
    · have hut := ht u hu
      rw [if_neg (by omega)] at hv
      rcases List.mem_append.mp hx with hx | hx
      · have hxt := ht x hx
        rw [if_neg (by omega)] at hy
        exact h.mono u hu x hx hux v y hv hy
      · rw [List.mem_singleton.mp hx, if_pos rfl] at hy
        cases hy
        obtain ⟨v', h1, h2, h3⟩ := h.get u hu
        rw [hv] at h1
        cases h1
        omega
    · rw [List.mem_singleton.mp hu] at hux
      rcases List.mem_append.mp hx with hx | hx
      · have := ht x hx; omega
      · rw [List.mem_singleton.mp hx] at hux; omega
/-! ### a permutation by places -/
theorem perm_at {ns ms : List Int} (hp : ms.Perm ns) (hn : ns.Nodup) {i j : Nat} (hi : i < ns.length) (hj : j < ns.length) (h : ms[i]?.getD 0 = ms[j]?.getD 0) : i = j := by
  have hl := hp.length_eq
  have hnd : ms.Nodup := hp.nodup_iff.mpr hn
  rw [List.getElem?_eq_getElem (by omega), List.getElem?_eq_getElem (by omega)] at h
  exact (List.getElem_inj hnd).mp h
theorem erase_map {α β : Type} (f : α → β) : ∀ (l : List α) (i : Nat), (l.map f).eraseIdx i = (l.eraseIdx i).map f
  | [], i => by simp
  | a :: l, 0 => by simp
  | a :: l, i + 1 => by simp [erase_map f l i]
theorem perm_erase {α : Type} : ∀ {l : List α} {i : Nat} (h : i < l.length), (l[i] :: l.eraseIdx i).Perm l
  | a :: l, 0, _ => List.Perm.refl _
  | a :: l, i + 1, h => by
    have := perm_erase (l := l) (i := i) (by simpa using h)
    simp only [List.getElem_cons_succ, List.eraseIdx_cons_succ]
    exact (List.Perm.swap _ _ _).trans (this.cons a)
/-! ### renaming -/
structure Ren (cs ds : List CR) (f : Int → Int) : Prop where
  len : ds.length = cs.length
  at_ : ∀ (k : Nat) (c : CR), cs[k]? = some c → ∃ d, ds[k]? = some d ∧ d.thing = f c.thing ∧ d.kind = c.kind ∧ d.word = c.word ∧ d.arg = c.arg ∧ d.ans = c.ans
  inj : ∀ c ∈ cs, ∀ c' ∈ cs, f c.thing = f c'.thing → c.thing = c'.thing
  mcf : ∀ bt i j, mcfA ds bt i j = mcfA cs bt i j
def SRel (cs : List CR) (f : Int → Int) (S S' : SS) : Prop := ∀ c ∈ cs, lookA S' (f c.thing) = lookA S c.thing
theorem lookA_put (S : SS) (k : Int) (v : SV) (j : Int) : lookA (putA S k v) j = if j = k then some v else lookA S j := look_put S k v j
section
variable {cs ds : List CR} {f : Int → Int} {S S' : SS} {bt : Bool}
theorem Ren.none (R : Ren cs ds f) {k : Nat} (h : cs[k]? = none) : ds[k]? = none := by
  rw [List.getElem?_eq_none_iff] at h ⊢
  have := R.len
  omega
theorem SRel.put (R : Ren cs ds f) (h : SRel cs f S S') {c : CR} (hc : c ∈ cs) (v : SV) : SRel cs f (putA S c.thing v) (putA S' (f c.thing) v) := fun x hx => by
  rw [lookA_put, lookA_put]
  by_cases e : x.thing = c.thing
  · rw [if_pos e, if_pos (by rw [e])]
  · rw [if_neg e, if_neg (fun q => e (R.inj x hx c hc q))]
    exact h x hx
theorem ren_st {c d : CR} (h : SRel cs f S S') (hc : c ∈ cs) (h1 : d.thing = f c.thing) (h2 : d.kind = c.kind) : stOf S' d = stOf S c := by
  unfold stOf
  rw [h1, h2, h c hc]
theorem ren_none (R : Ren cs ds f) (l : List Nat) : allNone ds l = allNone cs l := by
  unfold allNone
  congr 1
  funext k
  cases h : cs[k]? with
  | none => rw [R.none h]
  | some c =>
    obtain ⟨d, h1, _, _, _, _, h2⟩ := R.at_ k c h
    rw [h1]
    simp only [h2]
theorem ren_blocked (R : Ren cs ds f) (l : List Nat) (k : Nat) : blocked ds bt l k = blocked cs bt l k := by
  unfold blocked
  congr 1
  funext o
  rw [R.mcf]
theorem ren_fits {c d : CR} (h : SRel cs f S S') (hc : c ∈ cs) (h1 : d.thing = f c.thing) (h2 : d.kind = c.kind) (h3 : d.word = c.word) (h4 : d.arg = c.arg) (h5 : d.ans = c.ans) : fits S' d ↔ fits S c := by
  unfold fits
  rw [ren_st h hc h1 h2, h2, h3, h4, h5]
theorem ren_step {c d : CR} (R : Ren cs ds f) (h : SRel cs f S S') (hc : c ∈ cs) (h1 : d.thing = f c.thing) (h2 : d.kind = c.kind) (h3 : d.word = c.word) (h4 : d.arg = c.arg) : SRel cs f (stepS S c) (stepS S' d) := by
  unfold stepS
  rw [ren_st h hc h1 h2, h1, h2, h3, h4]
  exact h.put R hc _
theorem srch_ren (R : Ren cs ds f) : ∀ (n : Nat) (done : List Nat) (S S' : SS), SRel cs f S S' → srch ds bt n done S' = srch cs bt n done S
  | 0, _, _, _, _ => rfl
  | n + 1, done, S, S', h => by
    have hl := R.len
    cases ha : allNone cs (leftOf cs.length done) with
    | true => rw [srch_all ha, srch_all (by rw [hl, ren_none R]; exact ha)]
    | false =>
      rw [srch_try ha, srch_try (by rw [hl, ren_none R]; exact ha), hl]
      refine findSome_congr fun k hk => ?_
      have hlt := left_lt hk
      have hc : cs[k]? = some cs[k] := List.getElem?_eq_getElem hlt
      have hm : cs[k] ∈ cs := List.getElem_mem _
      generalize cs[k] = c at hc hm
      obtain ⟨d, h0, h1, h2, h3, h4, h5⟩ := R.at_ k c hc
      cases hb : blocked cs bt (leftOf cs.length done) k with
      | true => rw [try_blocked hb, try_blocked (by rw [hl, ren_blocked R]; exact hb)]
      | false =>
        have hf := ren_fits h hm h1 h2 h3 h4 h5
        by_cases q : fits S c
        · rw [try_go hc hb q, try_go h0 (by rw [hl, ren_blocked R]; exact hb) (hf.mpr q)]
          exact srch_ren R n _ _ _ (ren_step R h hm h1 h2 h3 h4)
        · rw [try_unfit hc q, try_unfit h0 (fun z => q (hf.mp z))]
theorem ofRun_ren (R : Ren cs ds f) : ∀ (r : List Nat) (p : Nat) (S S' : SS), SRel cs f S S' → ofRun ds bt p r S' = ofRun cs bt p r S
  | [], _, _, _, _ => rfl
  | k :: r, p, S, S', h => by
    rw [of_cons, of_cons]
    have e : (r.any fun o => mcfA ds bt o k) = (r.any fun o => mcfA cs bt o k) := by
      congr 1
      funext o
      rw [R.mcf]
    rw [e]
    split
    · rfl
    · cases hc : cs[k]? with
      | none => rw [R.none hc]
      | some c =>
        obtain ⟨d, h0, h1, h2, h3, h4, h5⟩ := R.at_ k c hc
        have hm := List.mem_of_getElem? hc
        have hf := ren_fits h hm h1 h2 h3 h4 h5
        rw [h0]
        simp only
        by_cases q : fits S c
        · rw [if_pos q, if_pos (hf.mpr q)]
          exact ofRun_ren R r _ _ _ (ren_step R h hm h1 h2 h3 h4)
        · rw [if_neg q, if_neg (fun z => q (hf.mp z))]
theorem miss_ren (R : Ren cs ds f) (o : List Nat) : missL ds o = missL cs o := by
  unfold missL
  rw [R.len]
  congr 1
  funext k
  cases h : cs[k]? with
  | none => rw [R.none h]
  | some c =>
    obtain ⟨d, h1, _, _, _, _, h2⟩ := R.at_ k c h
    rw [h1]
    simp only [h2]
theorem ofV_ren (R : Ren cs ds f) (o : List Nat) : ofV ds o bt = ofV cs o bt := by
  unfold ofV
  rw [miss_ren R]
  cases missL cs o with
  | nil => exact ofRun_ren R o 0 [] [] fun _ _ => rfl
  | cons k r => rfl
end
theorem nats_of {ms : List Int} {n : Nat} (h : ms.Perm ((List.range n).map fun (k : Nat) => (k : Int))) (m : Nat) : ∃ o : List Nat, (ms.take m).map DV.int = o.map (fun (k : Nat) => DV.int k) ∧ o.Nodup ∧ (∀ k ∈ o, k < n) ∧ o.length ≤ n := by
  have hmem : ∀ x ∈ ms, 0 ≤ x ∧ x < n := fun x hx => by
    have := h.mem_iff.mp hx
    obtain ⟨k, hk, rfl⟩ := List.mem_map.mp this
    have := List.mem_range.mp hk
    omega
  have hnd : ms.Nodup := h.nodup_iff.mpr (nodup_cast List.nodup_range)
  have hmem2 : ∀ x ∈ ms.take m, 0 ≤ x ∧ x < n := fun x hx => hmem x (List.mem_of_mem_take hx)
  refine ⟨(ms.take m).map Int.toNat, ?_, ?_, fun k hk => ?_, ?_⟩
  · rw [List.map_map]
    refine List.map_congr_left fun x hx => ?_
    have := hmem2 x hx
    simp only [Function.comp]
    congr 1
    omega
  · have h2 : (ms.take m).Nodup := hnd.sublist (List.take_sublist _ _)
    unfold List.Nodup at h2 ⊢
    rw [List.pairwise_map]
    refine h2.imp_of_mem fun ha hb hab e => hab ?_
    have := hmem2 _ ha
    have := hmem2 _ hb
    omega
  · obtain ⟨x, hx, rfl⟩ := List.mem_map.mp hk
    have := hmem2 x hx
    omega
  · rw [List.length_map, List.length_take]
    have := h.length_eq
    rw [List.length_map, List.length_range] at this
    omega
/-! ### calls told anew -/
def tr (h q g : Int → Int) (c : CR) : CR := { c with hand := h c.hand, thing := q c.thing, beg := g c.beg, fin := c.fin.map g }
structure TrOk (cs : List CR) (h q g : Int → Int) : Prop where
  hr : ∀ c ∈ cs, 1 ≤ h c.hand ∧ h c.hand ≤ 9
  hi : ∀ c ∈ cs, ∀ d ∈ cs, h c.hand = h d.hand → c.hand = d.hand
  qr : ∀ c ∈ cs, 0 ≤ q c.thing ∧ q c.thing ≤ 9
  qi : ∀ c ∈ cs, ∀ d ∈ cs, q c.thing = q d.thing → c.thing = d.thing
  gr : ∀ x ∈ timesOf cs, 0 ≤ g x ∧ g x ≤ 1000
  gm : ∀ x ∈ timesOf cs, ∀ y ∈ timesOf cs, x < y → g x < g y
theorem fin_mem {cs : List CR} {c : CR} {f : Int} (h : c ∈ cs) (hf : c.fin = some f) : f ∈ timesOf cs := List.mem_flatMap.mpr ⟨c, h, List.mem_cons_of_mem _ (by unfold finL; rw [hf]; exact List.mem_cons_self)⟩
theorem TrOk.lt {cs : List CR} {h q g : Int → Int} (T : TrOk cs h q g) {x y : Int} (hx : x ∈ timesOf cs) (hy : y ∈ timesOf cs) : g x < g y ↔ x < y := by
  constructor
  · intro r
    rcases Int.lt_trichotomy x y with k | k | k
    · exact k
    · rw [k] at r; omega
    · have := T.gm y hy x hx k; omega
  · exact T.gm x hx y hy
theorem get_map {cs : List CR} {f : CR → CR} {k : Nat} {x : CR} (h : (cs.map f)[k]? = some x) : ∃ c, cs[k]? = some c ∧ x = f c := by
  rw [List.getElem?_map] at h
  obtain ⟨c, h1, h2⟩ := Option.map_eq_some_iff.mp h
  exact ⟨c, h1, h2.symm⟩
theorem tl_mem {cs : List CR} {c : CR} (h : c ∈ cs) : ∀ x ∈ tl c, x ∈ timesOf cs := fun x hx => List.mem_flatMap.mpr ⟨c, h, hx⟩
theorem tl_tr {h q g : Int → Int} {c : CR} {x : Int} (hx : x ∈ tl (tr h q g c)) : ∃ y ∈ tl c, x = g y := by
  unfold tl at hx ⊢
  rcases List.mem_cons.mp hx with rfl | hx
  · exact ⟨c.beg, List.mem_cons_self, rfl⟩
  · unfold finL tr at hx
    cases hf : c.fin with
    | none => rw [hf] at hx; cases hx
    | some f =>
      rw [hf] at hx
      refine ⟨f, List.mem_cons_of_mem _ (by unfold finL; rw [hf]; exact List.mem_cons_self), ?_⟩
      exact List.mem_singleton.mp hx
theorem okh_tr {things : Int} {nat : Int → String} {cs : List CR} (H : Hist things nat cs) {h q g : Int → Int} (T : TrOk cs h q g) : OkH (cs.map (tr h q g)) := by
  have hpw := H.times
  unfold timesOf List.Nodup at hpw
  rw [List.pairwise_flatMap] at hpw
  refine okh_of (fun x hx => ?_) (fun i j a b hij ha hb => ?_) (fun i j a b hij ha hb => ?_) (fun i j a b hij ha hb e => ?_) (fun i j a b hij ha hb e => ?_)
  · obtain ⟨c, hc, rfl⟩ := List.mem_map.mp hx
    obtain ⟨a1, a2, a3, a4, a5, a6, a7, a8, a9, a10, a11⟩ := H.one c hc
    constructor
    · exact T.hr c hc
    · exact T.qr c hc
    · simp only [tr]; rw [a5]; exact H.kinds _
    · exact a6.1
    · exact ⟨a6.2.1, a6.2.2.1⟩
    · exact a6.2.2.2
    · exact T.gr _ (beg_mem hc)
    · simp only [tr, Option.map_eq_none_iff]; exact a9
    · exact a10
    · intro f hf
      simp only [tr, Option.map_eq_some_iff] at hf
      obtain ⟨f0, h1, rfl⟩ := hf
      have h2 := T.gm c.beg (beg_mem hc) f0 (fin_mem hc h1) (by have := a11 f0 h1; omega)
      have h3 := T.gr f0 (fin_mem hc h1)
      simp only [tr]
      omega
  · obtain ⟨c, hc, rfl⟩ := get_map ha
    obtain ⟨d, hd, rfl⟩ := get_map hb
    intro x hx y hy
    obtain ⟨x', hx', rfl⟩ := tl_tr hx
    obtain ⟨y', hy', rfl⟩ := tl_tr hy
    have mc := tl_mem (List.mem_of_getElem? hc) x' hx'
    have md := tl_mem (List.mem_of_getElem? hd) y' hy'
    have hne : x' ≠ y' := by
      obtain ⟨hi, rfl⟩ := List.getElem?_eq_some_iff.mp hc
      obtain ⟨hj, rfl⟩ := List.getElem?_eq_some_iff.mp hd
      exact List.pairwise_iff_getElem.mp hpw.2 i j hi hj hij x' hx' y' hy'
    intro e
    rcases Int.lt_trichotomy x' y' with k | k | k
    · have := T.gm x' mc y' md k; omega
    · exact hne k
    · have := T.gm y' md x' mc k; omega
  · obtain ⟨c, hc, rfl⟩ := get_map ha
    obtain ⟨d, hd, rfl⟩ := get_map hb
    have := H.sorted i j c d hij hc hd
    have := T.gm _ (beg_mem (List.mem_of_getElem? hc)) _ (beg_mem (List.mem_of_getElem? hd)) this
    simp only [tr]
    omega
  · obtain ⟨c, hc, rfl⟩ := get_map ha
    obtain ⟨d, hd, rfl⟩ := get_map hb
    obtain ⟨f, hf, hlt⟩ := H.hand i j c d hij hc hd (T.hi c (List.mem_of_getElem? hc) d (List.mem_of_getElem? hd) e)
    refine ⟨g f, by simp [tr, hf], ?_⟩
    have := T.gm _ (fin_mem (List.mem_of_getElem? hc) hf) _ (beg_mem (List.mem_of_getElem? hd)) hlt
    simp only [tr]
    omega
  · obtain ⟨c, hc, rfl⟩ := get_map ha
    obtain ⟨d, hd, rfl⟩ := get_map hb
    have mc := List.mem_of_getElem? hc
    have md := List.mem_of_getElem? hd
    have e2 := T.qi c mc d md e
    simp only [tr]
    rw [(H.one c mc).2.2.2.2.1, (H.one d md).2.2.2.2.1, e2]
theorem ren_tr {cs : List CR} {h q g : Int → Int} (T : TrOk cs h q g) : Ren cs (cs.map (tr h q g)) q where
  len := by simp
  at_ := fun k c hc => ⟨tr h q g c, by rw [List.getElem?_map, hc]; rfl, rfl, rfl, rfl, rfl, rfl⟩
  inj := T.qi
  mcf := by
    intro bt i j
    unfold mcfA
    rw [List.getElem?_map, List.getElem?_map]
    cases ha : cs[i]? with
    | none => rfl
    | some a =>
      cases hb : cs[j]? with
      | none => rfl
      | some b =>
        have ma := List.mem_of_getElem? ha
        have mb := List.mem_of_getElem? hb
        simp only [Option.map_some, mcfV, tr]
        cases bt with
        | true =>
          cases hf : a.fin with
          | none => rfl
          | some f =>
            simp only [Option.map_some, if_true]
            rw [decide_eq_decide]
            exact T.lt (fin_mem ma hf) (beg_mem mb)
        | false =>
          have e : (h a.hand = h b.hand) ↔ a.hand = b.hand := ⟨T.hi a ma b mb, fun q => by rw [q]⟩
          simp only [Bool.false_eq_true, if_false, decide_eq_decide.mpr e]
theorem tr_id (cs : List CR) : cs.map (tr id id id) = cs := by
  have : tr id id id = id := by
    funext c
    obtain ⟨_, _, _, _, _, _, _, fin⟩ := c
    cases fin <;> rfl
  rw [this, List.map_id]
theorem okh_hist {things : Int} {nat : Int → String} {cs : List CR} (H : Hist things nat cs) (ht : things ≤ 2) : OkH cs := by
  have := okh_tr (h := id) (q := id) (g := id) H ⟨fun c hc => by have := H.one c hc; simp only [id]; omega, fun _ _ _ _ e => e, fun c hc => by have := H.one c hc; simp only [id]; omega, fun _ _ _ _ e => e, fun x hx => ?_, fun _ _ _ _ k => k⟩
  · rwa [tr_id] at this
  · obtain ⟨c, hc, hx⟩ := List.mem_flatMap.mp hx
    obtain ⟨a1, a2, a3, a4, a5, a6, a7, a8, a9, a10, a11⟩ := H.one c hc
    rcases List.mem_cons.mp hx with rfl | hx
    · simp only [id]; omega
    · unfold finL at hx
      cases hf : c.fin with
      | none => rw [hf] at hx; cases hx
      | some f =>
        rw [hf] at hx
        rw [List.mem_singleton.mp hx]
        have := a11 f hf
        simp only [id]
        omega
/-! ### a new list, behind what was drawn -/
theorem ltKs_mono {n m : Nat} (h : n ≤ m) : ∀ {d : List (Key × DV)}, ltKs n d = true → ltKs m d = true
  | [], _ => rfl
  | x :: xs, q => by
    simp only [ltKs, Bool.and_eq_true] at q ⊢
    exact ⟨ltD_mono h q.1, ltKs_mono h q.2⟩
theorem trimL_pool {F : FM} {ds : List DV} {p : PS} {g : Sto} {R : DO → Prop} (h : V (F ds (p.st ++ g)) fun d s => ∃ (p' : PS) (u : Sto) (l : Nat) (o : DO), d = .ref (g.length + 3 + l) ∧ s = p'.st ++ (g ++ u) ∧ u[l]? = some o ∧ OkP p' ∧ R o) (hR : ∀ o, R o → ltO 3 o = true) : ∃ o p', trimL F ds (p.st ++ g) = some (.ref (g.length + 3), p'.st ++ (g ++ [o])) ∧ OkP p' ∧ R o := by
  obtain ⟨_, _, h1, p', u, l, o, rfl, rfl, hu, h2, h3⟩ := h
  refine ⟨o, p', ?_, h2, h3⟩
  have hlen : (p.st ++ g).length = g.length + 3 := ps_alen
  have hg : (p'.st ++ (g ++ u))[g.length + 3 + l]? = some o := by
    rw [show g.length + 3 + l = (g.length + l) + 3 by omega, ps_get, List.getElem?_append_right (Nat.le_add_right _ _), Nat.add_sub_cancel_left]
    exact hu
  unfold trimL
  rw [h1]
  simp only [hg]
  have hlow : ∀ (j : Nat) (q : DO), j < g.length + 3 → (p'.st ++ (g ++ u))[j]? = some q → (p.st ++ g)[j]? = some q ∨ ltO (g.length + 3) q = true := fun j q hj hq => by
    match j, hq with
    | 0, hq => cases hq; exact .inr (by simp [ltO, ltDs_ints])
    | 1, hq => cases hq; exact .inr (by simp [ltO, ltDs_ints])
    | 2, hq => cases hq; exact .inr (by simp [ltO, ltDs, ltD])
    | j + 3, hq =>
      rw [ps_get] at hq
      rw [ps_get]
      rw [List.getElem?_append_left (by omega)] at hq
      exact .inl hq
  have hmono : ltO (g.length + 3) o = true := by
    have := hR o h3
    cases o with
    | lst xs => exact ltDs_mono (by omega) this
    | dct ks => exact ltKs_mono (by omega) this
    | dcn ks d =>
      simp only [ltO, Bool.and_eq_true] at this ⊢
      exact ⟨ltKs_mono (by omega) this.1, ltD_mono (by omega) this.2⟩
  rw [hlen, if_pos ⟨by omega, hlow, hmono⟩]
  have e : (p'.st ++ (g ++ u)).take (g.length + 3) = p'.st ++ g := by
    rw [← List.append_assoc, List.take_left' (by rw [ps_alen])]
  rw [e, List.append_assoc]
end DL

namespace Law
open PySem PySem.Spec PyProof.Rows L2 DL
noncomputable def c_FORM : DV := .tup [.str (Str.ofString "form"), .int 0]
noncomputable def c_HANDS : DV := .int 9
noncomputable def t_KINDS : List (Str × DV) := [((Str.ofString "cell"), .tup [.str (Str.ofString "get"), .str (Str.ofString "put")]), ((Str.ofString "counter"), .tup [.str (Str.ofString "add"), .str (Str.ofString "get")]), ((Str.ofString "line"), .tup [.str (Str.ofString "put"), .str (Str.ofString "take")]), ((Str.ofString "pile"), .tup [.str (Str.ofString "put"), .str (Str.ofString "take")]), ((Str.ofString "set"), .tup [.str (Str.ofString "add"), .str (Str.ofString "has"), .str (Str.ofString "take")])]
noncomputable def c_MOST : DV := .int 99
noncomputable def c_TIMES : DV := .int 1000
def N_is_whole : List Str := ["value"]
noncomputable def m_is_whole : MS :=
 (sRet (mAnd (mIsi "int" (mVar 0)) (mNot (mIsi "bool" (mVar 0)))))
noncomputable def F_is_whole : FM := bodyM 1 m_is_whole

noncomputable def G_is_whole : FM := trim F_is_whole
theorem n_is_whole : NrmF F_is_whole G_is_whole := nrm_trim _
@[simp] theorem p_is_whole (i : Int) (st : Sto) : G_is_whole [.int i] st = some (.bl true, st) := trim_V (by
  simp -dsimp [F_is_whole, m_is_whole]) rfl

def N_is_from : List Str := ["value", "low", "high"]
noncomputable def m_is_from : MS :=
 (sRet (mAnd (mCall G_is_whole [(mVar 0)]) (mChn gLe gLe (mVar 1) (mVar 0) (mVar 2))))
noncomputable def F_is_from : FM := bodyM 3 m_is_from

noncomputable def G_is_from : FM := trim F_is_from
theorem n_is_from : NrmF F_is_from G_is_from := nrm_trim _
@[simp] theorem p_is_from (i lo hi : Int) (st : Sto) : G_is_from [.int i, .int lo, .int hi] st = some (.bl (decide (lo ≤ i ∧ i ≤ hi)), st) := trim_V (by
  by_cases h1 : lo ≤ i <;> simp -dsimp [F_is_from, m_is_from, h1]) rfl

def N_first_true : List Str := ["flags", "k"]
noncomputable def m_first_true : MS :=
 (sSeq (sFor (itF (mRg1 (mLen (mSeq (mVar 0))))) (tgN 1)
 (sIf (mTst (mBin gIx (mVar 0) (mVar 1)))
 (sRet (mVar 1))
 sSkip))
 (sRet (mC .non)))
noncomputable def F_first_true : FM := bodyM 2 m_first_true

noncomputable def G_first_true : FM := trim F_first_true
theorem n_first_true : NrmF F_first_true G_first_true := nrm_trim _
theorem p_first_true (l : Nat) (bs : List Bool) (st : Sto) (h : st[l]? = some (.lst (bs.map DV.bl))) (hz : bs.length ≤ 1000) (hb : ∀ b ∈ bs, b = false) : G_first_true [.ref l] st = some (.non, st) := trim_V (by
  have hr : okR 0 (bs.length : Int) = true := by simp [okR]; omega

  simp -dsimp [F_first_true, m_first_true, h, hr]
  refine for_W (fun i e s => s = st ∧ ∃ x, e = [some (.ref l), x]) ⟨rfl, none, rfl⟩ (fun _ _ _ _ => trivial) (fun i d e s hd hp => ?_) (fun e s hp => ?_)
  · obtain ⟨rfl, x, rfl⟩ := hp
    obtain ⟨hlt, rfl⟩ := rgD_get hd
    have hbi : bs[i] = false := hb _ (List.getElem_mem hlt)
    simp -dsimp [h, atI_ofNat, List.getElem?_eq_getElem hlt, hbi]
  · obtain ⟨rfl, x, rfl⟩ := hp
    simp -dsimp) rfl

def N_is_call_of : List Str := ["kind", "word", "argument", "bare"]
noncomputable def m_is_call_of : MS :=
 (sSeq (sIf (mTst (mBin gNotIn (mVar 1) (mKix t_KINDS (mVar 0))))
 (sRet (mC (.bl false)))
 sSkip)
 (sSeq (sSet 3 (mOr (mBin gEq (mVar 1) (mC (.str (Str.ofString "get")))) (mAnd (mBin gEq (mVar 1) (mC (.str (Str.ofString "take")))) (mBin gIn (mVar 0) (mTup [(mC (.str (Str.ofString "line"))), (mC (.str (Str.ofString "pile")))])))))
 (sRet (mIf (mTst (mVar 3)) (mAnd (mBin gEq (mVar 2) (mC (.int 0))) (mCall G_is_whole [(mVar 2)])) (mCall G_is_from [(mVar 2), (mC (.int 0)), (mC c_MOST)])))))
noncomputable def F_is_call_of : FM := bodyM 4 m_is_call_of

noncomputable def G_is_call_of : FM := trim F_is_call_of
theorem n_is_call_of : NrmF F_is_call_of G_is_call_of := nrm_trim _
theorem p_is_call_of {kind w : String} {a : Int} (hk : kind ∈ kinds5) (hw : w ∈ kWords kind) (ha : 0 ≤ a ∧ a ≤ 99) (hb : bareW kind w = true → a = 0) (st : Sto) : G_is_call_of [.str (Str.ofString kind), .str (Str.ofString w), .int a] st = some (.bl true, st) := by
  refine trim_V ?_ rfl
  simp only [kinds5, List.mem_cons, List.not_mem_nil, or_false] at hk
  rcases hk with rfl | rfl | rfl | rfl | rfl <;> simp only [kWords, String.reduceEq, if_true, if_false, List.mem_cons, List.not_mem_nil, or_false] at hw <;>
    (rcases hw with rfl | rfl | rfl; all_goals simp [bareW] at hb; all_goals simp -dsimp [F_is_call_of, m_is_call_of, t_KINDS, lookS, ofS_eq, hb, ha, c_MOST])

def N_begin : List Str := ["kind"]
noncomputable def m_begin : MS :=
 (sRet (mIf (mTst (mBin gIn (mVar 0) (mTup [(mC (.str (Str.ofString "cell"))), (mC (.str (Str.ofString "counter")))]))) (mC (.int 0)) (mTup [])))
noncomputable def F_begin : FM := bodyM 1 m_begin

noncomputable def G_begin : FM := trim F_begin
theorem n_begin : NrmF F_begin G_begin := nrm_trim _
theorem p_begin (kind : String) (hk : kind ∈ kinds5) (st : Sto) : G_begin [.str (Str.ofString kind)] st = some ((initV kind).d, st) := by
  refine trim_V ?_ (ltD_sv _ _)
  simp only [kinds5, List.mem_cons, List.not_mem_nil, or_false] at hk
  rcases hk with rfl | rfl | rfl | rfl | rfl <;> simp -dsimp [F_begin, m_begin, initV, SV.d]

def N_cell_call : List Str := ["state", "word", "argument"]
noncomputable def m_cell_call : MS :=
 (sRet (mIf (mTst (mBin gEq (mVar 1) (mC (.str (Str.ofString "get"))))) (mTup [(mVar 0), (mVar 0)]) (mTup [(mVar 2), (mC (.int 0))])))
noncomputable def F_cell_call : FM := bodyM 3 m_cell_call

noncomputable def G_cell_call : FM := trim F_cell_call
theorem n_cell_call : NrmF F_cell_call G_cell_call := nrm_trim _
theorem p_cell_call (i : Int) (w : String) (a : Int) (st : Sto) : G_cell_call [.int i, .str (Str.ofString w), .int a] st = some (.tup [(cellV (.n i) w a).1.d, .int (cellV (.n i) w a).2], st) := by
  refine trim_V ?_ (by simp [ltD, ltDs, ltD_sv])
  by_cases h : w = "get" <;> simp -dsimp [F_cell_call, m_cell_call, cellV, SV.d, h]

def N_counter_call : List Str := ["state", "word", "argument"]
noncomputable def m_counter_call : MS :=
 (sRet (mIf (mTst (mBin gEq (mVar 1) (mC (.str (Str.ofString "get"))))) (mTup [(mVar 0), (mVar 0)]) (mTup [(mBin gMod (mBin gAdd (mVar 0) (mVar 2)) (mBin gAdd (mC c_MOST) (mC (.int 1)))), (mC (.int 0))])))
noncomputable def F_counter_call : FM := bodyM 3 m_counter_call

noncomputable def G_counter_call : FM := trim F_counter_call
theorem n_counter_call : NrmF F_counter_call G_counter_call := nrm_trim _
theorem p_counter_call (i : Int) (w : String) (a : Int) (st : Sto) : G_counter_call [.int i, .str (Str.ofString w), .int a] st = some (.tup [(counterV (.n i) w a).1.d, .int (counterV (.n i) w a).2], st) := by
  refine trim_V ?_ (by simp [ltD, ltDs, ltD_sv])
  by_cases h : w = "get" <;> simp -dsimp [F_counter_call, m_counter_call, counterV, SV.d, h, c_MOST]

def N_line_call : List Str := ["state", "word", "argument"]
noncomputable def m_line_call : MS :=
 (sSeq (sIf (mTst (mBin gEq (mVar 1) (mC (.str (Str.ofString "put")))))
 (sRet (mTup [(mBin gAdd (mVar 0) (mTup [(mVar 2)])), (mC (.int 0))]))
 sSkip)
 (sRet (mIf (mTst (mBin gGt (mLen (mSeq (mVar 0))) (mC (.int 0)))) (mTup [(mSl (mVar 0) (mSome (mC (.int 1))) (ME.pure none)), (mBin gIx (mVar 0) (mC (.int 0)))]) (mTup [(mVar 0), (mNeg (mC (.int 1)))]))))
noncomputable def F_line_call : FM := bodyM 3 m_line_call

noncomputable def G_line_call : FM := trim F_line_call
theorem n_line_call : NrmF F_line_call G_line_call := nrm_trim _
theorem p_line_call (ns : List Int) (w : String) (a : Int) (st : Sto) (hz : ns.length ≤ 1000) : G_line_call [.tup (ns.map DV.int), .str (Str.ofString w), .int a] st = some (.tup [(lineV (.l ns) w a).1.d, .int (lineV (.l ns) w a).2], st) := by
  refine trim_V ?_ (by simp [ltD, ltDs, ltD_sv])
  have hl : ns.length + 1 ≤ LIM := by show _ ≤ 100000; omega
  by_cases h : w = "put"
  · simp -dsimp [F_line_call, m_line_call, lineV, SV.d, h, hl]
  · cases ns with
    | nil => simp -dsimp [F_line_call, m_line_call, lineV, SV.d, h]
    | cons x r => simp -dsimp [F_line_call, m_line_call, lineV, SV.d, h, ev_at0, cut_from]

def N_pile_call : List Str := ["state", "word", "argument"]
noncomputable def m_pile_call : MS :=
 (sSeq (sIf (mTst (mBin gEq (mVar 1) (mC (.str (Str.ofString "put")))))
 (sRet (mTup [(mBin gAdd (mVar 0) (mTup [(mVar 2)])), (mC (.int 0))]))
 sSkip)
 (sRet (mIf (mTst (mBin gGt (mLen (mSeq (mVar 0))) (mC (.int 0)))) (mTup [(mSl (mVar 0) (ME.pure none) (mSome (mNeg (mC (.int 1))))), (mBin gIx (mVar 0) (mNeg (mC (.int 1))))]) (mTup [(mVar 0), (mNeg (mC (.int 1)))]))))
noncomputable def F_pile_call : FM := bodyM 3 m_pile_call

noncomputable def G_pile_call : FM := trim F_pile_call
theorem n_pile_call : NrmF F_pile_call G_pile_call := nrm_trim _
theorem p_pile_call (ns : List Int) (w : String) (a : Int) (st : Sto) (hz : ns.length ≤ 1000) : G_pile_call [.tup (ns.map DV.int), .str (Str.ofString w), .int a] st = some (.tup [(pileV (.l ns) w a).1.d, .int (pileV (.l ns) w a).2], st) := by
  refine trim_V ?_ (by simp [ltD, ltDs, ltD_sv])
  have hl : ns.length + 1 ≤ LIM := by show _ ≤ 100000; omega
  by_cases h : w = "put"
  · simp -dsimp [F_pile_call, m_pile_call, pileV, SV.d, h, hl]
  · cases q : ns.getLast? with
    | none =>
      obtain rfl : ns = [] := List.getLast?_eq_none_iff.mp q
      simp -dsimp [F_pile_call, m_pile_call, pileV, SV.d, h]
    | some x =>
      have hp : 0 < ns.length := by
        cases ns with
        | nil => cases q
        | cons y r => simp
      simp -dsimp [F_pile_call, m_pile_call, pileV, SV.d, h, at_last, cut_last, q, hp, List.map_dropLast]

def N_set_call : List Str := ["state", "word", "argument", "inside", "item"]
noncomputable def m_set_call : MS :=
 (sSeq (sSet 3 (mInt (mBin gIn (mVar 2) (mVar 0))))
 (sSeq (sIf (mAndT (mTst (mBin gEq (mVar 1) (mC (.str (Str.ofString "add"))))) (mTst (mBin gEq (mVar 3) (mC (.int 0)))))
 (sRet (mTup [(mTupOf (mSrt (mSeq (mBin gAdd (mVar 0) (mTup [(mVar 2)]))))), (mC (.int 0))]))
 sSkip)
 (sSeq (sIf (mTst (mBin gEq (mVar 1) (mC (.str (Str.ofString "take")))))
 (sRet (mTup [(mTupOf (mLc (itV (mVar 0)) [4] (.nm 4) (mTst (mBin gNe (mVar 4) (mVar 2))) (mVar 4))), (mVar 3)]))
 sSkip)
 (sRet (mTup [(mVar 0), (mVar 3)])))))
noncomputable def F_set_call : FM := bodyM 5 m_set_call

noncomputable def G_set_call : FM := trim F_set_call
theorem n_set_call : NrmF F_set_call G_set_call := nrm_trim _
theorem p_set_call (ns : List Int) (w : String) (a : Int) (st : Sto) (hz : ns.length ≤ 1000) : G_set_call [.tup (ns.map DV.int), .str (Str.ofString w), .int a] st = some (.tup [(setV (.l ns) w a).1.d, .int (setV (.l ns) w a).2], st) := by
  refine trim_V ?_ (by simp [ltD, ltDs, ltD_sv])
  have hl : ns.length + 1 ≤ LIM := by show _ ≤ 100000; omega
  have hm : toIs (ns.map DV.int ++ [DV.int a]) = some (ns ++ [a]) := by rw [show ns.map DV.int ++ [DV.int a] = (ns ++ [a]).map DV.int by simp, toIs_map]
  by_cases h : w = "add"
  · by_cases ha : a ∈ ns
    · simp -dsimp [F_set_call, m_set_call, flat_ints, inD_ints, h, ha, setV, SV.d]
    · simp -dsimp [F_set_call, m_set_call, flat_ints, inD_ints, h, ha, setV, SV.d, hl, hm]
  · by_cases h2 : w = "take"
    · simp -dsimp [F_set_call, m_set_call, flat_ints, inD_ints, h, h2, setV, SV.d]
      refine lc_pure ns DV.int (fun x => x != a) DV.int rfl trivial (fun x hx => ?_) ?_
      · by_cases e : x = a <;> simp -dsimp [e]
      · simp -dsimp [setV, SV.d, h2]
    · simp -dsimp [F_set_call, m_set_call, flat_ints, inD_ints, h, h2, setV, SV.d]

noncomputable def T_CALLS : List (Str × FM) := [(Str.ofString "cell", G_cell_call), (Str.ofString "counter", G_counter_call), (Str.ofString "line", G_line_call), (Str.ofString "pile", G_pile_call), (Str.ofString "set", G_set_call)]
def N_call : List Str := ["kind", "state", "word", "argument"]
noncomputable def m_call : MS :=
 (sRet (mKcall T_CALLS (mVar 0) [(mVar 1), (mVar 2), (mVar 3)]))
noncomputable def F_call : FM := bodyM 4 m_call

noncomputable def G_call : FM := trim F_call
theorem n_call : NrmF F_call G_call := nrm_trim _
theorem p_call {kind : String} {s : SV} (hk : kind ∈ kinds5) (hs : OkS kind s) (w : String) (a : Int) (st : Sto) : G_call [.str (Str.ofString kind), s.d, .str (Str.ofString w), .int a] st = some (.tup [(callV kind s w a).1.d, .int (callV kind s w a).2], st) := by
  refine trim_V ?_ (by simp [ltD, ltDs, ltD_sv])
  simp only [kinds5, List.mem_cons, List.not_mem_nil, or_false] at hk
  rcases hk with rfl | rfl | rfl | rfl | rfl
  · obtain ⟨i, rfl⟩ := hs
    simp -dsimp [F_call, m_call, T_CALLS, lookF, ofS_eq, SV.d, p_cell_call, callV]
  · obtain ⟨i, rfl⟩ := hs
    simp -dsimp [F_call, m_call, T_CALLS, lookF, ofS_eq, SV.d, p_counter_call, callV]
  · obtain ⟨ns, rfl, hz⟩ := hs
    simp -dsimp [F_call, m_call, T_CALLS, lookF, ofS_eq, SV.d, p_line_call, callV, hz]
  · obtain ⟨ns, rfl, hz⟩ := hs
    simp -dsimp [F_call, m_call, T_CALLS, lookF, ofS_eq, SV.d, p_pile_call, callV, hz]
  · obtain ⟨ns, rfl, hz⟩ := hs
    simp -dsimp [F_call, m_call, T_CALLS, lookF, ofS_eq, SV.d, p_set_call, callV, hz]

def N_is_call : List Str := ["value"]
noncomputable def m_is_call : MS :=
 (sSeq (sIf (mOrT (mNotT (mTst (mIsi "tuple" (mVar 0)))) (mOrT (mTst (mBin gNe (mLen (mSeq (mVar 0))) (mC (.int 8)))) (mNotT (mTst (mCall G_is_from [(mBin gIx (mVar 0) (mC (.int 0))), (mC (.int 1)), (mC c_HANDS)])))))
 (sRet (mC (.bl false)))
 sSkip)
 (sSeq (sIf (mOrT (mNotT (mTst (mCall G_is_from [(mBin gIx (mVar 0) (mC (.int 1))), (mC (.int 0)), (mC c_HANDS)]))) (mOrT (mNotT (mTst (mIsi "str" (mBin gIx (mVar 0) (mC (.int 2)))))) (mTst (mKin true t_KINDS (mBin gIx (mVar 0) (mC (.int 2)))))))
 (sRet (mC (.bl false)))
 sSkip)
 (sSeq (sIf (mOrT (mNotT (mTst (mIsi "str" (mBin gIx (mVar 0) (mC (.int 3)))))) (mNotT (mTst (mCall G_is_call_of [(mBin gIx (mVar 0) (mC (.int 2))), (mBin gIx (mVar 0) (mC (.int 3))), (mBin gIx (mVar 0) (mC (.int 4)))]))))
 (sRet (mC (.bl false)))
 sSkip)
 (sSeq (sIf (mOrT (mNotT (mTst (mCall G_is_from [(mBin gIx (mVar 0) (mC (.int 6))), (mC (.int 0)), (mC c_TIMES)]))) (mTst (mBin gNe (mBin gIs (mBin gIx (mVar 0) (mC (.int 5))) (mC .non)) (mBin gIs (mBin gIx (mVar 0) (mC (.int 7))) (mC .non)))))
 (sRet (mC (.bl false)))
 sSkip)
 (sSeq (sIf (mTst (mBin gIs (mBin gIx (mVar 0) (mC (.int 5))) (mC .non)))
 (sRet (mC (.bl true)))
 sSkip)
 (sRet (mAnd (mCall G_is_whole [(mBin gIx (mVar 0) (mC (.int 5)))]) (mAnd (mChn gLe gLe (mNeg (mC (.int 1))) (mBin gIx (mVar 0) (mC (.int 5))) (mC c_MOST)) (mCall G_is_from [(mBin gIx (mVar 0) (mC (.int 7))), (mBin gAdd (mBin gIx (mVar 0) (mC (.int 6))) (mC (.int 1))), (mC c_TIMES)])))))))))
noncomputable def F_is_call : FM := bodyM 1 m_is_call

noncomputable def G_is_call : FM := trim F_is_call
theorem n_is_call : NrmF F_is_call G_is_call := nrm_trim _
theorem p_is_call {c : CR} (h : OkC c) (st : Sto) : G_is_call [c.d] st = some (.bl true, st) := by
  obtain ⟨hand, thing, kind, word, arg, ans, beg, fin⟩ := c
  obtain ⟨h1, h2, h3, h4, h5, h6, h7, h8, h9, h10⟩ := h
  simp only at *
  refine trim_V ?_ rfl
  have hkin : ∃ x, lookS t_KINDS (Str.ofString kind) = some x := by
    simp only [kinds5, List.mem_cons, List.not_mem_nil, or_false] at h3
    rcases h3 with rfl | rfl | rfl | rfl | rfl <;> simp [t_KINDS, lookS, ofS_eq]
  obtain ⟨x, hx⟩ := hkin
  cases ans with
  | none =>
    obtain rfl : fin = none := h8.mp rfl
    simp -dsimp [F_is_call, m_is_call, CR.d, at_nat, c_HANDS, c_TIMES, c_MOST, h1, h2, hx, p_is_call_of h3 h4 h5 h6, h7]
  | some a =>
    cases fin with
    | none => exact nomatch h8.mpr rfl
    | some f =>
      have h9 := h9 a rfl
      have h10 := h10 f rfl
      simp -dsimp [F_is_call, m_is_call, CR.d, at_nat, c_HANDS, c_TIMES, c_MOST, h1, h2, hx, p_is_call_of h3 h4 h5 h6, h7, h9, h10]

def N_fault : List Str := ["value", "times", "double", "order", "k", "earlier", "item", "time"]
noncomputable def m_fault : MS :=
 (sSeq (sIf (mOrT (mNotT (mTst (mIsi "tuple" (mVar 0)))) (mNotT (mTst (mAll (mLc (itV (mVar 0)) [6] (.nm 6) (ME.pure true) (mCall G_is_call [(mVar 6)]))))))
 (sRet (mC c_FORM))
 sSkip)
 (sSeq (sSet 1 (mNew (mLc2 (itV (mVar 0)) [6, 7] (.nm 6) (ME.pure true) (itV (mSl (mVar 6) (mSome (mC (.int 6))) (ME.pure none))) [7] (.nm 7) (mTst (mBin gIsNot (mVar 7) (mC .non))) (mVar 7))))
 (sSeq (sSet 2 (mCall G_first_true [(mNew (mLc (itV (mVar 0)) [6] (.nm 6) (ME.pure true) (mOr (mBin gGt (mCnt (mVar 1) (mBin gIx (mVar 6) (mC (.int 6)))) (mC (.int 1))) (mBin gGt (mCnt (mVar 1) (mBin gIx (mVar 6) (mC (.int 7)))) (mC (.int 1))))))]))
 (sSeq (sIf (mTst (mBin gIsNot (mVar 2) (mC .non)))
 (sRet (mTup [(mC (.str (Str.ofString "time"))), (mVar 2)]))
 sSkip)
 (sSeq (sSet 3 (mCall G_first_true [(mNew (mLc (itF (mRg1 (mBin gSub (mLen (mSeq (mVar 0))) (mC (.int 1))))) [4] (.nm 4) (ME.pure true) (mBin gGt (mBin gIx (mBin gIx (mVar 0) (mVar 4)) (mC (.int 6))) (mBin gIx (mBin gIx (mVar 0) (mBin gAdd (mVar 4) (mC (.int 1)))) (mC (.int 6))))))]))
 (sSeq (sIf (mTst (mBin gIsNot (mVar 3) (mC .non)))
 (sRet (mTup [(mC (.str (Str.ofString "order"))), (mVar 3)]))
 sSkip)
 (sSeq (sFor (itF (mRg1 (mLen (mSeq (mVar 0))))) (tgN 4)
 (sSeq (sSet 5 (mNew (mLc (itV (mSl (mVar 0) (ME.pure none) (mSome (mVar 4)))) [6] (.nm 6) (mTst (mBin gEq (mBin gIx (mVar 6) (mC (.int 0))) (mBin gIx (mBin gIx (mVar 0) (mVar 4)) (mC (.int 0))))) (mVar 6))))
 (sSeq (sIf (mTst (mAny (mLc (itV (mVar 5)) [6] (.nm 6) (ME.pure true) (mOr (mBin gIs (mBin gIx (mVar 6) (mC (.int 7))) (mC .non)) (mBin gGt (mBin gIx (mVar 6) (mC (.int 7))) (mBin gIx (mBin gIx (mVar 0) (mVar 4)) (mC (.int 6))))))))
 (sRet (mTup [(mC (.str (Str.ofString "hand"))), (mVar 4)]))
 sSkip)
 (sIf (mTst (mAny (mLc (itV (mSl (mVar 0) (ME.pure none) (mSome (mVar 4)))) [6] (.nm 6) (ME.pure true) (mAnd (mBin gEq (mBin gIx (mVar 6) (mC (.int 1))) (mBin gIx (mBin gIx (mVar 0) (mVar 4)) (mC (.int 1)))) (mBin gNe (mBin gIx (mVar 6) (mC (.int 2))) (mBin gIx (mBin gIx (mVar 0) (mVar 4)) (mC (.int 2))))))))
 (sRet (mTup [(mC (.str (Str.ofString "kind"))), (mVar 4)]))
 sSkip))))
 (sRet (mC .non)))))))))
noncomputable def F_fault : FM := bodyM 8 m_fault

noncomputable def G_fault : FM := trim F_fault
theorem n_fault : NrmF F_fault G_fault := nrm_trim _
theorem p_fault {cs : List CR} (h : OkH cs) (hz : cs.length ≤ 100) (st : Sto) : G_fault [.tup (cs.map CR.d)] st = some (.non, st) := by
  have hc1 : ∀ a, ¬ (1 : Int) < ((timesOf cs).count a : Nat) := fun a => by
    have := List.nodup_iff_count.mp h.times a
    omega
  have htl : (timesOf cs).length ≤ LIM := by
    have : (timesOf cs).length ≤ 2 * cs.length := by
      unfold timesOf
      clear h hc1 hz
      induction cs with
      | nil => simp
      | cons c r ih =>
        rw [List.flatMap_cons, List.length_append, List.length_cons]
        have : (finL c).length ≤ 1 := by unfold finL; split <;> simp
        simp only [List.length_cons]
        omega
    show _ ≤ 100000
    omega
  have hr1 : okR 0 ((cs.length : Int) - 1) = true := by simp [okR]; omega
  have hr2 : okR 0 (cs.length : Int) = true := by simp [okR]; omega
  refine trim_V ?_ rfl
  simp -dsimp [F_fault, m_fault]
  refine lc_map cs CR.d (fun _ => .bl true) rfl trivial (fun c hc => by simp -dsimp [p_is_call (h.ok c hc)]) ?_
  simp -dsimp
  refine lc2_map cs CR.d (fun c => (c.beg :: finL c).map DV.int) ((timesOf cs).map DV.int) (by unfold timesOf; rw [List.map_flatMap]) rfl trivial (fun c hc => ?_) ?_
  · cases hf : c.fin with
    | none => simp -dsimp [CR.d, cut_from, lc_cons, lc_nil, hf, finL]
    | some f => simp -dsimp [CR.d, cut_from, lc_cons, lc_nil, hf, finL]
  simp -dsimp [htl, app_get0]
  refine lc_map cs CR.d (fun _ => .bl false) rfl trivial (fun c hc => ?_) ?_
  · cases hf : c.fin with
    | none => simp -dsimp [CR.d, at_nat, hf, app_get0, hc1]
    | some f => simp -dsimp [CR.d, at_nat, hf, app_get0, hc1]
  simp -dsimp
  refine V_of (p_first_true _ (cs.map fun _ => false) _ (by simp [app_get]) (by simp; omega) (by simp)) ?_
  simp -dsimp [hr1]
  refine lc_map (List.range (cs.length - 1)) (fun k => .int (k : Nat)) (fun _ => .bl false) (rgD_pred _) trivial (fun k hk => ?_) ?_
  · have hk : k < cs.length - 1 := by simpa using hk
    have e1 : cs[k]? = some cs[k] := List.getElem?_eq_getElem (by omega)
    have e2 : cs[k + 1]? = some cs[k + 1] := List.getElem?_eq_getElem (by omega)
    have := h.sorted k _ _ e1 e2
    have : ¬ cs[k + 1].beg < cs[k].beg := by omega
    simp -dsimp [atI_ofNat, at_succ, e1, e2, CR.d, at_nat, this]
  simp -dsimp
  refine V_of (p_first_true _ ((List.range (cs.length - 1)).map fun _ => false) _ (by simp [app_get]) (by simp; omega) (by simp)) ?_
  simp -dsimp [hr2]
  refine for_W (fun i e s => Pre st s ∧ ∃ x y z, e = [some (.tup (cs.map CR.d)), x, some .non, some .non, y, z, none, none]) ⟨pre2, _, none, none, rfl⟩ (fun _ _ _ _ => trivial) (fun i d e s hd hp => ?_) (fun e s hp => ?_)
  · obtain ⟨hi, rfl⟩ := rgD_get hd
    obtain ⟨hp, x, y, z, rfl⟩ := hp
    have e1 : cs[i]? = some cs[i] := List.getElem?_eq_getElem hi
    simp -dsimp [cut_to]
    refine lc_pure (cs.take i) CR.d (fun a => decide (a.hand = cs[i].hand)) CR.d (by simp) trivial (fun a ha => ?_) ?_
    · simp -dsimp [atI_ofNat, e1, CR.d, at_nat]
    simp -dsimp [app_get0]
    have hand : ∀ a ∈ cs.take i, ∃ j, j < i ∧ cs[j]? = some a := fun a ha => by
      obtain ⟨j, hj⟩ := List.getElem?_of_mem ha
      have hji : j < i := by
        have := (List.getElem?_eq_some_iff.mp hj).1
        rw [List.length_take] at this
        omega
      rw [List.getElem?_take_of_lt hji] at hj
      exact ⟨j, hji, hj⟩
    refine lc_map _ CR.d (fun _ => .bl false) rfl app_get0 (fun a ha => ?_) ?_
    · obtain ⟨ha, hb⟩ := List.mem_filter.mp ha
      obtain ⟨j, hj, ej⟩ := hand a ha
      obtain ⟨f, ef, hfb⟩ := h.hand j i a _ hj ej e1 (by simpa using hb)
      have : ¬ cs[i].beg < f := by omega
      simp -dsimp [atI_ofNat, e1, CR.d, at_nat, ef, this]
    simp -dsimp [cut_to]
    refine lc_map (cs.take i) CR.d (fun _ => .bl false) (by simp) trivial (fun a ha => ?_) ?_
    · obtain ⟨j, hj, ej⟩ := hand a ha
      have hk := h.kind j i a _ hj ej e1
      by_cases ht : a.thing = cs[i].thing
      · simp -dsimp [atI_ofNat, e1, CR.d, at_nat, ht, hk ht]
      · simp -dsimp [atI_ofNat, e1, CR.d, at_nat, ht]
    simp -dsimp [hp.app, -List.map_take]
  · obtain ⟨hp, x, y, z, rfl⟩ := hp
    simp -dsimp [hp]

def N_must_come_first : List Str := ["calls", "one", "two", "by_time"]
noncomputable def m_must_come_first : MS :=
 (sSeq (sIf (mTst (mVar 3))
 (sRet (mAnd (mBin gIsNot (mBin gIx (mBin gIx (mVar 0) (mVar 1)) (mC (.int 7))) (mC .non)) (mBin gLt (mBin gIx (mBin gIx (mVar 0) (mVar 1)) (mC (.int 7))) (mBin gIx (mBin gIx (mVar 0) (mVar 2)) (mC (.int 6))))))
 sSkip)
 (sRet (mAnd (mBin gEq (mBin gIx (mBin gIx (mVar 0) (mVar 1)) (mC (.int 0))) (mBin gIx (mBin gIx (mVar 0) (mVar 2)) (mC (.int 0)))) (mBin gLt (mVar 1) (mVar 2)))))
noncomputable def F_must_come_first : FM := bodyM 4 m_must_come_first

noncomputable def G_must_come_first : FM := trim F_must_come_first
theorem n_must_come_first : NrmF F_must_come_first G_must_come_first := nrm_trim _
theorem p_mcf {cs : List CR} {i j : Nat} {a b : CR} (bt : Bool) (h1 : cs[i]? = some a) (h2 : cs[j]? = some b) (st : Sto) : G_must_come_first [.tup (cs.map CR.d), .int i, .int j, .bl bt] st = some (.bl (mcfV a b i j bt), st) := by
  refine trim_V ?_ rfl
  cases bt with
  | false =>
    by_cases e : a.hand = b.hand <;> simp -dsimp [F_must_come_first, m_must_come_first, atI_ofNat, h1, h2, CR.d, at_nat, mcfV, e, Int.ofNat_lt]
  | true =>
    cases q : a.fin with
    | none => simp -dsimp [F_must_come_first, m_must_come_first, atI_ofNat, h1, h2, CR.d, at_nat, mcfV, q]
    | some f => simp -dsimp [F_must_come_first, m_must_come_first, atI_ofNat, h1, h2, CR.d, at_nat, mcfV, q]

def N_search : List Str := ["calls", "by_time", "done", "states", "left", "k", "_", "thing", "kind", "word", "argument", "answer", "state", "told", "after", "found", "other"]
noncomputable def m_search (self : FM) : MS :=
 (sSeq (sSet 4 (mNew (mLc (itF (mRg1 (mLen (mSeq (mVar 0))))) [5] (.nm 5) (mTst (mBin gNotIn (mVar 5) (mVar 2))) (mVar 5))))
 (sSeq (sIf (mTst (mAll (mLc (itV (mVar 4)) [5] (.nm 5) (ME.pure true) (mBin gIs (mBin gIx (mBin gIx (mVar 0) (mVar 5)) (mC (.int 5))) (mC .non)))))
 (sRet (mVar 2))
 sSkip)
 (sSeq (sFor (itV (mVar 4)) (tgN 5)
 (sIf (mNotT (mTst (mAny (mLc (itV (mVar 4)) [16] (.nm 16) (mTst (mBin gNe (mVar 16) (mVar 5))) (mCall G_must_come_first [(mVar 0), (mVar 16), (mVar 5), (mVar 1)])))))
 (sSeq (sAsg (tgT [(tgN 6), (tgN 7), (tgN 8), (tgN 9), (tgN 10), (tgN 11), (tgN 6), (tgN 6)]) (mBin gIx (mVar 0) (mVar 5)))
 (sSeq (sAsg (tgT [(tgN 12), (tgN 13)]) (mCall G_call [(mVar 8), (mGet2 (mVar 3) (mVar 7) (mCall G_begin [(mVar 8)])), (mVar 9), (mVar 10)]))
 (sIf (mTst (mBin gIn (mVar 11) (mTup [(mC .non), (mVar 13)])))
 (sSeq (sSet 14 (mDictOf (mVar 3)))
 (sSeq (sAsg (tgI (mVar 14) (mVar 7)) (mVar 12))
 (sSeq (sSet 15 (mCall self [(mVar 0), (mVar 1), (mBin gAdd (mVar 2) (mTup [(mVar 5)])), (mVar 14)]))
 (sIf (mTst (mBin gIsNot (mVar 15) (mC .non)))
 (sRet (mVar 15))
 sSkip))))
 sSkip)))
 sSkip))
 (sRet (mC .non)))))
noncomputable def F_search : Nat → FM
  | 0 => fun _ _ => none
  | k + 1 => bodyM 17 (m_search (F_search k))

noncomputable def G_search : FM := trim (F_search 12)
theorem n_search : NrmF (F_search 12) G_search := nrm_trim _
theorem p_search0 {cs : List CR} (bt : Bool) (kd : Int → String) (hk : ∀ c ∈ cs, c.kind = kd c.thing ∧ c.kind ∈ kinds5 ∧ 0 ≤ c.arg ∧ c.arg ≤ 99) (hz : cs.length ≤ 400) : ∀ (n : Nat) (done : List Nat) (S : SS) (l : Nat) (st : Sto), st[l]? = some (.dct (encS S)) → S.length ≤ done.length → (∀ p ∈ S, Okk (kd p.1) done.length p.2) → done.length + (leftOf cs.length done).length ≤ 400 → (leftOf cs.length done).length < n →
    V (F_search n [.tup (cs.map CR.d), .bl bt, nsD done, .ref l] st) fun d s => d = oT (srch cs bt n done S) ∧ Pre st s := by
  intro n
  induction n with
  | zero => intro done S l st h0 h1 h2 h3 h4; omega
  | succ n ih =>
    intro done S l st h0 h1 h2 h3 h4
    have hr : okR 0 (cs.length : Int) = true := by simp [okR]; omega
    show V (bodyM 17 (m_search (F_search n)) _ _) _
    simp -dsimp [m_search, hr, nsD]
    refine lc_pure (List.range cs.length) (fun k => .int (k : Nat)) (fun k => decide (k ∉ done)) (fun k => .int (k : Nat)) (rgD_map _) trivial (fun k hk => ?_) ?_
    · simp -dsimp [flat_nats, inD_nats]
    have hin : ∀ k ∈ leftOf cs.length done, ∃ c, cs[k]? = some c ∧ c ∈ cs := fun k hk => ⟨cs[k]'(left_lt hk), List.getElem?_eq_getElem (left_lt hk), List.getElem_mem _⟩
    rw [show (List.range cs.length).filter (fun k => decide (k ∉ done)) = leftOf cs.length done from rfl]
    simp -dsimp [app_get0]
    refine lc_map (leftOf cs.length done) (fun k => .int (k : Nat)) (fun k => .bl (match cs[k]? with | some c => c.ans.isNone | none => true)) rfl app_get0 (fun k hk => ?_) ?_
    · obtain ⟨c, hc, hm⟩ := hin k hk
      simp -dsimp [atI_ofNat, hc, CR.d, at_nat]
    rw [toBls_map, P1_some, kB_bl, all_id, show ((leftOf cs.length done).all fun k => match cs[k]? with | some c => c.ans.isNone | none => true) = allNone cs (leftOf cs.length done) from rfl]
    cases ha : allNone cs (leftOf cs.length done) with
    | true => simp -dsimp [srch_all ha, oT, nsD]
    | false =>
    rw [srch_try ha]
    simp -dsimp [app_get0]
    refine for_W (fun i e s => Pre st s ∧ s[st.length]? = some (.lst ((leftOf cs.length done).map fun (k : Nat) => .int k)) ∧ (∃ x5 x6 x7 x8 x9 x10 x11 x12 x13 x14 x15, e = [some (.tup (cs.map CR.d)), some (.bl bt), some (nsD done), some (.ref l), some (.ref st.length), x5, x6, x7, x8, x9, x10, x11, x12, x13, x14, x15, none]) ∧
      ∀ (j y : Nat), j < i → (leftOf cs.length done)[j]? = some y → tryV cs bt n done S y = none) ⟨pre2, app_get0, ⟨none, none, none, none, none, none, none, none, none, none, none, rfl⟩, fun j y hj => absurd hj (Nat.not_lt_zero _)⟩ (fun i e s hp => hp.2.1) (fun i d e s hd hp => ?_) (fun e s hp => ?_)
    · obtain ⟨hp, hl, ⟨x5, x6, x7, x8, x9, x10, x11, x12, x13, x14, x15, rfl⟩, hbef⟩ := hp
      rw [List.getElem?_map] at hd
      obtain ⟨k, hik, rfl⟩ := Option.map_eq_some_iff.mp hd
      have hkm := List.mem_of_getElem? hik
      obtain ⟨c, hc, hcm⟩ := hin k hkm
      have hnext : tryV cs bt n done S k = none → ∀ (j y : Nat), j < i + 1 → (leftOf cs.length done)[j]? = some y → tryV cs bt n done S y = none := fun h j y hj hy => by
        rcases Nat.lt_succ_iff_lt_or_eq.mp hj with hj | rfl
        · exact hbef j y hj hy
        · rw [hik] at hy; cases hy; exact h
      simp -dsimp [hl]
      refine lc_pure (leftOf cs.length done) (fun k => .int (k : Nat)) (fun o => decide (o ≠ k)) (fun o => .bl (mcfA cs bt o k)) rfl hl (fun o ho => ?_) ?_
      · obtain ⟨co, hco, _⟩ := hin o ho
        have e : mcfA cs bt o k = mcfV co c o k bt := by unfold mcfA; rw [hco, hc]
        simp -dsimp [p_mcf bt hco hc, e, Int.ofNat_inj]
      rw [toBls_map, P1_some, kB_bl, any_fid, show ((leftOf cs.length done).any fun o => decide (o ≠ k) && mcfA cs bt o k) = blocked cs bt (leftOf cs.length done) k from rfl]
      cases hb : blocked cs bt (leftOf cs.length done) k with
      | true =>
        simp -dsimp
        exact ⟨hp, hl, hnext (try_blocked hb)⟩
      | false =>
        have hs0 : s[l]? = some (.dct (encS S)) := hp.get h0
        obtain ⟨hk1, hk2, hk3⟩ := hk c hcm
        have hso := st_ok hk1 h2
        have hz1 : (encS S).length < LIM := by rw [encS_len]; show _ < 100000; omega
        have hz2 : done.length + 1 ≤ LIM := by show _ ≤ 100000; omega
        simp -dsimp [atI_ofNat, hc, CR.d, hs0, p_begin, hk2, val_st, p_call hk2 (hso.ok (by omega))]
        by_cases hf : fits S c
        · have hf' : (decide (c.ans = none) || decide (c.ans = some (callV c.kind (stOf S c) c.word c.arg).2)) = true := by simpa [fits] using hf
          simp -dsimp [hf', hs0]
          have hg : (s ++ [DO.dct (encS S)])[s.length]? = some (.dct (encS S)) := app_get0
          simp -dsimp only [gset_dct hg keyD_int hz1, P1_some, app_set0, put_enc]
          simp -dsimp [hz2, nsD]
          have hm := left_dec hkm
          have e : DV.tup (List.map (fun (n : Nat) => DV.int n) done ++ [DV.int k]) = nsD (done ++ [k]) := by simp [nsD]
          rw [e]
          have hcall := call_ok (w := c.word) (a := c.arg) hk2 hso hk3
          refine (ih (done ++ [k]) (stepS S c) s.length _ app_get0 (by have := putA_len S c.thing (callV c.kind (stOf S c) c.word c.arg).1; simp [stepS]; omega) (putA_all (fun p hp => (h2 p hp).mono (by simp)) (by rw [List.length_append, List.length_singleton, ← hk1]; exact hcall.1)) (by rw [List.length_append, List.length_singleton]; omega) (by omega)).mono fun d s' ⟨hd', hp'⟩ => ?_
          have hps : Pre s s' := pre2.trans hp'
          have hgo := try_go (n := n) hc hb hf
          rw [← hgo] at hd'
          subst hd'
          cases hr2 : tryV cs bt n done S k with
          | none =>
            simp -dsimp [oT]
            exact ⟨hp.trans hps, hps.get hl, hnext hr2⟩
          | some r =>
            simp -dsimp [oT, nsD, findSome_at hbef hik hr2, hp.trans hps]
        · have hf' : (decide (c.ans = none) || decide (c.ans = some (callV c.kind (stOf S c) c.word c.arg).2)) = false := by
            have : ¬ (c.ans = none ∨ c.ans = some (callV c.kind (stOf S c) c.word c.arg).2) := hf
            simpa using this
          simp -dsimp [hf']
          exact ⟨hp, hl, hnext (try_unfit hc hf)⟩
    · obtain ⟨hp, hl, ⟨x5, x6, x7, x8, x9, x10, x11, x12, x13, x14, x15, rfl⟩, hbef⟩ := hp
      have : (leftOf cs.length done).findSome? (tryV cs bt n done S) = none := findSome_none fun j y hy => hbef j y (by rw [List.length_map]; exact (List.getElem?_eq_some_iff.mp hy).1) hy
      simp -dsimp [this, oT, hp]
theorem ltD_nsD (n : Nat) (l : List Nat) : ltD n (nsD l) = true := by
  have := ltDs_ints (n := n) (l.map fun (n : Nat) => (n : Int))
  rw [List.map_map] at this
  exact this
theorem ltD_oT (n : Nat) (o : Option (List Nat)) : ltD n (oT o) = true := by
  cases o with
  | none => rfl
  | some l => exact ltD_nsD n l
/-- what a search may be asked of -/
structure OkCs (cs : List CR) (kd : Int → String) : Prop where
  ok : ∀ c ∈ cs, c.kind = kd c.thing ∧ c.kind ∈ kinds5 ∧ 0 ≤ c.arg ∧ c.arg ≤ 99
  len : cs.length ≤ 11
theorem p_search {cs : List CR} {kd : Int → String} (h : OkCs cs kd) (bt : Bool) {l : Nat} {st : Sto} (h0 : st[l]? = some (.dct [])) : G_search [.tup (cs.map CR.d), .bl bt, .tup [], .ref l] st = some (oT (srch cs bt 12 [] []), st) := by
  have hl : (leftOf cs.length []).length = cs.length := by unfold leftOf; simp
  have := h.len
  exact trim_V (p_search0 bt kd h.ok (by omega) 12 [] [] l st h0 (Nat.le_refl _) (by simp) (by rw [hl]; simp; omega) (by omega)) (ltD_oT _ _)

def N_explained : List Str := ["calls", "by_time"]
noncomputable def m_explained : MS :=
 (sRet (mCall G_search [(mVar 0), (mVar 1), (mTup []), mDNew]))
noncomputable def F_explained : FM := bodyM 2 m_explained

noncomputable def G_explained : FM := trim F_explained
theorem n_explained : NrmF F_explained G_explained := nrm_trim _
theorem p_explained {cs : List CR} {kd : Int → String} (h : OkCs cs kd) (bt : Bool) (st : Sto) : G_explained [.tup (cs.map CR.d), .bl bt] st = some (oT (srch cs bt 12 [] []), st) := by
  refine trim_V ?_ (ltD_oT _ _)
  have hg : (st ++ [DO.dct []])[st.length]? = some (.dct []) := app_get0
  simp -dsimp [F_explained, m_explained, p_search h bt hg]

def N_order_fault : List Str := ["calls", "value", "by_time", "missing", "states", "place", "k", "later", "state", "told", "other"]
noncomputable def m_order_fault : MS :=
 (sSeq (sIf (mOrT (mNotT (mTst (mIsi "tuple" (mVar 1)))) (mNotT (mTst (mAll (mLc (itV (mVar 1)) [6] (.nm 6) (ME.pure true) (mCall G_is_from [(mVar 6), (mC (.int 0)), (mBin gSub (mLen (mSeq (mVar 0))) (mC (.int 1)))]))))))
 (sRet (mTup [(mC (.str (Str.ofString "form"))), (mC (.int 0))]))
 sSkip)
 (sSeq (sIf (mTst (mBin gNe (mLenSet (mVar 1)) (mLen (mSeq (mVar 1)))))
 (sRet (mTup [(mC (.str (Str.ofString "twice"))), (mC (.int 0))]))
 sSkip)
 (sSeq (sSet 3 (mNew (mLc (itF (mRg1 (mLen (mSeq (mVar 0))))) [6] (.nm 6) (mAndT (mTst (mBin gNotIn (mVar 6) (mVar 1))) (mTst (mBin gIsNot (mBin gIx (mBin gIx (mVar 0) (mVar 6)) (mC (.int 5))) (mC .non)))) (mVar 6))))
 (sSeq (sIf (mTst (mBin gGt (mLen (mSeq (mVar 3))) (mC (.int 0))))
 (sRet (mTup [(mC (.str (Str.ofString "missing"))), (mBin gIx (mVar 3) (mC (.int 0)))]))
 sSkip)
 (sSeq (sSet 4 mDNew)
 (sSeq (sFor (itF (mRg1 (mLen (mSeq (mVar 1))))) (tgN 5)
 (sSeq (sSet 6 (mBin gIx (mVar 1) (mVar 5)))
 (sSeq (sSet 7 (mNew (mLc (itV (mSl (mVar 1) (mSome (mBin gAdd (mVar 5) (mC (.int 1)))) (ME.pure none))) [10] (.nm 10) (mTst (mCall G_must_come_first [(mVar 0), (mVar 10), (mVar 6), (mVar 2)])) (mVar 10))))
 (sSeq (sIf (mTst (mBin gGt (mLen (mSeq (mVar 7))) (mC (.int 0))))
 (sRet (mTup [(mC (.str (Str.ofString "late"))), (mVar 5)]))
 sSkip)
 (sSeq (sAsg (tgT [(tgN 8), (tgN 9)]) (mCall G_call [(mBin gIx (mBin gIx (mVar 0) (mVar 6)) (mC (.int 2))), (mGet2 (mVar 4) (mBin gIx (mBin gIx (mVar 0) (mVar 6)) (mC (.int 1))) (mCall G_begin [(mBin gIx (mBin gIx (mVar 0) (mVar 6)) (mC (.int 2)))])), (mBin gIx (mBin gIx (mVar 0) (mVar 6)) (mC (.int 3))), (mBin gIx (mBin gIx (mVar 0) (mVar 6)) (mC (.int 4)))]))
 (sSeq (sIf (mTst (mBin gNotIn (mBin gIx (mBin gIx (mVar 0) (mVar 6)) (mC (.int 5))) (mTup [(mC .non), (mVar 9)])))
 (sRet (mTup [(mC (.str (Str.ofString "answer"))), (mVar 5)]))
 sSkip)
 (sAsg (tgI (mVar 4) (mBin gIx (mBin gIx (mVar 0) (mVar 6)) (mC (.int 1)))) (mVar 8))))))))
 (sRet (mC .non))))))))
noncomputable def F_order_fault : FM := bodyM 11 m_order_fault

noncomputable def G_order_fault : FM := trim F_order_fault
theorem n_order_fault : NrmF F_order_fault G_order_fault := nrm_trim _
theorem p_order_fault {cs : List CR} {kd : Int → String} (h : OkCs cs kd) (bt : Bool) {o : List Nat} (hn : o.Nodup) (ho : ∀ k ∈ o, k < cs.length) (hz : o.length ≤ 11) (st : Sto) : G_order_fault [.tup (cs.map CR.d), nsD o, .bl bt] st = some (oF (ofV cs o bt), st) := by
  have hr : okR 0 (cs.length : Int) = true := by have := h.len; simp [okR]; omega
  have hr2 : okR 0 (o.length : Int) = true := by simp [okR]; omega
  have hnd : (o.map fun (n : Nat) => (n : Int)).Nodup := nodup_cast hn
  have hz2 : o.length ≤ 1000 := by omega
  refine trim_V ?_ (by cases ofV cs o bt <;> rfl)
  simp -dsimp [F_order_fault, m_order_fault, nsD]
  refine lc_map o (fun k => .int (k : Nat)) (fun _ => .bl true) rfl trivial (fun k hk => ?_) ?_
  · have := ho k hk
    have h1 : (k : Int) ≤ (cs.length : Int) - 1 := by omega
    simp -dsimp [h1]
  simp -dsimp [tupI, toIs_nats, hnd, hz2, hr]
  refine lc_pure (List.range cs.length) (fun k => .int (k : Nat)) (fun k => decide (k ∉ o) && (match cs[k]? with | some c => c.ans.isSome | none => false)) (fun k => .int (k : Nat)) (rgD_map _) trivial (fun k hk => ?_) ?_
  · have hk : k < cs.length := by simpa using hk
    have e1 : cs[k]? = some cs[k] := List.getElem?_eq_getElem hk
    by_cases hko : k ∈ o
    · simp -dsimp [flat_nats, inD_nats, hko]
    · simp -dsimp [flat_nats, inD_nats, hko, atI_ofNat, e1, CR.d, at_nat]
  rw [show (List.range cs.length).filter (fun k => decide (k ∉ o) && (match cs[k]? with | some c => c.ans.isSome | none => false)) = missL cs o from rfl]
  cases hm : missL cs o with
  | cons k r => simp -dsimp [ofV, hm, oF, app_get0, ev_at0]
  | nil =>
    rw [show ofV cs o bt = ofRun cs bt 0 o [] by unfold ofV; rw [hm]]
    simp -dsimp [app_get0, hr2]
    refine for_W (fun i e s => Pre st s ∧ ∃ S : SS, s[st.length + 1]? = some (.dct (encS S)) ∧ S.length ≤ i ∧ (∀ p ∈ S, Okk (kd p.1) i p.2) ∧ ofRun cs bt 0 o [] = ofRun cs bt i (o.drop i) S ∧
      ∃ x5 x6 x7 x8 x9, e = [some (.tup (cs.map CR.d)), some (nsD o), some (.bl bt), some (.ref st.length), some (.ref (st.length + 1)), x5, x6, x7, x8, x9, none]) ⟨pre2, [], by rw [app_get]; rfl, Nat.le_refl _, by simp, rfl, none, none, none, none, none, rfl⟩ (fun _ _ _ _ => trivial) (fun i d e s hd hp => ?_) (fun e s hp => ?_)
    · obtain ⟨hi, rfl⟩ := rgD_get hd
      obtain ⟨hp, S, hS, hSl, hSo, hrun, x5, x6, x7, x8, x9, rfl⟩ := hp
      have e1 : o[i]? = some o[i] := List.getElem?_eq_getElem hi
      have hdrop : o.drop i = o[i] :: o.drop (i + 1) := List.drop_eq_getElem_cons hi
      generalize o[i] = k at e1 hdrop
      have hkc := ho k (List.mem_of_getElem? e1)
      have hc : cs[k]? = some cs[k] := List.getElem?_eq_getElem hkc
      have hcm : cs[k] ∈ cs := List.getElem_mem _
      generalize cs[k] = c at hc hcm
      rw [hdrop] at hrun
      simp -dsimp [nsD, atI_ofNat, e1, cut_succ]
      refine lc_pure (o.drop (i + 1)) (fun k => .int (k : Nat)) (fun p => mcfA cs bt p k) (fun k => .int (k : Nat)) (by simp) trivial (fun p hp => ?_) ?_
      · have hpc := ho p (List.mem_of_mem_drop hp)
        have hc2 : cs[p]? = some cs[p] := List.getElem?_eq_getElem hpc
        have e : mcfA cs bt p k = mcfV cs[p] c p k bt := by unfold mcfA; rw [hc2, hc]
        simp -dsimp [p_mcf bt hc2 hc, e]
      have hany : (o.drop (i + 1)).any (fun p => mcfA cs bt p k) = decide (0 < ((o.drop (i + 1)).filter fun p => mcfA cs bt p k).length) := by
        rw [Bool.eq_iff_iff]
        simp [List.length_pos_iff, List.filter_eq_nil_iff]
      generalize (o.drop (i + 1)).filter (fun p => mcfA cs bt p k) = L at hany
      rw [of_cons, hany] at hrun
      cases L with
      | cons z L =>
        simp only [List.length_cons, Nat.zero_lt_succ, decide_true, if_true] at hrun
        have hL : (0 : Int) < (L.length : Int) + 1 := by omega
        simp -dsimp [app_get0, hL, hrun, oF, hp.app]
      | nil =>
        have hlen : s.length ≥ st.length + 2 := by
          have := (List.getElem?_eq_some_iff.mp hS).1
          omega
        have hS2 : ∀ g, (s ++ g)[st.length + 1]? = some (.dct (encS S)) := fun g => app_old hS
        obtain ⟨hk1, hk2, hk3⟩ := h.ok c hcm
        have hso := st_ok hk1 hSo
        have hz1 : (encS S).length < LIM := by rw [encS_len]; show _ < 100000; omega
        simp only [List.length_nil, Nat.lt_irrefl, decide_false, Bool.false_eq_true, if_false, hc] at hrun
        simp -dsimp [app_get0, hc, CR.d, at_nat, hS2, p_begin, hk2, val_st, p_call hk2 (hso.ok (by omega))]
        by_cases hf : fits S c
        · have hf' : (!decide (c.ans = none) && !decide (c.ans = some (callV c.kind (stOf S c) c.word c.arg).2)) = false := by
            have : c.ans = none ∨ c.ans = some (callV c.kind (stOf S c) c.word c.arg).2 := hf
            rcases this with e | e <;> simp [e]
          rw [if_pos hf] at hrun
          have hcall := call_ok (w := c.word) (a := c.arg) hk2 hso hk3
          simp -dsimp [hf', hc, CR.d, at_nat]
          simp -dsimp only [gset_dct (hS2 _) keyD_int hz1, P1_some, put_enc]
          simp -dsimp
          refine ⟨(hp.app _).set (by omega) _, stepS S c, ?_, ?_, ?_, hrun, rfl⟩
          · exact List.getElem?_set_self (by simp; omega)
          · have := putA_len S c.thing (callV c.kind (stOf S c) c.word c.arg).1
            simp only [stepS]
            omega
          · refine fun a b hab => putA_all (P := fun p => Okk (kd p.1) (i + 1) p.2) (fun p hp => (hSo p hp).mono (Nat.le_succ _)) ?_ (a, b) hab
            show Okk (kd c.thing) (i + 1) _
            rw [← hk1]; exact hcall.1
        · have hf' : (!decide (c.ans = none) && !decide (c.ans = some (callV c.kind (stOf S c) c.word c.arg).2)) = true := by
            have : ¬ (c.ans = none ∨ c.ans = some (callV c.kind (stOf S c) c.word c.arg).2) := hf
            simpa using this
          rw [if_neg hf] at hrun
          simp -dsimp [hf', hrun, oF, hp.app]
    · obtain ⟨hp, S, hS, hSl, hSo, hrun, x5, x6, x7, x8, x9, rfl⟩ := hp
      rw [rgD_length, List.drop_length] at hrun
      simp -dsimp [hrun, ofRun, oF, hp]

def N_of_object : List Str := ["calls", "thing", "item"]
noncomputable def m_of_object : MS :=
 (sRet (mTupOf (mLc (itV (mVar 0)) [2] (.nm 2) (mTst (mBin gEq (mBin gIx (mVar 2) (mC (.int 1))) (mVar 1))) (mVar 2))))
noncomputable def F_of_object : FM := bodyM 3 m_of_object

noncomputable def G_of_object : FM := trim F_of_object
theorem n_of_object : NrmF F_of_object G_of_object := nrm_trim _
theorem p_of_object (cs : List CR) (t : Int) (st : Sto) : G_of_object [.tup (cs.map CR.d), .int t] st = some (.tup ((cs.filter fun c => decide (c.thing = t)).map CR.d), st) := by
  refine trim_V ?_ (by simp [ltD, ltDs_cr])
  simp -dsimp [F_of_object, m_of_object]
  refine lc_pure cs CR.d (fun c => decide (c.thing = t)) CR.d rfl trivial (fun c hc => ?_) ?_
  · simp -dsimp [CR.d, at_nat]
  simp -dsimp

def N_is_linear : List Str := ["calls"]
noncomputable def m_is_linear : MS :=
 (sRet (mBin gIsNot (mCall G_explained [(mVar 0), (mC (.bl true))]) (mC .non)))
noncomputable def F_is_linear : FM := bodyM 1 m_is_linear

noncomputable def G_is_linear : FM := trim F_is_linear
theorem n_is_linear : NrmF F_is_linear G_is_linear := nrm_trim _
theorem p_is_linear {cs : List CR} {kd : Int → String} (h : OkCs cs kd) (st : Sto) : G_is_linear [.tup (cs.map CR.d)] st = some (.bl (srch cs true 12 [] []).isSome, st) := by
  refine trim_V ?_ rfl
  cases e : srch cs true 12 [] [] with
  | none => simp -dsimp [F_is_linear, m_is_linear, p_explained h, e, oT]
  | some l => simp -dsimp [F_is_linear, m_is_linear, p_explained h, e, oT, nsD]

def N_is_in_turn : List Str := ["calls"]
noncomputable def m_is_in_turn : MS :=
 (sRet (mBin gIsNot (mCall G_explained [(mVar 0), (mC (.bl false))]) (mC .non)))
noncomputable def F_is_in_turn : FM := bodyM 1 m_is_in_turn

noncomputable def G_is_in_turn : FM := trim F_is_in_turn
theorem n_is_in_turn : NrmF F_is_in_turn G_is_in_turn := nrm_trim _
theorem p_is_in_turn {cs : List CR} {kd : Int → String} (h : OkCs cs kd) (st : Sto) : G_is_in_turn [.tup (cs.map CR.d)] st = some (.bl (srch cs false 12 [] []).isSome, st) := by
  refine trim_V ?_ rfl
  cases e : srch cs false 12 [] [] with
  | none => simp -dsimp [F_is_in_turn, m_is_in_turn, p_explained h, e, oT]
  | some l => simp -dsimp [F_is_in_turn, m_is_in_turn, p_explained h, e, oT, nsD]

def N__law_same : List Str := ["actual", "due", "k"]
noncomputable def m__law_same (self : FM) : MS :=
 (sSeq (sIf (mOrT (mTst (mIsi "tuple" (mVar 1))) (mTst (mIsi "list" (mVar 1))))
 (sSeq (sIf (mOrT (mTst (mBin gNe (mIsi "tuple" (mVar 1)) (mIsi "tuple" (mVar 0)))) (mOrT (mTst (mBin gNe (mIsi "list" (mVar 1)) (mIsi "list" (mVar 0)))) (mTst (mBin gNe (mLen (mSeq (mVar 0))) (mLen (mSeq (mVar 1)))))))
 (sRet (mC (.bl false)))
 sSkip)
 (sRet (mBin gEq (mLen (mLc (itF (mRg1 (mLen (mSeq (mVar 1))))) [2] (.nm 2) (mNotT (mTst (mCall self [(mBin gIx (mVar 0) (mVar 2)), (mBin gIx (mVar 1) (mVar 2))]))) (mVar 2))) (mC (.int 0)))))
 sSkip)
 (sSeq (sIf (mTst (mBin gIs (mVar 1) (mC .non)))
 (sRet (mBin gIs (mVar 0) (mC .non)))
 sSkip)
 (sSeq (sIf (mOrT (mTst (mIsi "bool" (mVar 1))) (mTst (mIsi "bool" (mVar 0))))
 (sRet (mAnd (mIsi "bool" (mVar 1)) (mAnd (mIsi "bool" (mVar 0)) (mBin gEq (mVar 0) (mVar 1)))))
 sSkip)
 (sSeq (sIf (mTst (mIsi "int" (mVar 1)))
 (sRet (mAnd (mIsi "int" (mVar 0)) (mBin gEq (mVar 0) (mVar 1))))
 sSkip)
 (sRet (mAnd (mIsi "str" (mVar 0)) (mAnd (mIsi "str" (mVar 1)) (mBin gEq (mVar 0) (mVar 1)))))))))
noncomputable def F__law_same : Nat → FM
  | 0 => fun _ _ => none
  | k + 1 => bodyM 3 (m__law_same (F__law_same k))

noncomputable def G__law_same : FM := trim (F__law_same 8)
theorem n__law_same : NrmF (F__law_same 8) G__law_same := nrm_trim _
theorem p_same0 : ∀ (k n : Nat) (a b : DV) (st : Sto), n < k → Same st n a b → V (F__law_same k [a, b] st) fun d s => d = .bl true ∧ Pre st s := by
  intro k
  induction k with
  | zero => intro n a b st h; omega
  | succ k ih =>
    intro n a b st hn h
    show V (bodyM 3 (m__law_same (F__law_same k)) _ _) _
    cases h with
    | non => simp -dsimp [m__law_same]
    | bl n b => simp -dsimp [m__law_same]
    | int n i => simp -dsimp [m__law_same]
    | str n s => simp -dsimp [m__law_same]
    | @tup n xs ys hl hz h =>
      have hr : okR 0 (ys.length : Int) = true := by simp [okR]; omega
      simp -dsimp [m__law_same, hl, hr]
      refine lc_V (fun i acc s => acc = [] ∧ Pre st s) ⟨rfl, pre1⟩ (fun _ _ _ _ => trivial) (fun i d acc s hd hp => ?_) (fun acc s hp => ?_)
      · obtain ⟨hi, rfl⟩ := rgD_get hd
        obtain ⟨rfl, hp⟩ := hp
        have e1 : xs[i]? = some xs[i] := List.getElem?_eq_getElem (by omega)
        have e2 : ys[i]? = some ys[i] := List.getElem?_eq_getElem hi
        simp -dsimp [atI_ofNat, e1, e2]
        refine (ih n _ _ s (by omega) ((h i _ _ e1 e2).pre hp)).mono fun d s' hd => ?_
        obtain ⟨rfl, hp'⟩ := hd
        simp -dsimp [hp.trans hp']
      · obtain ⟨rfl, hp⟩ := hp
        simp -dsimp [hp]
    | @lst n a b xs ys h1 h2 hl hz h =>
      have hr : okR 0 (ys.length : Int) = true := by simp [okR]; omega
      simp -dsimp [m__law_same, hl, hr, h1, h2]
      refine lc_V (fun i acc s => acc = [] ∧ Pre st s) ⟨rfl, pre1⟩ (fun _ _ _ _ => trivial) (fun i d acc s hd hp => ?_) (fun acc s hp => ?_)
      · obtain ⟨hi, rfl⟩ := rgD_get hd
        obtain ⟨rfl, hp⟩ := hp
        have e1 : xs[i]? = some xs[i] := List.getElem?_eq_getElem (by omega)
        have e2 : ys[i]? = some ys[i] := List.getElem?_eq_getElem hi
        simp -dsimp [atI_ofNat, e1, e2, hp.get h1, hp.get h2]
        refine (ih n _ _ s (by omega) ((h i _ _ e1 e2).pre hp)).mono fun d s' hd => ?_
        obtain ⟨rfl, hp'⟩ := hd
        simp -dsimp [hp.trans hp']
      · obtain ⟨rfl, hp⟩ := hp
        simp -dsimp [hp]
theorem p_same {n : Nat} {a b : DV} {st : Sto} (h : Same st n a b) (hn : n < 8) : G__law_same [a, b] st = some (.bl true, st) := trim_V (p_same0 8 n a b st hn h) rfl

def N__law_pool : List Str := ["script", "salt", "cell"]
noncomputable def m__law_pool : MS :=
 (sSeq (sSet 1 (mC (.int 7)))
 (sSeq (sFor (itV (mSl (mVar 0) (ME.pure none) (mSome (mC (.int 63))))) (tgN 2)
 (sSet 1 (mBin gMod (mInt (mBin gAdd (mBin gMul (mVar 1) (mC (.int 31))) (mVar 2))) (mC (.int 1000003)))))
 (sRet (mNew (mArgs [(mNew (mSeq (mVar 0))), (mC (.int 0)), (mC (.int 0)), (mC (.int 0)), (mVar 1)])))))
noncomputable def F__law_pool : FM := bodyM 3 m__law_pool

noncomputable def G__law_pool : FM := F__law_pool
theorem n__law_pool : NrmF F__law_pool G__law_pool := fun ds st d st' h => ⟨d, st', h, .same d st'⟩
theorem p_pool {ns : List Int} (h : ns.length ≤ 63) : ∃ p, G__law_pool [.scr (ns.map DV.int)] [] = some (.ref 2, p.st) ∧ OkP p := by
  have : V (F__law_pool [.scr (ns.map DV.int)] []) fun d s => ∃ salt, d = .ref 2 ∧ s = [.lst (ns.map DV.int), .lst (ns.map DV.int), .lst [.ref 1, .int 0, .int 0, .int 0, .int salt]] := by
    simp -dsimp [F__law_pool, m__law_pool, cut_to]
    have ht : (ns.map DV.int).take 63 = ns.map DV.int := List.take_of_length_le (by simpa using h)
    rw [ht]
    refine for_W (fun i e s => s = [.lst (ns.map DV.int)] ∧ ∃ x y, e = [some (.scr (ns.map DV.int)), some (.int x), y]) ⟨rfl, _, _, rfl⟩ (fun i e s hp => by obtain ⟨rfl, _⟩ := hp; rfl) (fun i d e s hd hp => ?_) (fun e s hp => ?_)
    · obtain ⟨rfl, x, y, rfl⟩ := hp
      rw [List.getElem?_map] at hd
      obtain ⟨z, _, rfl⟩ := Option.map_eq_some_iff.mp hd
      have hs : small 31 = true := by decide
      simp -dsimp [gMul, gMod, hs]
    · obtain ⟨rfl, x, y, rfl⟩ := hp
      simp -dsimp
  obtain ⟨_, _, h1, salt, rfl, rfl⟩ := this
  exact ⟨⟨ns, 0, 0, 0, salt⟩, h1, by simp [OkP, h]⟩

def N__law_spread : List Str := ["cell", "mixed", "total", "k"]
noncomputable def m__law_spread : MS :=
 (sSeq (sSet 1 (mBin gMod (mInt (mVar 0)) (mC (.int 2147483647))))
 (sSeq (sSet 2 (mC (.int 1)))
 (sSeq (sFor (itF (mRg1 (mC (.int 4)))) (tgN 3)
 (sSeq (sSet 1 (mBin gMod (mInt (mBin gAdd (mBin gAdd (mBin gMul (mVar 1) (mC (.int 48271))) (mC (.int 12345))) (mVar 3))) (mC (.int 2147483647))))
 (sSet 2 (mBin gAdd (mBin gMul (mVar 2) (mC (.int 2147483647))) (mVar 1)))))
 (sRet (mVar 2)))))
noncomputable def F__law_spread : FM := bodyM 4 m__law_spread

noncomputable def G__law_spread : FM := trim F__law_spread
theorem n__law_spread : NrmF F__law_spread G__law_spread := nrm_trim _
theorem p_spread (c : Int) (st : Sto) : ∃ v, G__law_spread [.int c] st = some (.int v, st) := by
  have : V (F__law_spread [.int c] st) fun d s => (∃ v, d = .int v) ∧ Pre st s := by
    have hr : okR 0 4 = true := by decide
    simp -dsimp [F__law_spread, m__law_spread, hr]
    refine for_W (fun i e s => Pre st s ∧ ∃ x y z, e = [some (.int c), some (.int x), some (.int y), z]) ⟨pre1, _, _, _, rfl⟩ (fun _ _ _ _ => trivial) (fun i d e s hd hp => ?_) (fun e s hp => ?_)
    · obtain ⟨hi, rfl⟩ := rgD_get (n := 4) hd
      obtain ⟨hp, x, y, z, rfl⟩ := hp
      have hs : small 48271 = true := by decide
      have hs2 : small 2147483647 = true := by decide
      simp -dsimp [gMul, gMod, hs, hs2, hp]
    · obtain ⟨hp, x, y, z, rfl⟩ := hp
      simp -dsimp [hp]
  obtain ⟨_, _, h1, ⟨v, rfl⟩, h2⟩ := this
  exact ⟨v, trim_V ⟨_, _, h1, rfl, h2⟩ rfl⟩

def N__law_draw : List Str := ["pool", "many", "cell", "mixed", "value"]
noncomputable def m__law_draw : MS :=
 (sSeq (sIf (mAndT (mTst (mBin gLe (mBin gIx (mVar 0) (mC (.int 2))) (mC (.int 0)))) (mTst (mBin gLt (mBin gIx (mVar 0) (mC (.int 1))) (mLen (mSeq (mBin gIx (mVar 0) (mC (.int 0))))))))
 (sSeq (sSet 2 (mBin gIx (mBin gIx (mVar 0) (mC (.int 0))) (mBin gIx (mVar 0) (mC (.int 1)))))
 (sSeq (sAsg (tgI (mVar 0) (mC (.int 1))) (mBin gAdd (mBin gIx (mVar 0) (mC (.int 1))) (mC (.int 1))))
 (sSeq (sAsg (tgI (mVar 0) (mC (.int 2))) (mVar 2))
 (sIf (mTst (mBin gLt (mVar 2) (mC (.int 1000000000000000000))))
 (sAsg (tgI (mVar 0) (mC (.int 2))) (mCall G__law_spread [(mVar 2)]))
 sSkip))))
 sSkip)
 (sSeq (sAsg (tgI (mVar 0) (mC (.int 3))) (mBin gAdd (mBin gIx (mVar 0) (mC (.int 3))) (mC (.int 1))))
 (sSeq (sIf (mTst (mBin gLe (mBin gIx (mVar 0) (mC (.int 2))) (mC (.int 0))))
 (sSeq (sSet 3 (mBin gMod (mInt (mBin gAdd (mBin gAdd (mBin gMul (mBin gIx (mVar 0) (mC (.int 4))) (mC (.int 48271))) (mBin gMul (mBin gIx (mVar 0) (mC (.int 3))) (mC (.int 69621)))) (mC (.int 1)))) (mC (.int 2147483647))))
 (sSeq (sSet 3 (mBin gMod (mInt (mBin gAdd (mBin gMul (mVar 3) (mC (.int 16807))) (mBin gIx (mVar 0) (mC (.int 3))))) (mC (.int 2147483629))))
 (sRet (mBin gMod (mBin gDiv (mVar 3) (mC (.int 5))) (mVar 1)))))
 sSkip)
 (sSeq (sSet 4 (mBin gMod (mInt (mBin gIx (mVar 0) (mC (.int 2)))) (mVar 1)))
 (sSeq (sAsg (tgI (mVar 0) (mC (.int 2))) (mBin gDiv (mBin gIx (mVar 0) (mC (.int 2))) (mVar 1)))
 (sRet (mVar 4)))))))
noncomputable def F__law_draw : FM := bodyM 5 m__law_draw

noncomputable def G__law_draw : FM := trim F__law_draw
theorem n__law_draw : NrmF F__law_draw G__law_draw := nrm_trim _
theorem p_draw {p : PS} (h : OkP p) (g : Sto) {many : Int} (h0 : 0 < many) (h1 : many < 1073741824) : ∃ v p', G__law_draw [.ref 2, .int many] (p.st ++ g) = some (.int v, p'.st ++ g) ∧ 0 ≤ v ∧ v < many ∧ OkP p' := by
  obtain ⟨ns, i, r, c, salt⟩ := p
  obtain ⟨hi1, hi2, hz⟩ := h
  simp only at hi1 hi2 hz
  refine trim_draw ?_
  have hs : small 48271 = true := by decide
  have hs2 : small 69621 = true := by decide
  have hs3 : small 16807 = true := by decide
  have hm : ∀ z : Int, 0 ≤ z % many ∧ z % many < many := fun z => ⟨Int.emod_nonneg _ (by omega), Int.emod_lt_of_pos _ h0⟩
  simp -dsimp [F__law_draw, m__law_draw, PS.st, at_nat]
  refine cd_of (fun q => ?_) (fun q => ?_)
  · simp -dsimp [at_nat]
    refine cd_of (fun q => ?_) (fun q => ?_)
    · have q : i < ns.length := by simpa using q
      have hn : i.toNat < ns.length := by omega
      have hc : ns[i.toNat]? = some ns[i.toNat] := List.getElem?_eq_getElem hn
      generalize ns[i.toNat] = cell at hc
      have hi3 : 0 ≤ i + 1 := by omega
      simp -dsimp [at_nat, hi1, hc, gSet, ixN]
      refine cd_of (fun q2 => ?_) (fun q2 => ?_)
      · simp -dsimp
        obtain ⟨v, hv⟩ := p_spread cell (DO.lst (ns.map DV.int) :: DO.lst (ns.map DV.int) :: DO.lst [DV.ref 1, DV.int (i + 1), DV.int cell, DV.int c, DV.int salt] :: g)
        refine V_of hv ?_
        simp -dsimp [at_nat, gSet, ixN]
        refine cd_of (fun _ => ?_) (fun _ => ?_) <;>
        (simp -dsimp [at_nat, gMul, gMod, gDiv, hs, hs2, hs3, h0, h1, gSet, ixN]; exact draw_ok (hm _).1 (hm _).2 ⟨by simp only; omega, by simp only; omega, hz⟩)
      · simp -dsimp [at_nat, gSet, ixN]
        refine cd_of (fun _ => ?_) (fun _ => ?_) <;>
        (simp -dsimp [at_nat, gMul, gMod, gDiv, hs, hs2, hs3, h0, h1, gSet, ixN]; exact draw_ok (hm _).1 (hm _).2 ⟨by simp only; omega, by simp only; omega, hz⟩)
    · simp -dsimp [at_nat, gSet, ixN]
      refine cd_of (fun _ => ?_) (fun _ => ?_) <;>
        (simp -dsimp [at_nat, gMul, gMod, gDiv, hs, hs2, hs3, h0, h1, gSet, ixN]; exact draw_ok (hm _).1 (hm _).2 ⟨by simp only; omega, by simp only; omega, hz⟩)
  · simp -dsimp [at_nat, gSet, ixN]
    refine cd_of (fun _ => ?_) (fun _ => ?_) <;>
        (simp -dsimp [at_nat, gMul, gMod, gDiv, hs, hs2, hs3, h0, h1, gSet, ixN]; exact draw_ok (hm _).1 (hm _).2 ⟨by simp only; omega, by simp only; omega, hz⟩)
theorem draw_V {p : PS} (h : OkP p) {g : Sto} {many : Int} (h0 : 0 < many) (h1 : many < 1073741824) {Q : DV → Sto → Prop} (q : ∀ v p', OkP p' → 0 ≤ v → v < many → Q (.int v) (p'.st ++ g)) : V (G__law_draw [.ref 2, .int many] (p.st ++ g)) Q := by
  obtain ⟨v, p', e, h2, h3, h4⟩ := p_draw h g h0 h1
  exact V_of e (q v p' h4 h2 h3)

def N__law_pick : List Str := ["pool", "items"]
noncomputable def m__law_pick : MS :=
 (sRet (mBin gIx (mVar 1) (mCall G__law_draw [(mVar 0), (mLen (mSeq (mVar 1)))])))
noncomputable def F__law_pick : FM := bodyM 2 m__law_pick

noncomputable def G__law_pick : FM := trim F__law_pick
theorem n__law_pick : NrmF F__law_pick G__law_pick := nrm_trim _
theorem p_pick {p : PS} (h : OkP p) {g : Sto} {j : Nat} {ds : List DV} (hj : g[j]? = some (.lst ds)) (h0 : 0 < ds.length) (h1 : ds.length ≤ 1000) (hd : ∀ d ∈ ds, ltD 3 d = true) : ∃ d p', G__law_pick [.ref 2, .ref (j + 3)] (p.st ++ g) = some (d, p'.st ++ g) ∧ OkP p' ∧ d ∈ ds := by
  refine trim_pool (R := fun d => d ∈ ds) ?_ hd
  obtain ⟨v, p', h2, h3, h4, h5⟩ := p_draw h g (many := ds.length) (by omega) (by omega)
  have hv : v.toNat < ds.length := by omega
  have e1 : ds[v.toNat]? = some ds[v.toNat] := List.getElem?_eq_getElem hv
  simp -dsimp [F__law_pick, m__law_pick, hj, h2, at_nat, h3, e1]
  exact ⟨p', pre1, h5, List.getElem_mem hv⟩
theorem pick_V {p : PS} (h : OkP p) {g : Sto} {j : Nat} {ds : List DV} {Q : DV → Sto → Prop} (hj : g[j]? = some (.lst ds)) (h0 : 0 < ds.length) (h1 : ds.length ≤ 1000) (hd : ∀ d ∈ ds, ltD 3 d = true) (q : ∀ d p', OkP p' → d ∈ ds → Q d (p'.st ++ g)) : V (G__law_pick [.ref 2, .ref (j + 3)] (p.st ++ g)) Q := by
  obtain ⟨d, p', e, h2, h3⟩ := p_pick h hj h0 h1 hd
  exact V_of e (q d p' h2 h3)

def N__law_shuffled : List Str := ["pool", "items", "left", "found"]
noncomputable def m__law_shuffled : MS :=
 (sSeq (sSet 2 (mNew (mSeq (mVar 1))))
 (sSeq (sSet 3 (mNew (mArgs [])))
 (sSeq (sWhile (mTst (mBin gNe (mVar 2) (mNew (mArgs []))))
 (sExpr (mApp (mVar 3) (mPopAt (mVar 2) (mCall G__law_draw [(mVar 0), (mLen (mSeq (mVar 2)))])))) 100000)
 (sRet (mVar 3)))))
noncomputable def F__law_shuffled : FM := bodyM 4 m__law_shuffled

noncomputable def G__law_shuffled : FM := trimL F__law_shuffled
theorem n__law_shuffled : NrmF F__law_shuffled G__law_shuffled := nrm_trimL _
def ShP (g : Sto) (l : Nat) (ns : List Int) (n : Nat) (e : DL.Env) (s : Sto) : Prop := ∃ (p : PS) (u : Sto) (left found : List Int), s = p.st ++ (g ++ u) ∧ OkP p ∧ u[0]? = some (.lst (left.map DV.int)) ∧ u[1]? = some (.lst (found.map DV.int)) ∧ n = left.length ∧ (found ++ left).Perm ns ∧ e = [some (.ref 2), some (.ref (l + 3)), some (.ref (g.length + 3)), some (.ref (g.length + 4))]
theorem shuf_V {p : PS} (ok : OkP p) {g : Sto} {l : Nat} {ns : List Int} (hl : g[l]? = some (.lst (ns.map DV.int))) (hz : ns.length ≤ 1000) {Q : DV → Sto → Prop} (q : ∀ (ms : List Int) (p' : PS), OkP p' → ms.Perm ns → Q (.ref (g.length + 3)) (p'.st ++ (g ++ [.lst (ms.map DV.int)]))) : V (G__law_shuffled [.ref 2, .ref (l + 3)] (p.st ++ g)) Q := by
  suffices key : V (F__law_shuffled [.ref 2, .ref (l + 3)] (p.st ++ g)) fun d s => ∃ (p' : PS) (u : Sto) (j : Nat) (o : DO), d = .ref (g.length + 3 + j) ∧ s = p'.st ++ (g ++ u) ∧ u[j]? = some o ∧ OkP p' ∧ ∃ ms : List Int, o = .lst (ms.map DV.int) ∧ ms.Perm ns from by
    obtain ⟨o, p', h1, h2, ms, rfl, h3⟩ := trimL_pool key (fun o ⟨ms, e, _⟩ => by rw [e]; simp [ltO, ltDs_ints])
    exact V_of h1 (q ms p' h2 h3)
  simp -dsimp [F__law_shuffled, m__law_shuffled, hl]
  refine while_W (fun n e s => ShP g l ns n e s) (fun n e s hp => ?_) 100000 ns.length _ _ ⟨p, [.lst (ns.map DV.int), .lst []], ns, [], by simp, ok, rfl, rfl, rfl, by simp, by simp⟩ (by omega)
  obtain ⟨p, u, left, found, rfl, ok, h0, h1, rfl, hp, rfl⟩ := hp
  have h0' : ∀ v : Sto, (g ++ (u ++ v))[g.length]? = some (.lst (left.map DV.int)) := fun v => by rw [app_get0]; exact app_old h0
  have h1' : ∀ v : Sto, (g ++ (u ++ v))[g.length + 1]? = some (.lst (found.map DV.int)) := fun v => by rw [app_get]; exact app_old h1
  simp -dsimp
  refine V_of (ne_nil (ns := left) (by rw [ps_get]; exact h0' _) (by rw [show g.length + u.length + 3 = (g ++ u).length + 3 by simp, ps_get, ← List.append_assoc]; exact app_get0)) ?_
  obtain ⟨u', hu'⟩ : ∃ u', u' = u ++ [DO.lst []] := ⟨_, rfl⟩
  have i0 : u'[0]? = some (.lst (left.map DV.int)) := by rw [hu']; exact app_old h0
  have i1 : u'[1]? = some (.lst (found.map DV.int)) := by rw [hu']; exact app_old h1
  rw [show g ++ (u ++ [DO.lst []]) = g ++ u' by rw [hu']]
  clear hu' h0 h1 h0' h1'
  cases left with
  | nil =>
    simp -dsimp
    exact ⟨p, u', 1, by omega, rfl, _, i1, ok, found, rfl, by simpa using hp⟩
  | cons x r =>
    have hpl := hp.length_eq
    simp only [List.length_append, List.length_cons] at hpl
    obtain ⟨G, hG⟩ : ∃ G, G = g ++ u' := ⟨_, rfl⟩
    have g0 : G[g.length]? = some (.lst ((x :: r).map DV.int)) := by rw [hG, app_get0]; exact i0
    have g1 : G[g.length + 1]? = some (.lst (found.map DV.int)) := by rw [hG, app_get]; exact i1
    rw [← hG]
    simp -dsimp [g0, g1]
    refine draw_V ok (many := (r.length : Int) + 1) (by omega) (by omega) fun v p' ok' v0 v1 => ?_
    have hv : v.toNat < (x :: r).length := by simp only [List.length_cons]; omega
    have hx : ((x :: r).map DV.int)[v.toNat]? = some (.int (x :: r)[v.toNat]) := by rw [List.getElem?_map, List.getElem?_eq_getElem hv]; rfl
    have hm : r.length + 1 ≤ LIM := by show _ ≤ 100000; omega
    have hm2 : found.length < LIM := by show _ < 100000; omega
    have g2 : ∀ X, (G.set g.length X)[g.length + 1]? = some (.lst (found.map DV.int)) := fun X => by rw [List.getElem?_set_ne (by omega)]; exact g1
    simp only [List.map_cons] at hx g0
    simp -dsimp [g0, g1, g2, v0, v1, hx, hm, hm2, ps_set]
    have he : (DV.int x :: r.map DV.int).eraseIdx v.toNat = ((x :: r).eraseIdx v.toNat).map DV.int := erase_map DV.int (x :: r) _
    have hy : (DV.int x :: r.map DV.int)[v.toNat]'(by simpa using hv) = DV.int (x :: r)[v.toNat] := List.getElem_map (l := x :: r) DV.int
    refine ⟨((x :: r).eraseIdx v.toNat).length, by rw [List.length_eraseIdx_of_lt hv]; simp, p', (u'.set 0 (.lst (((x :: r).eraseIdx v.toNat).map DV.int))).set 1 (.lst ((found ++ [(x :: r)[v.toNat]]).map DV.int)), (x :: r).eraseIdx v.toNat, found ++ [(x :: r)[v.toNat]], ?_, ok', ?_, ?_, rfl, ?_⟩
    · rw [hG, app_set0, app_set]
      simp only [he, hy, List.map_append, List.map_cons, List.map_nil]
    · rw [List.getElem?_set_ne (by decide)]
      exact List.getElem?_set_self (List.getElem?_eq_some_iff.mp i0).1
    · refine List.getElem?_set_self ?_
      rw [List.length_set]
      exact (List.getElem?_eq_some_iff.mp i1).1
    · refine ⟨List.Perm.trans ?_ hp, rfl⟩
      rw [List.append_assoc]
      exact List.Perm.append_left _ (perm_erase hv)

def N__law_call : List Str := ["kind", "state", "word", "argument", "inside", "one"]
noncomputable def m__law_call : MS :=
 (sSeq (sIf (mTst (mBin gEq (mVar 0) (mC (.str (Str.ofString "cell")))))
 (sRet (mIf (mTst (mBin gEq (mVar 2) (mC (.str (Str.ofString "get"))))) (mTup [(mVar 1), (mVar 1)]) (mTup [(mVar 3), (mC (.int 0))])))
 sSkip)
 (sSeq (sIf (mTst (mBin gEq (mVar 0) (mC (.str (Str.ofString "counter")))))
 (sRet (mIf (mTst (mBin gEq (mVar 2) (mC (.str (Str.ofString "get"))))) (mTup [(mVar 1), (mVar 1)]) (mTup [(mBin gMod (mInt (mBin gAdd (mVar 1) (mVar 3))) (mC (.int 100))), (mC (.int 0))])))
 sSkip)
 (sSeq (sIf (mTst (mBin gEq (mVar 0) (mC (.str (Str.ofString "set")))))
 (sSeq (sSet 4 (mInt (mBin gIn (mVar 3) (mVar 1))))
 (sSeq (sIf (mAndT (mTst (mBin gEq (mVar 2) (mC (.str (Str.ofString "add"))))) (mTst (mBin gEq (mVar 4) (mC (.int 0)))))
 (sRet (mTup [(mTupOf (mSrt (mSeq (mBin gAdd (mVar 1) (mTup [(mVar 3)]))))), (mC (.int 0))]))
 sSkip)
 (sRet (mTup [(mIf (mTst (mBin gEq (mVar 2) (mC (.str (Str.ofString "take"))))) (mTupOf (mLc (itV (mVar 1)) [5] (.nm 5) (mTst (mBin gNe (mVar 5) (mVar 3))) (mVar 5))) (mVar 1)), (mVar 4)]))))
 sSkip)
 (sSeq (sIf (mTst (mBin gEq (mVar 2) (mC (.str (Str.ofString "put")))))
 (sRet (mTup [(mBin gAdd (mVar 1) (mTup [(mVar 3)])), (mC (.int 0))]))
 sSkip)
 (sSeq (sIf (mTst (mBin gEq (mVar 1) (mTup [])))
 (sRet (mTup [(mVar 1), (mNeg (mC (.int 1)))]))
 sSkip)
 (sRet (mIf (mTst (mBin gEq (mVar 0) (mC (.str (Str.ofString "line"))))) (mTup [(mSl (mVar 1) (mSome (mC (.int 1))) (ME.pure none)), (mBin gIx (mVar 1) (mC (.int 0)))]) (mTup [(mSl (mVar 1) (ME.pure none) (mSome (mNeg (mC (.int 1))))), (mBin gIx (mVar 1) (mNeg (mC (.int 1))))]))))))))
noncomputable def F__law_call : FM := bodyM 6 m__law_call

noncomputable def G__law_call : FM := trim F__law_call
theorem n__law_call : NrmF F__law_call G__law_call := nrm_trim _
theorem p__law_call {kind : String} {s : SV} (hk : kind ∈ kinds5) (hs : OkS kind s) (w : String) (a : Int) (st : Sto) : G__law_call [.str (Str.ofString kind), s.d, .str (Str.ofString w), .int a] st = some (.tup [(callV kind s w a).1.d, .int (callV kind s w a).2], st) := by
  refine trim_V ?_ (by simp [ltD, ltDs, ltD_sv])
  simp only [kinds5, List.mem_cons, List.not_mem_nil, or_false] at hk
  rcases hk with rfl | rfl | rfl | rfl | rfl
  · obtain ⟨i, rfl⟩ := hs
    by_cases h : w = "get" <;> simp -dsimp [F__law_call, m__law_call, cellV, SV.d, h, callV]
  · obtain ⟨i, rfl⟩ := hs
    by_cases h : w = "get" <;> simp -dsimp [F__law_call, m__law_call, counterV, SV.d, h, callV]
  · obtain ⟨ns, rfl, hz⟩ := hs
    have hl : ns.length + 1 ≤ LIM := by show _ ≤ 100000; omega
    by_cases h : w = "put"
    · simp -dsimp [F__law_call, m__law_call, callV, lineV, SV.d, h, hl]
    · cases ns with
      | nil =>
        have e : gEq (.tup []) (.tup []) st = some (.bl true, st) := rfl
        simp -dsimp [F__law_call, m__law_call, callV, lineV, SV.d, h, e]
      | cons x r =>
        have e : gEq (.tup (DV.int x :: r.map DV.int)) (.tup []) st = some (.bl false, st) := by
          have h1 : toPS st (.tup (DV.int x :: r.map DV.int)) = some (toP (.tup ((x :: r).map DV.int))) := toPS_sv st (.l (x :: r))
          unfold gEq
          rw [h1]
          rfl
        simp -dsimp [F__law_call, m__law_call, callV, lineV, SV.d, h, ev_at0, cut_from, e]
  · obtain ⟨ns, rfl, hz⟩ := hs
    have hl : ns.length + 1 ≤ LIM := by show _ ≤ 100000; omega
    by_cases h : w = "put"
    · simp -dsimp [F__law_call, m__law_call, callV, pileV, SV.d, h, hl]
    · cases q : ns.getLast? with
      | none =>
        obtain rfl : ns = [] := List.getLast?_eq_none_iff.mp q
        have e : gEq (.tup []) (.tup []) st = some (.bl true, st) := rfl
        simp -dsimp [F__law_call, m__law_call, callV, pileV, SV.d, h, e]
      | some x =>
        have hp : ns ≠ [] := by
          rintro rfl
          cases q
        have e : gEq (.tup (ns.map DV.int)) (.tup []) st = some (.bl false, st) := by
          have h1 : toPS st (.tup (ns.map DV.int)) = some (toP (.tup (ns.map DV.int))) := toPS_sv st (.l ns)
          unfold gEq
          rw [h1]
          cases ns with
          | nil => exact absurd rfl hp
          | cons y r => rfl
        simp -dsimp [F__law_call, m__law_call, callV, pileV, SV.d, h, at_last, cut_last, q, List.map_dropLast, e]
  · obtain ⟨ns, rfl, hz⟩ := hs
    have hl : ns.length + 1 ≤ LIM := by show _ ≤ 100000; omega
    have hm : toIs (ns.map DV.int ++ [DV.int a]) = some (ns ++ [a]) := by rw [show ns.map DV.int ++ [DV.int a] = (ns ++ [a]).map DV.int by simp, toIs_map]
    by_cases h : w = "add"
    · by_cases ha : a ∈ ns
      · simp -dsimp [F__law_call, m__law_call, flat_ints, inD_ints, h, ha, callV, setV, SV.d]
      · simp -dsimp [F__law_call, m__law_call, flat_ints, inD_ints, h, ha, callV, setV, SV.d, hl, hm]
    · by_cases h2 : w = "take"
      · simp -dsimp [F__law_call, m__law_call, flat_ints, inD_ints, h, h2, callV, setV, SV.d]
        refine lc_pure ns DV.int (fun x => x != a) DV.int rfl trivial (fun x hx => ?_) ?_
        · by_cases e : x = a <;> simp -dsimp [e]
        · simp -dsimp [callV, setV, SV.d, h2]
      · simp -dsimp [F__law_call, m__law_call, flat_ints, inD_ints, h, h2, callV, setV, SV.d]

def N__law_first_state : List Str := ["kind"]
noncomputable def m__law_first_state : MS :=
 (sRet (mIf (mTst (mBin gIn (mVar 0) (mTup [(mC (.str (Str.ofString "cell"))), (mC (.str (Str.ofString "counter")))]))) (mC (.int 0)) (mTup [])))
noncomputable def F__law_first_state : FM := bodyM 1 m__law_first_state

noncomputable def G__law_first_state : FM := trim F__law_first_state
theorem n__law_first_state : NrmF F__law_first_state G__law_first_state := nrm_trim _
theorem p_first_state (kind : String) (hk : kind ∈ kinds5) (st : Sto) : G__law_first_state [.str (Str.ofString kind)] st = some ((initV kind).d, st) := by
  refine trim_V ?_ (ltD_sv _ _)
  simp only [kinds5, List.mem_cons, List.not_mem_nil, or_false] at hk
  rcases hk with rfl | rfl | rfl | rfl | rfl <;> simp -dsimp [F__law_first_state, m__law_first_state, initV, SV.d]

def N__law_words : List Str := ["kind"]
noncomputable def m__law_words : MS :=
 (sRet (mBin gDGet (mDisp [((mC (.str (Str.ofString "cell"))), (mNew (mArgs [(mC (.str (Str.ofString "get"))), (mC (.str (Str.ofString "put")))]))), ((mC (.str (Str.ofString "counter"))), (mNew (mArgs [(mC (.str (Str.ofString "add"))), (mC (.str (Str.ofString "get")))]))), ((mC (.str (Str.ofString "line"))), (mNew (mArgs [(mC (.str (Str.ofString "put"))), (mC (.str (Str.ofString "take")))]))), ((mC (.str (Str.ofString "pile"))), (mNew (mArgs [(mC (.str (Str.ofString "put"))), (mC (.str (Str.ofString "take")))]))), ((mC (.str (Str.ofString "set"))), (mNew (mArgs [(mC (.str (Str.ofString "add"))), (mC (.str (Str.ofString "has"))), (mC (.str (Str.ofString "take")))])))]) (mVar 0)))
noncomputable def F__law_words : FM := bodyM 1 m__law_words

noncomputable def G__law_words : FM := trimL F__law_words
theorem n__law_words : NrmF F__law_words G__law_words := nrm_trimL _
theorem p_words (kind : String) (hk : kind ∈ kinds5) (st : Sto) : G__law_words [.str (Str.ofString kind)] st = some (.ref st.length, st ++ [.lst ((kWords kind).map strD)]) := by
  have : ∃ k, V (F__law_words [.str (Str.ofString kind)] st) fun d' s' => d' = .ref (st.length + k) ∧ Pre st s' ∧ s'[st.length + k]? = some (.lst ((kWords kind).map strD)) := by
    simp only [kinds5, List.mem_cons, List.not_mem_nil, or_false] at hk
    rcases hk with rfl | rfl | rfl | rfl | rfl
    · exact ⟨0, by simp -dsimp [F__law_words, m__law_words, mergeD, putD, valD, ofS_eq, app_get, app_get0, kWords, strD]⟩
    · exact ⟨1, by simp -dsimp [F__law_words, m__law_words, mergeD, putD, valD, ofS_eq, app_get, app_get0, kWords, strD]⟩
    · exact ⟨2, by simp -dsimp [F__law_words, m__law_words, mergeD, putD, valD, ofS_eq, app_get, app_get0, kWords, strD]⟩
    · exact ⟨3, by simp -dsimp [F__law_words, m__law_words, mergeD, putD, valD, ofS_eq, app_get, app_get0, kWords, strD]⟩
    · exact ⟨4, by simp -dsimp [F__law_words, m__law_words, mergeD, putD, valD, ofS_eq, app_get, app_get0, kWords, strD]⟩
  obtain ⟨k, h⟩ := this
  have hs : ∀ ws : List String, ltDs st.length (ws.map strD) = true := fun ws => by
    induction ws with
    | nil => rfl
    | cons w r ih => simp [ltDs, ltD, strD, ih]
  exact trimL_V (h.mono fun d s ⟨h1, h2, h3⟩ => ⟨k, h1, h2, h3⟩) (hs _)

def N__law_some_call : List Str := ["pool", "kind", "word", "bare"]
noncomputable def m__law_some_call : MS :=
 (sSeq (sSet 2 (mCall G__law_pick [(mVar 0), (mCall G__law_words [(mVar 1)])]))
 (sSeq (sSet 3 (mOr (mBin gEq (mVar 2) (mC (.str (Str.ofString "get")))) (mAnd (mBin gEq (mVar 2) (mC (.str (Str.ofString "take")))) (mBin gNe (mVar 1) (mC (.str (Str.ofString "set")))))))
 (sRet (mTup [(mVar 2), (mIf (mTst (mVar 3)) (mC (.int 0)) (mBin gIx (mTup [(mC (.int 0)), (mC (.int 1)), (mC (.int 2)), (mC (.int 50)), (mC (.int 99))]) (mCall G__law_draw [(mVar 0), (mC (.int 5))])))]))))
noncomputable def F__law_some_call : FM := bodyM 4 m__law_some_call

noncomputable def G__law_some_call : FM := trim F__law_some_call
theorem n__law_some_call : NrmF F__law_some_call G__law_some_call := nrm_trim _
theorem five_of {n : Nat} (h : n < 5) : ∃ a, [DV.int 0, .int 1, .int 2, .int 50, .int 99][n]? = some (.int a) ∧ 0 ≤ a ∧ a ≤ 99 := by
  match n, h with
  | 0, _ => exact ⟨_, rfl, by decide, by decide⟩
  | 1, _ => exact ⟨_, rfl, by decide, by decide⟩
  | 2, _ => exact ⟨_, rfl, by decide, by decide⟩
  | 3, _ => exact ⟨_, rfl, by decide, by decide⟩
  | 4, _ => exact ⟨_, rfl, by decide, by decide⟩
theorem bare_of {kind w : String} (hk : kind ∈ kinds5) (hw : w ∈ kWords kind) : bareW kind w = (decide (w = "get") || (decide (w = "take") && !decide (kind = "set"))) := by
  simp only [kinds5, List.mem_cons, List.not_mem_nil, or_false] at hk
  rcases hk with rfl | rfl | rfl | rfl | rfl <;> simp only [kWords, String.reduceEq, if_true, if_false, List.mem_cons, List.not_mem_nil, or_false] at hw <;>
    (rcases hw with rfl | rfl | rfl; all_goals simp [bareW])
/-- a word and an argument -/
def IsCall (kind : String) (d : DV) : Prop := ∃ c, d = dC c ∧ OkW kind c
theorem p_some_call {p : PS} (h : OkP p) (g : Sto) {kind : String} (hk : kind ∈ kinds5) : ∃ c p', G__law_some_call [.ref 2, .str (Str.ofString kind)] (p.st ++ g) = some (dC c, p'.st ++ g) ∧ OkP p' ∧ OkW kind c := by
  have : ∃ d p', G__law_some_call [.ref 2, .str (Str.ofString kind)] (p.st ++ g) = some (d, p'.st ++ g) ∧ OkP p' ∧ IsCall kind d := by
    refine trim_pool (R := IsCall kind) ?_ (fun d ⟨c, e, _⟩ => by rw [e]; rfl)
    have hl : (g ++ [DO.lst ((kWords kind).map strD)])[g.length]? = some (.lst ((kWords kind).map strD)) := app_get0
    have hlen : 0 < (kWords kind).length ∧ (kWords kind).length ≤ 1000 := by
      simp only [kinds5, List.mem_cons, List.not_mem_nil, or_false] at hk
      rcases hk with rfl | rfl | rfl | rfl | rfl <;> simp [kWords]
    obtain ⟨d, p1, h1, h2, h3⟩ := p_pick h hl (by simpa using hlen.1) (by simpa using hlen.2) (fun d hd => by
      obtain ⟨w, _, rfl⟩ := List.mem_map.mp hd
      rfl)
    obtain ⟨w, hw, rfl⟩ := List.mem_map.mp h3
    have hb := bare_of hk hw
    have bare : bareW kind w = true → PoolOk g (IsCall kind) (.tup [.str (Str.ofString w), .int 0]) (p1.st ++ (g ++ [DO.lst ((kWords kind).map strD)])) := fun e => by
      refine ⟨p1, ?_, h2, (w, 0), rfl, hw, by simp, by simp, fun _ => rfl⟩
      rw [← List.append_assoc]
      exact pre2
    obtain ⟨v, p2, h4, h5, h6, h7⟩ := p_draw h2 (g ++ [DO.lst ((kWords kind).map strD)]) (many := 5) (by decide) (by decide)
    obtain ⟨a, ha, ha2⟩ := five_of (n := v.toNat) (by omega)
    have full : bareW kind w = false → PoolOk g (IsCall kind) (.tup [.str (Str.ofString w), .int a]) (p2.st ++ (g ++ [DO.lst ((kWords kind).map strD)])) := fun e => by
      refine ⟨p2, ?_, h7, (w, a), rfl, hw, ha2.1, ha2.2, fun q => by rw [e] at q; cases q⟩
      rw [← List.append_assoc]
      exact pre2
    simp only [strD] at h1
    by_cases e1 : w = "get"
    · simp -dsimp [F__law_some_call, m__law_some_call, p_words, hk, h1, e1]
      subst e1
      exact bare (by rw [hb]; simp)
    · by_cases e2 : w = "take"
      · by_cases e3 : kind = "set"
        · subst e2 e3
          simp -dsimp [F__law_some_call, m__law_some_call, p_words _ hk, h1, h4, at_nat, h5, ha]
          exact full (by rw [hb]; simp)
        · subst e2
          simp -dsimp [F__law_some_call, m__law_some_call, p_words _ hk, h1, e3]
          exact bare (by rw [hb]; simp [e3])
      · simp -dsimp [F__law_some_call, m__law_some_call, p_words, hk, h1, e1, e2, h4, at_nat, h5, ha]
        exact full (by rw [hb]; simp [e1, e2])
  obtain ⟨_, p', h1, h2, c, rfl, h3⟩ := this
  exact ⟨c, p', h1, h2, h3⟩
theorem some_call_V {p : PS} (h : OkP p) {g : Sto} {kind : String} (hk : kind ∈ kinds5) {Q : DV → Sto → Prop} (q : ∀ c p', OkP p' → OkW kind c → Q (dC c) (p'.st ++ g)) : V (G__law_some_call [.ref 2, .str (Str.ofString kind)] (p.st ++ g)) Q := by
  obtain ⟨c, p', h1, h2, h3⟩ := p_some_call h g hk
  exact V_of h1 (q c p' h2 h3)

def N__law_calls : List Str := ["pool", "most", "things", "natures", "states", "found", "busy", "used", "clock", "k", "free", "hand", "thing", "word", "argument", "answer", "end", "kind"]
noncomputable def m__law_calls : MS :=
 (sSeq (sSet 3 (mNew (mLc (itF (mRg1 (mVar 2))) [9] (.nm 9) (ME.pure true) (mCall G__law_pick [(mVar 0), (mNew (mArgs [(mC (.str (Str.ofString "cell"))), (mC (.str (Str.ofString "cell"))), (mC (.str (Str.ofString "counter"))), (mC (.str (Str.ofString "line"))), (mC (.str (Str.ofString "pile"))), (mC (.str (Str.ofString "set")))]))]))))
 (sSeq (sSet 4 (mNew (mLc (itV (mVar 3)) [17] (.nm 17) (ME.pure true) (mCall G__law_first_state [(mVar 17)]))))
 (sSeq (sAsg (tgT [(tgN 5), (tgN 6), (tgN 7)]) (mTup [(mNew (mArgs [])), mDNew, (mNew (mArgs []))]))
 (sSeq (sSet 8 (mC (.int 0)))
 (sSeq (sFor (itF (mRg1 (mBin gAdd (mC (.int 1)) (mCall G__law_draw [(mVar 0), (mVar 1)])))) (tgN 9)
 (sSeq (sSet 8 (mBin gAdd (mBin gAdd (mVar 8) (mC (.int 1))) (mCall G__law_draw [(mVar 0), (mC (.int 3))])))
 (sSeq (sWhile (mTst (mBin gIn (mVar 8) (mVar 7)))
 (sSet 8 (mBin gAdd (mVar 8) (mC (.int 1)))) 100000)
 (sSeq (sSet 10 (mNew (mLc (itV (mTup [(mC (.int 1)), (mC (.int 2)), (mC (.int 3))])) [11] (.nm 11) (mOrT (mTst (mBin gNotIn (mVar 11) (mVar 6))) (mAndT (mTst (mBin gIsNot (mBin gDGet (mVar 6) (mVar 11)) (mC .non))) (mTst (mBin gLt (mBin gDGet (mVar 6) (mVar 11)) (mVar 8))))) (mVar 11))))
 (sIf (mTst (mBin gNe (mVar 10) (mNew (mArgs []))))
 (sSeq (sPar 11 12 (mCall G__law_pick [(mVar 0), (mVar 10)]) (mCall G__law_draw [(mVar 0), (mVar 2)]))
 (sSeq (sAsg (tgT [(tgN 13), (tgN 14)]) (mCall G__law_some_call [(mVar 0), (mBin gIx (mVar 3) (mVar 12))]))
 (sSeq (sSet 14 (mMin2 (mVar 14) (mC (.int 2))))
 (sSeq (sAsg (tgT [(tgI (mVar 4) (mVar 12)), (tgN 15)]) (mCall G__law_call [(mBin gIx (mVar 3) (mVar 12)), (mBin gIx (mVar 4) (mVar 12)), (mVar 13), (mVar 14)]))
 (sSeq (sSet 15 (mIf (mTst (mBin gEq (mCall G__law_draw [(mVar 0), (mC (.int 6))]) (mC (.int 0)))) (mCall G__law_pick [(mVar 0), (mNew (mArgs [(mC (.int 0)), (mC (.int 1)), (mC (.int 2)), (mNeg (mC (.int 1)))]))]) (mVar 15)))
 (sSeq (sSet 16 (mBin gAdd (mBin gAdd (mVar 8) (mC (.int 1))) (mCall G__law_draw [(mVar 0), (mC (.int 9))])))
 (sSeq (sWhile (mTst (mBin gIn (mVar 16) (mVar 7)))
 (sSet 16 (mBin gAdd (mVar 16) (mC (.int 1)))) 100000)
 (sSeq (sIf (mTst (mBin gEq (mCall G__law_draw [(mVar 0), (mC (.int 7))]) (mC (.int 0))))
 (sAsg (tgT [(tgN 15), (tgN 16)]) (mTup [(mC .non), (mC .non)]))
 sSkip)
 (sSeq (sSet 7 (mBin gAdd (mBin gAdd (mVar 7) (mNew (mArgs [(mVar 8)]))) (mIf (mTst (mBin gIsNot (mVar 16) (mC .non))) (mNew (mArgs [(mVar 16)])) (mNew (mArgs [])))))
 (sSeq (sAsg (tgI (mVar 6) (mVar 11)) (mVar 16))
 (sExpr (mApp (mVar 5) (mTup [(mVar 11), (mVar 12), (mBin gIx (mVar 3) (mVar 12)), (mVar 13), (mVar 14), (mVar 15), (mVar 8), (mVar 16)])))))))))))))
 sSkip)))))
 (sRet (mTupOf (mSeq (mVar 5)))))))))
noncomputable def F__law_calls : FM := bodyM 18 m__law_calls

noncomputable def G__law_calls : FM := trim F__law_calls
theorem n__law_calls : NrmF F__law_calls G__law_calls := nrm_trim _
def IsHist (things : Int) (d : DV) : Prop := ∃ nat cs, d = .tup (cs.map CR.d) ∧ Hist things nat cs
/-- what is known of the hands -/
def BusyOk (B : List (Int × Option Int)) (cs : List CR) : Prop := ∀ c ∈ cs, ∃ o, lookG B c.hand = some o ∧ ∀ e, o = some e → ∃ f, c.fin = some f ∧ f ≤ e
structure Drawn (things : Int) (nat : Int → String) (n i : Nat) (g : Sto) (b ju : Nat) (ks : List String) (p : PS) (G : Sto) (cs : List CR) (sts : List SV) (B : List (Int × Option Int)) (clock : Int) : Prop where
  pre : Pre g G
  low : g.length ≤ b
  ok : OkP p
  c0 : G[b]? = some (.lst (ks.map strD))
  c1 : G[b + 1]? = some (.lst (sts.map SV.d))
  c2 : G[b + 2]? = some (.lst (cs.map CR.d))
  c3 : G[b + 3]? = some (.dct (encG oI B))
  jub : b + 4 ≤ ju
  c4 : G[ju]? = some (.lst ((timesOf cs).map DV.int))
  hist : Hist things nat cs
  len : cs.length ≤ n
  blen : B.length ≤ n
  slen : (sts.length : Int) = things
  klen : (ks.length : Int) = things
  nat_ : ∀ t : Nat, t < ks.length → ks[t]? = some (nat t)
  sts_ : ∀ (t : Nat) (s : SV), sts[t]? = some s → Okk (nat t) i s
  busy : BusyOk B cs
  clk : 0 ≤ clock ∧ clock ≤ bd i
  begs : ∀ c ∈ cs, c.beg ≤ clock
theorem Drawn.ext {things : Int} {nat : Int → String} {n i : Nat} {g : Sto} {b ju : Nat} {ks : List String} {p p' : PS} {G G' : Sto} {cs : List CR} {sts : List SV} {B : List (Int × Option Int)} {clock : Int} (D : Drawn things nat n i g b ju ks p G cs sts B clock) (h : Pre G G') (ok : OkP p') : Drawn things nat n i g b ju ks p' G' cs sts B clock :=
  ⟨D.pre.trans h, D.low, ok, h.get D.c0, h.get D.c1, h.get D.c2, h.get D.c3, D.jub, h.get D.c4, D.hist, D.len, D.blen, D.slen, D.klen, D.nat_, D.sts_, D.busy, D.clk, D.begs⟩
/-- a state is changed -/
theorem Drawn.put {things : Int} {nat : Int → String} {n i : Nat} {g : Sto} {b ju : Nat} {ks : List String} {p : PS} {G : Sto} {cs : List CR} {sts : List SV} {B : List (Int × Option Int)} {clock : Int} (D : Drawn things nat n i g b ju ks p G cs sts B clock) {t : Nat} {s1 : SV} (hs : Okk (nat t) i s1) : Drawn things nat n i g b ju ks p (G.set (b + 1) (.lst ((sts.set t s1).map SV.d))) cs (sts.set t s1) B clock := by
  have hlt : b + 1 < G.length := (List.getElem?_eq_some_iff.mp D.c1).1
  have hju := D.jub
  have o : ∀ (j : Nat) (x : DO), j ≠ b + 1 → G[j]? = some x → (G.set (b + 1) (.lst ((sts.set t s1).map SV.d)))[j]? = some x := fun j x hj h => by
    rw [List.getElem?_set_ne (fun e => hj e.symm)]; exact h
  refine ⟨D.pre.set (by have := D.low; omega) _, D.low, D.ok, o _ _ (by omega) D.c0, List.getElem?_set_self hlt, o _ _ (by omega) D.c2, o _ _ (by omega) D.c3, D.jub, o _ _ (by omega) D.c4, D.hist, D.len, D.blen, by rw [List.length_set]; exact D.slen, D.klen, D.nat_, fun t' s h => ?_, D.busy, D.clk, D.begs⟩
  by_cases e : t' = t
  · subst e
    have hl : t' < sts.length := by
      have := (List.getElem?_eq_some_iff.mp h).1
      rwa [List.length_set] at this
    rw [List.getElem?_set_self hl] at h
    cases h
    exact hs
  · rw [List.getElem?_set_ne (fun q => e q.symm)] at h
    exact D.sts_ t' s h
theorem Drawn.add {things : Int} {nat : Int → String} {n i : Nat} {g : Sto} {b ju : Nat} {ks : List String} {p : PS} {G : Sto} {cs : List CR} {sts : List SV} {B : List (Int × Option Int)} {clock : Int} (D : Drawn things nat n i g b ju ks p G cs sts B clock) {c : CR} {ju' : Nat} (hju : b + 4 ≤ ju') (hu : G[ju']? = some (.lst ((timesOf cs ++ (c.beg :: finL c)).map DV.int))) (hH : Hist things nat (cs ++ [c])) (hbeg : c.beg ≤ clock) :
    Drawn things nat (n + 1) i g b ju' ks p ((G.set (b + 3) (.dct (encG oI (putG B c.hand c.fin)))).set (b + 2) (.lst ((cs ++ [c]).map CR.d))) (cs ++ [c]) sts (putG B c.hand c.fin) clock := by
  have h2 : b + 2 < G.length := (List.getElem?_eq_some_iff.mp D.c2).1
  have h3 : b + 3 < G.length := (List.getElem?_eq_some_iff.mp D.c3).1
  have o : ∀ (j : Nat) (x : DO), j ≠ b + 2 → j ≠ b + 3 → G[j]? = some x → ((G.set (b + 3) (.dct (encG oI (putG B c.hand c.fin)))).set (b + 2) (.lst ((cs ++ [c]).map CR.d)))[j]? = some x := fun j x hj hj3 h => by
    rw [List.getElem?_set_ne (fun e => hj e.symm), List.getElem?_set_ne (fun e => hj3 e.symm)]; exact h
  have hlow := D.low
  refine ⟨(D.pre.set (by omega) _).set (by omega) _, D.low, D.ok, o _ _ (by omega) (by omega) D.c0, o _ _ (by omega) (by omega) D.c1, List.getElem?_set_self (by simpa using h2), ?_, hju, ?_, hH, by simp; exact D.len, Nat.le_trans (putG_len _ _ _) (Nat.succ_le_succ D.blen), D.slen, D.klen, D.nat_, D.sts_, ?_, D.clk, ?_⟩
  · rw [List.getElem?_set_ne (by omega)]
    exact List.getElem?_set_self h3
  · rw [times_snoc]
    exact o _ _ (by omega) (by omega) hu
  · intro a ha
    rcases List.mem_append.mp ha with ha | ha
    · by_cases e : a.hand = c.hand
      · obtain ⟨i, hi⟩ := List.getElem?_of_mem ha
        have hlt := (List.getElem?_eq_some_iff.mp hi).1
        refine ⟨c.fin, by rw [look_put, if_pos e], fun x hx => ?_⟩
        obtain ⟨f, hf1, hf2⟩ := hH.hand i cs.length a c hlt (by rw [List.getElem?_append_left hlt]; exact hi) (by rw [List.getElem?_append_right (Nat.le_refl _), Nat.sub_self]; rfl) e
        have := (hH.one c (by simp)).2.2.2.2.2.2.2.2.2.2 x hx
        exact ⟨f, hf1, by omega⟩
      · obtain ⟨oo, h1, h2⟩ := D.busy a ha
        exact ⟨oo, by rw [look_put, if_neg e]; exact h1, h2⟩
    · rw [List.mem_singleton.mp ha]
      exact ⟨c.fin, by rw [look_put, if_pos rfl], fun x hx => ⟨x, hx, Int.le_refl _⟩⟩
  · intro a ha
    rcases List.mem_append.mp ha with ha | ha
    · exact D.begs a ha
    · rw [List.mem_singleton.mp ha]; exact hbeg
theorem times_len (cs : List CR) : (timesOf cs).length ≤ 2 * cs.length := by
  induction cs with
  | nil => simp [timesOf]
  | cons c r ih =>
    unfold timesOf at ih ⊢
    rw [List.flatMap_cons, List.length_append, List.length_cons]
    have : (finL c).length ≤ 1 := by unfold finL; split <;> simp
    simp only [List.length_cons]
    omega

def CallsP (g : Sto) (b : Nat) (most things : Int) (nat : Int → String) (ks : List String) (i : Nat) (e : DL.Env) (s : Sto) : Prop := ∃ ju p G cs sts B clock, s = p.st ++ G ∧ Drawn things nat i i g b ju ks p G cs sts B clock ∧ ∃ x9 x10 x11 x12 x13 x14 x15 x16, e = [some (.ref 2), some (.int most), some (.int things), some (.ref (b + 3)), some (.ref (b + 4)), some (.ref (b + 5)), some (.ref (b + 6)), some (.ref (ju + 3)), some (.int clock), x9, x10, x11, x12, x13, x14, x15, x16, none]
theorem p_calls0 {p : PS} (ok : OkP p) (g : Sto) {most things : Int} (hm : 1 ≤ most ∧ most ≤ 5) (ht : 1 ≤ things ∧ things ≤ 2) : V (F__law_calls [.ref 2, .int most, .int things] (p.st ++ g)) (PoolOk g (IsHist things)) := by
  have hr1 : okR 0 things = true := by simp [okR]; omega
  simp -dsimp [F__law_calls, m__law_calls, hr1]
  -- the kinds
  refine lc_V (fun i acc s => ∃ (p : PS) (g' : Sto) (ks : List String), s = p.st ++ g' ∧ Pre g g' ∧ OkP p ∧ acc = ks.map strD ∧ ks.length = i ∧ ∀ k ∈ ks, k ∈ kinds5) ⟨p, g, [], rfl, pre1, ok, rfl, rfl, by simp⟩ (fun _ _ _ _ => trivial) (fun i d acc s hd hp => ?_) (fun acc s hp => ?_)
  case refine_1 =>
    obtain ⟨p, g', ks, rfl, hpre, ok, rfl, rfl, hks⟩ := hp
    simp -dsimp
    refine pick_V ok (ds := (["cell", "cell", "counter", "line", "pile", "set"] : List String).map strD) app_get0 (by simp) (by simp) (fun d hd => by obtain ⟨k, _, rfl⟩ := List.mem_map.mp hd; rfl) (fun d p' ok' hd => ?_)
    obtain ⟨k, hk, rfl⟩ := List.mem_map.mp hd
    refine ⟨p', g' ++ [DO.lst ((["cell", "cell", "counter", "line", "pile", "set"] : List String).map strD)], ks ++ [k], rfl, hpre.app _, ok', by simp, by simp, fun x hx => ?_⟩
    rcases List.mem_append.mp hx with hx | hx
    · exact hks x hx
    · rw [List.mem_singleton.mp hx]
      simp only [List.mem_cons, List.not_mem_nil, or_false] at hk
      simp only [kinds5, List.mem_cons, List.not_mem_nil, or_false]
      rcases hk with h | h | h | h | h | h <;> simp [h]
  clear p ok
  obtain ⟨p, g', ks, rfl, hpre, ok, rfl, hkl, hks⟩ := hp
  rw [rgD_len] at hkl
  simp -dsimp [app_get0]
  refine lc_map ks strD (fun k => (initV k).d) rfl (by simp [app_get0]) (fun k hk => ?_) ?_
  · simp -dsimp [strD, p_first_state k (hks k hk)]
  simp -dsimp
  refine draw_V ok (by omega) (by omega) fun v p1 ok1 v0 v1 => ?_
  have hr2 : okR 0 (1 + v) = true := by simp [okR]; omega
  simp -dsimp [hr2]
  have hnat : ∀ t : Int, (ks[t.toNat]?).getD "cell" ∈ kinds5 := fun t => by
    cases q : ks[t.toNat]? with
    | none => simp [kinds5]
    | some k => exact hks k (List.mem_of_getElem? q)
  generalize hb : g'.length = b
  obtain ⟨G0, hG0⟩ : ∃ G0, G0 = g' ++ [DO.lst (ks.map strD), DO.lst (ks.map fun k => (initV k).d), DO.lst [], DO.dct [], DO.lst []] := ⟨_, rfl⟩
  rw [← hG0]
  have hD0 : Drawn things (fun t => (ks[t.toNat]?).getD "cell") 0 0 g b (b + 4) ks p1 G0 [] (ks.map initV) [] 0 := by
    subst hb
    constructor
    · rw [hG0]; exact hpre.app _
    · exact hpre.len
    · exact ok1
    · rw [hG0]; exact app_get0
    · rw [hG0, List.map_map]; exact app_get
    · rw [hG0]; exact app_get
    · rw [hG0]; exact app_get
    · exact Nat.le_refl _
    · rw [hG0]; exact app_get
    · exact hist_nil hnat
    · simp
    · simp
    · rw [List.length_map]; omega
    · omega
    · intro t h
      have : ks[t]? = some ks[t] := List.getElem?_eq_getElem h
      simp [this]
    · intro t s hs
      rw [List.getElem?_map] at hs
      obtain ⟨k, hk, rfl⟩ := Option.map_eq_some_iff.mp hs
      simp only [Int.toNat_natCast, hk]
      exact okk_init _ _
    · intro c hc; cases hc
    · exact ⟨by decide, by simp [bd]⟩
    · intro c hc; cases hc
  clear hG0 hpre ok hb
  generalize hnatd : (fun t : Int => (ks[t.toNat]?).getD "cell") = nat at hD0
  have hnat : ∀ t, nat t ∈ kinds5 := fun t => by rw [← hnatd]; exact hnat t
  clear hnatd hks

  refine for_W (CallsP g b most things nat ks) ⟨b + 4, p1, G0, [], ks.map initV, [], 0, rfl, hD0, none, none, none, none, none, none, none, none, rfl⟩ (fun _ _ _ _ => trivial) (fun i d e s hd hp => ?_) (fun e s hp => ?_)
  case refine_2 =>
    obtain ⟨ju, p, G, cs, sts, B, clock, rfl, D, x9, x10, x11, x12, x13, x14, x15, x16, rfl⟩ := hp
    simp -dsimp [D.c2]
    exact ⟨p, by obtain ⟨u, hu⟩ := D.pre; rw [hu, ← List.append_assoc]; exact pre2, D.ok, nat, cs, rfl, D.hist⟩
  have hi : i < 5 := by
    have := (List.getElem?_eq_some_iff.mp hd).1
    rw [rgD_len] at this
    omega
  clear hD0 hr2 ok1 v0 v1 v hd p1 G0
  obtain ⟨ju, p, G, cs, sts, B, clock, rfl, D, x9, x10, x11, x12, x13, x14, x15, x16, rfl⟩ := hp
  simp -dsimp
  refine draw_V D.ok (by decide) (by decide) fun v p1 ok1 v0 v1 => ?_
  simp -dsimp
  have hul : (timesOf cs).length ≤ 2 * i := Nat.le_trans (times_len cs) (by have := D.len; omega)
  have hg0 := geq_le (timesOf cs) (clock + 1 + v)

  refine while_W (fun n e s => s = p1.st ++ G ∧ ∃ c, e = [some (.ref 2), some (.int most), some (.int things), some (.ref (b + 3)), some (.ref (b + 4)), some (.ref (b + 5)), some (.ref (b + 6)), some (.ref (ju + 3)), some (.int c), some d, x10, x11, x12, x13, x14, x15, x16, none] ∧ clock + 1 + v ≤ c ∧ n = geq (timesOf cs) c ∧ c + (n : Int) ≤ clock + 1 + v + (2 * i : Nat)) (fun n e s hp => ?_) _ (geq (timesOf cs) (clock + 1 + v)) _ _ ⟨rfl, _, rfl, by omega, rfl, by omega⟩ (by omega)
  obtain ⟨rfl, c, rfl, hc1, rfl, hc2⟩ := hp
  have hin : gIn (.int c) (.ref (ju + 3)) (p1.st ++ G) = some (.bl (decide (c ∈ timesOf cs)), p1.st ++ G) := in_ints (by rw [ps_get]; exact D.c4)
  simp -dsimp [hin]
  by_cases hcu : c ∈ timesOf cs
  · have := geq_dec hcu
    simp -dsimp [hcu]
    exact ⟨_, this, by omega, rfl, by omega⟩
  have hck : c ≤ (bd (i + 1) : Nat) := by
    have := D.clk.2
    rw [bd_succ]
    omega
  have hcl : clock < c := by omega
  have hc0 : 0 ≤ c := by have := D.clk.1; omega
  clear hc2 hin hg0 v0 v1
  simp -dsimp [hcu]
  -- the free hands
  have hlk : ∀ h : Int, valD (encG oI B) (.inl h) = (lookG B h).map oI := fun h => val_encG oI B h
  refine lc_pure ([1, 2, 3] : List Int) DV.int (fun h => match lookG B h with | none => true | some none => false | some (some e) => decide (e < c)) DV.int rfl trivial (fun h hh => ?_) ?_
  · have hnb : gNotIn (.int h) (.ref (b + 6)) (p1.st ++ G) = some (.bl (!((lookG B h).map oI).isSome), p1.st ++ G) := by
      rw [notin_dct (by rw [ps_get]; exact D.c3) keyD_int, hlk]
    cases q : lookG B h with
    | none => simp -dsimp [hnb, q]
    | some o =>
      cases o with
      | none => simp -dsimp [hnb, q, D.c3, hlk]
      | some e => simp -dsimp [hnb, q, D.c3, hlk]
  obtain ⟨free, hfr⟩ : ∃ free, free = ([1, 2, 3] : List Int).filter fun h => match lookG B h with | none => true | some none => false | some (some e) => decide (e < c) := ⟨_, rfl⟩
  rw [← hfr]
  have hfree : ∀ h ∈ free, 1 ≤ h ∧ h ≤ 3 ∧ (lookG B h = none ∨ ∃ e, lookG B h = some (some e) ∧ e < c) := fun h hh => by
    rw [hfr] at hh
    obtain ⟨h1, h2⟩ := List.mem_filter.mp hh
    have h3 : 1 ≤ h ∧ h ≤ 3 := by
      simp only [List.mem_cons, List.not_mem_nil, or_false] at h1
      rcases h1 with rfl | rfl | rfl <;> decide
    refine ⟨h3.1, h3.2, ?_⟩
    cases q : lookG B h with
    | none => exact .inl rfl
    | some o =>
      cases o with
      | none => rw [q] at h2; cases h2
      | some e => rw [q] at h2; exact .inr ⟨e, rfl, by simpa using h2⟩
  have hfl : free.length ≤ 1000 := by
    rw [hfr]
    exact Nat.le_trans (List.length_filter_le _ _) (by decide)
  clear hfr
  simp -dsimp
  refine V_of (ne_nil (ns := free) (by simp [app_get0]) (by simp [app_get])) ?_
  have D' : ∀ x, Drawn things nat i (i + 1) g b ju ks p1 (G ++ x) cs sts B c := fun x =>
    (Drawn.ext ⟨D.pre, D.low, D.ok, D.c0, D.c1, D.c2, D.c3, D.jub, D.c4, D.hist, D.len, D.blen, D.slen, D.klen, D.nat_, fun t s h => (D.sts_ t s h).mono (Nat.le_succ _), D.busy, ⟨hc0, hck⟩, fun a ha => by have := D.begs a ha; omega⟩ pre2 ok1)
  by_cases hfn : free = []
  · simp -dsimp [hfn]
    have E := D' [DO.lst (free.map DV.int), DO.lst []]
    subst hfn
    exact ⟨ju, p1, _, cs, sts, B, c, rfl, ⟨E.pre, E.low, E.ok, E.c0, E.c1, E.c2, E.c3, E.jub, E.c4, E.hist, Nat.le_succ_of_le E.len, Nat.le_succ_of_le E.blen, E.slen, E.klen, E.nat_, E.sts_, E.busy, E.clk, E.begs⟩, _, _, _, _, _, _, _, _, rfl⟩
  have hfp : 0 < free.length := by
    cases free with
    | nil => exact absurd rfl hfn
    | cons _ _ => simp
  simp -dsimp [hfn]
  refine pick_V ok1 (ds := free.map DV.int) app_get0 (by simpa using hfp) (by simpa using hfl) (fun d hd => by obtain ⟨k, _, rfl⟩ := List.mem_map.mp hd; rfl) (fun d2 p2 ok2 hd2 => ?_)
  obtain ⟨hand, hh, rfl⟩ := List.mem_map.mp hd2
  have hhand := hfree hand hh
  clear hd2 hfree hfl hfn hfp hh
  simp -dsimp
  refine draw_V ok2 (by omega) (by omega) fun thing p3 ok3 t0 t1 => ?_
  have htk : ks[thing.toNat]? = some (nat thing) := by
    have := D.nat_ thing.toNat (by have := D.klen; omega)
    rwa [Int.toNat_of_nonneg t0] at this
  have htl : thing.toNat < sts.length := by have := D.slen; omega
  have hts : sts[thing.toNat]? = some sts[thing.toNat] := List.getElem?_eq_getElem htl
  generalize sts[thing.toNat] = s0 at hts
  have hs0 : Okk (nat thing) i s0 := by
    have := D.sts_ _ _ hts
    rwa [Int.toNat_of_nonneg t0] at this
  simp -dsimp [app_old D.c0, at_nat, t0, htk, strD]
  refine some_call_V ok3 (hnat thing) fun w p4 ok4 hw => ?_
  have D1 := (D' [DO.lst (free.map DV.int), DO.lst []]).ext pre1 ok4
  clear D'
  generalize hG1 : G ++ [DO.lst (free.map DV.int), DO.lst []] = G1 at D1 ⊢
  clear hG1
  have hw := cap_ok hw
  simp -dsimp [dC]
  rw [show (if 2 < w.2 then (2 : Int) else w.2) = (cap w).2 from rfl, show w.1 = (cap w).1 from rfl]
  generalize cap w = w at hw ⊢
  have hcall := call_ok (w := w.1) (a := w.2) (hnat thing) hs0 ⟨hw.2.1, hw.2.2.1⟩
  have hset : gSet (.ref (b + 4)) (.int thing) (callV (nat thing) s0 w.1 w.2).1.d (p4.st ++ G1) = some (p4.st ++ G1.set (b + 1) (.lst ((sts.map SV.d).set thing.toNat (callV (nat thing) s0 w.1 w.2).1.d))) := by
    rw [gset_lst (j := thing.toNat) (ds := sts.map SV.d) (by rw [ps_get]; exact D1.c1) (ixN_nat t0 (by rw [List.length_map]; omega)), ps_set]
  have D2 := D1.put (t := thing.toNat) (s1 := (callV (nat thing) s0 w.1 w.2).1) (by rw [Int.toNat_of_nonneg t0]; exact hcall.1)
  rw [List.map_set] at D2
  simp -dsimp [D1.c0, D1.c1, at_nat, t0, htk, hts, strD, p__law_call (hnat thing) (hs0.ok (by omega)), hset, -DL.v_if]
  clear hset D1
  generalize G1.set (b + 1) (.lst ((sts.map SV.d).set thing.toNat (callV (nat thing) s0 w.1 w.2).1.d)) = G2 at D2 ⊢
  generalize hsts : sts.set thing.toNat (callV (nat thing) s0 w.1 w.2).1 = sts2 at D2 ⊢
  clear hsts
  generalize some (DV.ref (G.length + 3)) = y10
  -- the answer
  refine V.mono (Q := fun d s => ∃ a p G3, d = .int a ∧ (-1 ≤ a ∧ a ≤ 99) ∧ s = p.st ++ G3 ∧ Drawn things nat i (i + 1) g b ju ks p G3 cs sts2 B c) ?_ (fun _ _ ⟨a, p5, G3, e1, ha, e2, D3⟩ => ?_)
  · simp -dsimp
    refine draw_V ok4 (by decide) (by decide) fun v p5 ok5 _ _ => ?_
    simp -dsimp
    refine cd_of (fun _ => ?_) (fun _ => ?_)
    · simp -dsimp
      refine pick_V ok5 (ds := ([0, 1, 2, -1] : List Int).map DV.int) app_get0 (by simp) (by simp) (fun d hd => by obtain ⟨k, _, rfl⟩ := List.mem_map.mp hd; rfl) (fun d3 p6 ok6 hd3 => ?_)
      obtain ⟨a, ha, rfl⟩ := List.mem_map.mp hd3
      refine ⟨a, p6, _, rfl, ?_, rfl, D2.ext pre2 ok6⟩
      simp only [List.mem_cons, List.not_mem_nil, or_false] at ha
      rcases ha with rfl | rfl | rfl | rfl <;> decide
    · simp -dsimp only [DL.v_var, List.getElem?_cons_succ, List.getElem?_cons_zero, P1_some]
      exact ⟨_, p5, _, rfl, hcall.2, rfl, D2.ext pre1 ok5⟩
  subst e1 e2
  clear D2 ok4 ok3 ok2
  simp -dsimp
  refine draw_V D3.ok (by decide) (by decide) fun v p6 ok6 v0 v1 => ?_
  have D4 := D3.ext pre1 ok6
  clear D3
  simp -dsimp
  have hg0 := geq_le (timesOf cs) (c + 1 + v)

  refine while_W (fun n e s => s = p6.st ++ G3 ∧ ∃ z, e = [some (.ref 2), some (.int most), some (.int things), some (.ref (b + 3)), some (.ref (b + 4)), some (.ref (b + 5)), some (.ref (b + 6)), some (.ref (ju + 3)), some (.int c), some d, y10, some (.int hand), some (.int thing), some (.str (Str.ofString w.1)), some (.int w.2), some (.int a), some (.int z), none] ∧ c + 1 + v ≤ z ∧ n = geq (timesOf cs) z ∧ z + (n : Int) ≤ c + 1 + v + (2 * i : Nat)) (fun n e s hp => ?_) _ (geq (timesOf cs) (c + 1 + v)) _ _ ⟨rfl, _, rfl, by omega, rfl, by omega⟩ (by omega)
  obtain ⟨rfl, z, rfl, hz1, rfl, hz2⟩ := hp
  have hin : gIn (.int z) (.ref (ju + 3)) (p6.st ++ G3) = some (.bl (decide (z ∈ timesOf cs)), p6.st ++ G3) := in_ints (by rw [ps_get]; exact D4.c4)
  simp -dsimp [hin]
  by_cases hzu : z ∈ timesOf cs
  · have := geq_dec hzu
    simp -dsimp [hzu]
    exact ⟨_, this, by omega, rfl, by omega⟩
  have hb5 := bd_le (i := i + 1) (by omega)
  have hzc : c < z ∧ z ≤ 60 := by omega
  clear hz2 hin hg0 v0 v1
  simp -dsimp [hzu, -DL.w_if]
  -- without an end
  refine W.mono (Q := fun f e s => f = .nx ∧ ∃ (ans fin : Option Int) (p : PS), (ans = none ↔ fin = none) ∧ (∀ x, ans = some x → -1 ≤ x ∧ x ≤ 99) ∧ (∀ x, fin = some x → x = z) ∧ s = p.st ++ G3 ∧ OkP p ∧ e = [some (.ref 2), some (.int most), some (.int things), some (.ref (b + 3)), some (.ref (b + 4)), some (.ref (b + 5)), some (.ref (b + 6)), some (.ref (ju + 3)), some (.int c), some d, y10, some (.int hand), some (.int thing), some (.str (Str.ofString w.1)), some (.int w.2), some (oI ans), some (oI fin), none]) ?_ (fun _ _ _ ⟨e0, ans, fin, p7, hq1, hq2, hq3, e1, ok7, e2⟩ => ?_)
  · simp -dsimp
    refine draw_V D4.ok (by decide) (by decide) fun v p7 ok7 _ _ => ?_
    simp -dsimp
    refine cd_of (fun _ => ?_) (fun _ => ?_)
    · simp -dsimp only [DL.w_asg, DL.v_tup, DL.v_args1, DL.v_args0, DL.v_c, ev_tgT, DL.v_tgs1, DL.v_tgs0, ev_tgN, V_some, List.set_cons_succ, List.set_cons_zero]
      exact ⟨trivial, none, none, p7, Iff.rfl, by simp, by simp, rfl, ok7, rfl⟩
    · simp -dsimp only [DL.w_skip]
      exact ⟨trivial, some a, some z, p7, by simp, fun x hx => by cases hx; exact ha, fun x hx => by cases hx; rfl, rfl, ok7, rfl⟩
  subst e0 e1 e2
  have D5 := D4.ext pre1 ok7
  clear D4 ok6 ok7
  have hH : Hist things nat (cs ++ [⟨hand, thing, nat thing, w.1, w.2, ans, c, fin⟩]) := by
    refine D.hist.snoc (by have := D.len; omega) ⟨hhand.1, hhand.2.1, t0, t1, rfl, hw, by have := D.clk.1; simp only; omega, by simp only; omega, hq1, hq2, fun f hf => by rw [hq3 f hf]; simp only; omega⟩ hcu (fun f hf => by rw [hq3 f hf]; exact hzu) (fun a ha => by have := D.begs a ha; simp only; omega) (fun a ha e => ?_)
    obtain ⟨o, h1, h2⟩ := D.busy a ha
    have e : a.hand = hand := e
    rw [e] at h1
    rcases hhand.2.2 with h3 | ⟨x, h3, h4⟩
    · rw [h3] at h1; cases h1
    · rw [h3] at h1
      cases h1
      obtain ⟨f, h5, h6⟩ := h2 x rfl
      exact ⟨f, h5, by simp only; omega⟩
  have hm1 : (timesOf cs).length + 1 ≤ LIM := by show _ ≤ 100000; omega
  have hm2 : (timesOf cs).length + 2 ≤ LIM := by show _ ≤ 100000; omega
  have hm3 : cs.length < LIM := by have := D.len; show _ < 100000; omega
  have hm4 : (encG oI B).length < LIM := by rw [encG_len]; have := D.blen; show _ < 100000; omega
  have hjub : b + 4 ≤ G3.length := by
    have := (List.getElem?_eq_some_iff.mp D5.c4).1
    have := D5.jub
    omega
  cases fin with
  | none =>
    obtain rfl : ans = none := hq1.mpr rfl
    simp -dsimp [D5.c4, app_old D5.c4, app_get0, app_get, hm1]
    have hset2 := fun (G : Sto) (h : G[b + 3]? = some (.dct (encG oI B))) => gset_dct (st := p7.st ++ G) (l := b + 6) (y := .int hand) (d := oI (none)) (by rw [ps_get]; exact h) keyD_int hm4
    simp -dsimp only [oI_none, oI_some] at hset2
    obtain ⟨G4, hG4⟩ : ∃ G4, G4 = G3 ++ [DO.lst [DV.int c], DO.lst ((timesOf cs).map DV.int ++ [DV.int c]), DO.lst [], DO.lst ((timesOf cs).map DV.int ++ [DV.int c])] := ⟨_, rfl⟩
    rw [← hG4]
    have D6 : Drawn things nat i (i + 1) g b ju ks p7 G4 cs sts2 B c := by rw [hG4]; exact D5.ext pre2 D5.ok
    have hu : G4[G3.length + 3]? = some (.lst ((timesOf cs).map DV.int ++ [DV.int c])) := by rw [hG4]; exact app_get
    have hput := put_encG oI B hand (none)
    have hlen := (List.getElem?_eq_some_iff.mp D6.c3).1
    have e2 : (G4.set (b + 3) (.dct (encG oI (putG B hand (none)))))[b + 2]? = some (.lst (cs.map CR.d)) := by rw [List.getElem?_set_ne (by omega)]; exact D6.c2
    have e0 : (G4.set (b + 3) (.dct (encG oI (putG B hand (none)))))[b]? = some (.lst (ks.map strD)) := by rw [List.getElem?_set_ne (by omega)]; exact D6.c0
    simp -dsimp only [oI_none, oI_some] at hput
    simp -dsimp only [hset2 G4 D6.c3, P1_some, hput, ps_set]
    simp -dsimp [e0, e2, at_nat, t0, htk, hm3, ps_set]
    have D7 := D6.add (c := ⟨hand, thing, nat thing, w.1, w.2, none, c, none⟩) (ju' := G3.length + 3) (by omega) (by rw [hu]; simp [finL]) hH (Int.le_refl _)
    refine ⟨G3.length + 3, p7, _, _, sts2, _, c, ?_, D7, _, _, _, _, _, _, _, _, rfl⟩
    simp [CR.d, strD]
  | some y =>
    obtain rfl : y = z := hq3 y rfl
    simp -dsimp [D5.c4, app_old D5.c4, app_get0, app_get, hm1, hm2]
    have hset2 := fun (G : Sto) (h : G[b + 3]? = some (.dct (encG oI B))) => gset_dct (st := p7.st ++ G) (l := b + 6) (y := .int hand) (d := oI (some y)) (by rw [ps_get]; exact h) keyD_int hm4
    simp -dsimp only [oI_none, oI_some] at hset2
    obtain ⟨G4, hG4⟩ : ∃ G4, G4 = G3 ++ [DO.lst [DV.int c], DO.lst ((timesOf cs).map DV.int ++ [DV.int c]), DO.lst [DV.int y], DO.lst ((timesOf cs).map DV.int ++ [DV.int c, DV.int y])] := ⟨_, rfl⟩
    rw [← hG4]
    have D6 : Drawn things nat i (i + 1) g b ju ks p7 G4 cs sts2 B c := by rw [hG4]; exact D5.ext pre2 D5.ok
    have hu : G4[G3.length + 3]? = some (.lst ((timesOf cs).map DV.int ++ [DV.int c, DV.int y])) := by rw [hG4]; exact app_get
    have hput := put_encG oI B hand (some y)
    have hlen := (List.getElem?_eq_some_iff.mp D6.c3).1
    have e2 : (G4.set (b + 3) (.dct (encG oI (putG B hand (some y)))))[b + 2]? = some (.lst (cs.map CR.d)) := by rw [List.getElem?_set_ne (by omega)]; exact D6.c2
    have e0 : (G4.set (b + 3) (.dct (encG oI (putG B hand (some y)))))[b]? = some (.lst (ks.map strD)) := by rw [List.getElem?_set_ne (by omega)]; exact D6.c0
    simp -dsimp only [oI_none, oI_some] at hput
    simp -dsimp only [hset2 G4 D6.c3, P1_some, hput, ps_set]
    simp -dsimp [e0, e2, at_nat, t0, htk, hm3, ps_set]
    have D7 := D6.add (c := ⟨hand, thing, nat thing, w.1, w.2, ans, c, some y⟩) (ju' := G3.length + 3) (by omega) (by rw [hu]; simp [finL]) hH (Int.le_refl _)
    refine ⟨G3.length + 3, p7, _, _, sts2, _, c, ?_, D7, _, _, _, _, _, _, _, _, rfl⟩
    simp [CR.d, strD]

theorem calls_V {p : PS} (ok : OkP p) {g : Sto} {most things : Int} (hm : 1 ≤ most ∧ most ≤ 5) (ht : 1 ≤ things ∧ things ≤ 2) {Q : DV → Sto → Prop} (q : ∀ nat cs p', OkP p' → Hist things nat cs → Q (.tup (cs.map CR.d)) (p'.st ++ g)) : V (G__law_calls [.ref 2, .int most, .int things] (p.st ++ g)) Q := by
  obtain ⟨d, p', h1, h2, nat, cs, rfl, h3⟩ := trim_pool (p_calls0 ok g hm ht) (fun d ⟨nat, cs, e, _⟩ => by rw [e]; exact ltDs_cr 3 cs)
  exact V_of h1 (q nat cs p' h2 h3)

def N_law : List Str := ["script", "pool", "calls", "times", "item", "later", "clock", "time", "hands", "things", "other", "k", "order", "by_time", "thing"]
noncomputable def m_law : MS :=
 (sSeq (sSet 1 (mCall G__law_pool [(mVar 0)]))
 (sSeq (sSet 2 (mCall G__law_calls [(mVar 1), (mC (.int 5)), (mC (.int 2))]))
 (sSeq (sSet 3 (mNew (mArgs [])))
 (sSeq (sFor (itV (mVar 2)) (tgN 4)
 (sSet 3 (mBin gAdd (mVar 3) (mNew (mLc (itV (mSl (mVar 4) (mSome (mC (.int 6))) (ME.pure none))) [7] (.nm 7) (mTst (mBin gIsNot (mVar 7) (mC .non))) (mVar 7))))))
 (sSeq (sSet 3 (mNew (mSrtSet (mSeq (mVar 3)))))
 (sSeq (sAsg (tgT [(tgN 5), (tgN 6)]) (mTup [mDNew, (mCall G__law_draw [(mVar 1), (mC (.int 5))])]))
 (sSeq (sFor (itV (mVar 3)) (tgN 7)
 (sSeq (sSet 6 (mBin gAdd (mBin gAdd (mVar 6) (mC (.int 1))) (mCall G__law_draw [(mVar 1), (mC (.int 40))])))
 (sAsg (tgI (mVar 5) (mVar 7)) (mVar 6))))
 (sSeq (sAsg (tgIN (mVar 5) (mC .non)) (mC .non))
 (sSeq (sSet 8 (mCall G__law_shuffled [(mVar 1), (mNew (mArgs [(mC (.int 1)), (mC (.int 2)), (mC (.int 3)), (mC (.int 4)), (mC (.int 5)), (mC (.int 6)), (mC (.int 7)), (mC (.int 8)), (mC (.int 9))]))]))
 (sSeq (sSet 9 (mCall G__law_shuffled [(mVar 1), (mNew (mArgs [(mC (.int 0)), (mC (.int 1)), (mC (.int 2)), (mC (.int 3)), (mC (.int 4)), (mC (.int 5)), (mC (.int 6)), (mC (.int 7)), (mC (.int 8)), (mC (.int 9))]))]))
 (sSeq (sSet 10 (mTupOf (mLc (itV (mVar 2)) [4] (.nm 4) (ME.pure true) (mBin gAdd (mBin gAdd (mTup [(mBin gIx (mVar 8) (mBin gIx (mVar 4) (mC (.int 0)))), (mBin gIx (mVar 9) (mBin gIx (mVar 4) (mC (.int 1))))]) (mSl (mVar 4) (mSome (mC (.int 2))) (mSome (mC (.int 6))))) (mTup [(mBin gNGet (mVar 5) (mBin gIx (mVar 4) (mC (.int 6)))), (mBin gNGet (mVar 5) (mBin gIx (mVar 4) (mC (.int 7))))])))))
 (sSeq (sIf (mTst (mBin gGt (mVar 6) (mC (.int 1000))))
 (sRet (mC (.bl true)))
 sSkip)
 (sSeq (sIf (mNotT (mTst (mCall G__law_same [(mNew (mArgs [(mCall G_fault [(mVar 2)]), (mCall G_fault [(mVar 10)])])), (mNew (mArgs [(mC .non), (mC .non)]))])))
 (sRet (mC (.bl false)))
 sSkip)
 (sSeq (sIf (mNotT (mTst (mCall G__law_same [(mNew (mArgs [(mCall G_explained [(mVar 10), (mC (.bl true))]), (mCall G_explained [(mVar 10), (mC (.bl false))]), (mCall G_is_linear [(mVar 10)]), (mCall G_is_in_turn [(mVar 10)])])), (mNew (mArgs [(mCall G_explained [(mVar 2), (mC (.bl true))]), (mCall G_explained [(mVar 2), (mC (.bl false))]), (mCall G_is_linear [(mVar 2)]), (mCall G_is_in_turn [(mVar 2)])]))])))
 (sRet (mC (.bl false)))
 sSkip)
 (sSeq (sFor (itF (mRg1 (mC (.int 4)))) (tgN 11)
 (sSeq (sSet 12 (mTupOf (mSeq (mSl (mCall G__law_shuffled [(mVar 1), (mNew (mRg1 (mLen (mSeq (mVar 2)))))]) (ME.pure none) (mSome (mBin gSub (mLen (mSeq (mVar 2))) (mCall G__law_draw [(mVar 1), (mC (.int 2))])))))))
 (sFor (itV (mTup [(mC (.bl true)), (mC (.bl false))])) (tgN 13)
 (sIf (mNotT (mTst (mCall G__law_same [(mCall G_order_fault [(mVar 10), (mVar 12), (mVar 13)]), (mCall G_order_fault [(mVar 2), (mVar 12), (mVar 13)])])))
 (sRet (mC (.bl false)))
 sSkip))))
 (sSeq (sFor (itF (mRg1 (mC (.int 2)))) (tgN 14)
 (sIf (mTst (mBin gNe (mLen (mSeq (mCall G_of_object [(mVar 10), (mBin gIx (mVar 9) (mVar 14))]))) (mLen (mSeq (mCall G_of_object [(mVar 2), (mVar 14)])))))
 (sRet (mC (.bl false)))
 sSkip))
 (sRet (mC (.bl true)))))))))))))))))))
noncomputable def F_law : FM := bodyM 15 m_law

noncomputable def G_law : FM := F_law
theorem n_law : NrmF (F_law) G_law := fun ds st d st' h => ⟨d, st', h, .same d st'⟩
def topS (i : Nat) : Stmt := PySem.Challenge.pw_everyhistory_k72_whole_calls_told_at_oth.main.body.getD i (.Pass ⟨0, 0, 0, 0⟩)
structure Txt (K : PySem.W.Frag) (w : World) (mg : Str → Option Value) where
  f_is_whole : Addr
  fd_is_whole : FuncData
  F_is_whole : Fun K "is_whole" "is_whole" (topS 3) f_is_whole fd_is_whole
  g_is_whole : mg "is_whole" = some (.ref f_is_whole)
  B_is_whole : Binds K fd_is_whole ["value"] []
  f_is_from : Addr
  fd_is_from : FuncData
  F_is_from : Fun K "is_from" "is_from" (topS 4) f_is_from fd_is_from
  g_is_from : mg "is_from" = some (.ref f_is_from)
  B_is_from : Binds K fd_is_from ["value", "low", "high"] []
  f_first_true : Addr
  fd_first_true : FuncData
  F_first_true : Fun K "first_true" "first_true" (topS 5) f_first_true fd_first_true
  g_first_true : mg "first_true" = some (.ref f_first_true)
  B_first_true : Binds K fd_first_true ["flags"] []
  f_is_call_of : Addr
  fd_is_call_of : FuncData
  F_is_call_of : Fun K "is_call_of" "is_call_of" (topS 9) f_is_call_of fd_is_call_of
  g_is_call_of : mg "is_call_of" = some (.ref f_is_call_of)
  B_is_call_of : Binds K fd_is_call_of ["kind", "word", "argument"] []
  f_begin : Addr
  fd_begin : FuncData
  F_begin : Fun K "begin" "begin" (topS 10) f_begin fd_begin
  g_begin : mg "begin" = some (.ref f_begin)
  B_begin : Binds K fd_begin ["kind"] []
  f_cell_call : Addr
  fd_cell_call : FuncData
  F_cell_call : Fun K "cell_call" "cell_call" (topS 11) f_cell_call fd_cell_call
  g_cell_call : mg "cell_call" = some (.ref f_cell_call)
  B_cell_call : Binds K fd_cell_call ["state", "word", "argument"] []
  f_counter_call : Addr
  fd_counter_call : FuncData
  F_counter_call : Fun K "counter_call" "counter_call" (topS 12) f_counter_call fd_counter_call
  g_counter_call : mg "counter_call" = some (.ref f_counter_call)
  B_counter_call : Binds K fd_counter_call ["state", "word", "argument"] []
  f_line_call : Addr
  fd_line_call : FuncData
  F_line_call : Fun K "line_call" "line_call" (topS 13) f_line_call fd_line_call
  g_line_call : mg "line_call" = some (.ref f_line_call)
  B_line_call : Binds K fd_line_call ["state", "word", "argument"] []
  f_pile_call : Addr
  fd_pile_call : FuncData
  F_pile_call : Fun K "pile_call" "pile_call" (topS 14) f_pile_call fd_pile_call
  g_pile_call : mg "pile_call" = some (.ref f_pile_call)
  B_pile_call : Binds K fd_pile_call ["state", "word", "argument"] []
  f_set_call : Addr
  fd_set_call : FuncData
  F_set_call : Fun K "set_call" "set_call" (topS 15) f_set_call fd_set_call
  g_set_call : mg "set_call" = some (.ref f_set_call)
  B_set_call : Binds K fd_set_call ["state", "word", "argument"] []
  f_call : Addr
  fd_call : FuncData
  F_call : Fun K "call" "call" (topS 17) f_call fd_call
  g_call : mg "call" = some (.ref f_call)
  B_call : Binds K fd_call ["kind", "state", "word", "argument"] []
  f_is_call : Addr
  fd_is_call : FuncData
  F_is_call : Fun K "is_call" "is_call" (topS 20) f_is_call fd_is_call
  g_is_call : mg "is_call" = some (.ref f_is_call)
  B_is_call : Binds K fd_is_call ["value"] []
  f_fault : Addr
  fd_fault : FuncData
  F_fault : Fun K "fault" "fault" (topS 21) f_fault fd_fault
  g_fault : mg "fault" = some (.ref f_fault)
  B_fault : Binds K fd_fault ["value"] []
  f_must_come_first : Addr
  fd_must_come_first : FuncData
  F_must_come_first : Fun K "must_come_first" "must_come_first" (topS 22) f_must_come_first fd_must_come_first
  g_must_come_first : mg "must_come_first" = some (.ref f_must_come_first)
  B_must_come_first : Binds K fd_must_come_first ["calls", "one", "two", "by_time"] []
  f_search : Addr
  fd_search : FuncData
  F_search : Fun K "search" "search" (topS 24) f_search fd_search
  g_search : mg "search" = some (.ref f_search)
  B_search : Binds K fd_search ["calls", "by_time", "done", "states"] []
  f_explained : Addr
  fd_explained : FuncData
  F_explained : Fun K "explained" "explained" (topS 23) f_explained fd_explained
  g_explained : mg "explained" = some (.ref f_explained)
  B_explained : Binds K fd_explained ["calls", "by_time"] []
  f_order_fault : Addr
  fd_order_fault : FuncData
  F_order_fault : Fun K "order_fault" "order_fault" (topS 25) f_order_fault fd_order_fault
  g_order_fault : mg "order_fault" = some (.ref f_order_fault)
  B_order_fault : Binds K fd_order_fault ["calls", "value", "by_time"] []
  f_of_object : Addr
  fd_of_object : FuncData
  F_of_object : Fun K "of_object" "of_object" (topS 26) f_of_object fd_of_object
  g_of_object : mg "of_object" = some (.ref f_of_object)
  B_of_object : Binds K fd_of_object ["calls", "thing"] []
  f_is_linear : Addr
  fd_is_linear : FuncData
  F_is_linear : Fun K "is_linear" "is_linear" (topS 27) f_is_linear fd_is_linear
  g_is_linear : mg "is_linear" = some (.ref f_is_linear)
  B_is_linear : Binds K fd_is_linear ["calls"] []
  f_is_in_turn : Addr
  fd_is_in_turn : FuncData
  F_is_in_turn : Fun K "is_in_turn" "is_in_turn" (topS 28) f_is_in_turn fd_is_in_turn
  g_is_in_turn : mg "is_in_turn" = some (.ref f_is_in_turn)
  B_is_in_turn : Binds K fd_is_in_turn ["calls"] []
  f__law_same : Addr
  fd__law_same : FuncData
  F__law_same : Fun K "_law_same" "_law_same" (topS 30) f__law_same fd__law_same
  g__law_same : mg "_law_same" = some (.ref f__law_same)
  B__law_same : Binds K fd__law_same ["actual", "due"] []
  f__law_pool : Addr
  fd__law_pool : FuncData
  F__law_pool : Fun K "_law_pool" "_law_pool" (topS 31) f__law_pool fd__law_pool
  g__law_pool : mg "_law_pool" = some (.ref f__law_pool)
  B__law_pool : Binds K fd__law_pool ["script"] []
  f__law_spread : Addr
  fd__law_spread : FuncData
  F__law_spread : Fun K "_law_spread" "_law_spread" (topS 32) f__law_spread fd__law_spread
  g__law_spread : mg "_law_spread" = some (.ref f__law_spread)
  B__law_spread : Binds K fd__law_spread ["cell"] []
  f__law_draw : Addr
  fd__law_draw : FuncData
  F__law_draw : Fun K "_law_draw" "_law_draw" (topS 33) f__law_draw fd__law_draw
  g__law_draw : mg "_law_draw" = some (.ref f__law_draw)
  B__law_draw : Binds K fd__law_draw ["pool", "many"] []
  f__law_pick : Addr
  fd__law_pick : FuncData
  F__law_pick : Fun K "_law_pick" "_law_pick" (topS 34) f__law_pick fd__law_pick
  g__law_pick : mg "_law_pick" = some (.ref f__law_pick)
  B__law_pick : Binds K fd__law_pick ["pool", "items"] []
  f__law_shuffled : Addr
  fd__law_shuffled : FuncData
  F__law_shuffled : Fun K "_law_shuffled" "_law_shuffled" (topS 35) f__law_shuffled fd__law_shuffled
  g__law_shuffled : mg "_law_shuffled" = some (.ref f__law_shuffled)
  B__law_shuffled : Binds K fd__law_shuffled ["pool", "items"] []
  f__law_call : Addr
  fd__law_call : FuncData
  F__law_call : Fun K "_law_call" "_law_call" (topS 36) f__law_call fd__law_call
  g__law_call : mg "_law_call" = some (.ref f__law_call)
  B__law_call : Binds K fd__law_call ["kind", "state", "word", "argument"] []
  f__law_first_state : Addr
  fd__law_first_state : FuncData
  F__law_first_state : Fun K "_law_first_state" "_law_first_state" (topS 37) f__law_first_state fd__law_first_state
  g__law_first_state : mg "_law_first_state" = some (.ref f__law_first_state)
  B__law_first_state : Binds K fd__law_first_state ["kind"] []
  f__law_words : Addr
  fd__law_words : FuncData
  F__law_words : Fun K "_law_words" "_law_words" (topS 38) f__law_words fd__law_words
  g__law_words : mg "_law_words" = some (.ref f__law_words)
  B__law_words : Binds K fd__law_words ["kind"] []
  f__law_some_call : Addr
  fd__law_some_call : FuncData
  F__law_some_call : Fun K "_law_some_call" "_law_some_call" (topS 39) f__law_some_call fd__law_some_call
  g__law_some_call : mg "_law_some_call" = some (.ref f__law_some_call)
  B__law_some_call : Binds K fd__law_some_call ["pool", "kind"] []
  f__law_calls : Addr
  fd__law_calls : FuncData
  F__law_calls : Fun K "_law_calls" "_law_calls" (topS 40) f__law_calls fd__law_calls
  g__law_calls : mg "_law_calls" = some (.ref f__law_calls)
  B__law_calls : Binds K fd__law_calls ["pool", "most", "things"] []
  f_law : Addr
  fd_law : FuncData
  F_law : Fun K "law" "law" (topS 41) f_law fd_law
  g_law : mg "law" = some (.ref f_law)
  B_law : Binds K fd_law ["script"] []
  b_all : mg "all" = none
  b_any : mg "any" = none
  b_bool : mg "bool" = none
  b_dict : mg "dict" = none
  b_int : mg "int" = none
  b_isinstance : mg "isinstance" = none
  b_len : mg "len" = none
  b_list : mg "list" = none
  b_min : mg "min" = none
  b_range : mg "range" = none
  b_set : mg "set" = none
  b_sorted : mg "sorted" = none
  b_str : mg "str" = none
  b_tuple : mg "tuple" = none
  a_FORM : Value
  v_FORM : V
  g_FORM : mg "FORM" = some a_FORM
  r_FORM : RelV v_FORM a_FORM
  d_FORM : ∀ H μ, RV K H μ c_FORM v_FORM
  a_HANDS : Value
  v_HANDS : V
  g_HANDS : mg "HANDS" = some a_HANDS
  r_HANDS : RelV v_HANDS a_HANDS
  d_HANDS : ∀ H μ, RV K H μ c_HANDS v_HANDS
  p_KINDS : Addr
  g_KINDS : mg "KINDS" = some (.ref p_KINDS)
  n_KINDS : (p_KINDS == sysModules) = false
  t_KINDS : KTab K w p_KINDS t_KINDS
  a_MOST : Value
  v_MOST : V
  g_MOST : mg "MOST" = some a_MOST
  r_MOST : RelV v_MOST a_MOST
  d_MOST : ∀ H μ, RV K H μ c_MOST v_MOST
  p_CALLS : Addr
  g_CALLS : mg "CALLS" = some (.ref p_CALLS)
  n_CALLS : (p_CALLS == sysModules) = false
  k_CALLS_cell : KDct K w p_CALLS (Str.ofString "cell") (.ref f_cell_call)
  k_CALLS_counter : KDct K w p_CALLS (Str.ofString "counter") (.ref f_counter_call)
  k_CALLS_line : KDct K w p_CALLS (Str.ofString "line") (.ref f_line_call)
  k_CALLS_pile : KDct K w p_CALLS (Str.ofString "pile") (.ref f_pile_call)
  k_CALLS_set : KDct K w p_CALLS (Str.ofString "set") (.ref f_set_call)
  a_TIMES : Value
  v_TIMES : V
  g_TIMES : mg "TIMES" = some a_TIMES
  r_TIMES : RelV v_TIMES a_TIMES
  d_TIMES : ∀ H μ, RV K H μ c_TIMES v_TIMES
section
variable {P : Program} {w : World} {K : PySem.W.Frag} {mg : Str → Option Value} {base : Heap}
abbrev s_is_whole : Stmt := topS 3
theorem sc_is_whole : FnScope N_is_whole ["value"] (defScope s_is_whole) := ⟨rfl, rfl, rfl, by decide +kernel, rfl, by decide +kernel, by decide +kernel⟩
theorem ok_is_whole (T : Txt K w mg) : FnOk P w K mg base CX0 1 T.f_is_whole T.fd_is_whole ["value"] (spM K 1 G_is_whole) := fn_nrm (fn_d (k := 0) T.F_is_whole sc_is_whole fun cdv A outer s H E hr =>
 (dss_one (ds_ret (de_and (de_isInt T.b_isinstance T.b_int (de_var 0)) (de_one (de_not (de_isBool T.b_isinstance T.b_bool (de_var 0)))))))) n_is_whole

abbrev s_is_from : Stmt := topS 4
theorem sc_is_from : FnScope N_is_from ["value", "low", "high"] (defScope s_is_from) := ⟨rfl, rfl, rfl, by decide +kernel, rfl, by decide +kernel, by decide +kernel⟩
theorem ok_is_from (T : Txt K w mg) : FnOk P w K mg base CX0 2 T.f_is_from T.fd_is_from ["value", "low", "high"] (spM K 3 G_is_from) := fn_nrm (fn_d (k := 1) T.F_is_from sc_is_from fun cdv A outer s H E hr =>
 (dss_one (ds_ret (de_and (de_call (ok_is_whole T) hr (by decide) T.g_is_whole T.F_is_whole.kp T.B_is_whole (da_cons (de_var 0) da_nil)) (de_one (de_chn od_le od_le (de_var 1) (de_var 0) (de_var 2))))))) n_is_from

abbrev s_first_true : Stmt := topS 5
theorem sc_first_true : FnScope N_first_true ["flags"] (defScope s_first_true) := ⟨rfl, rfl, rfl, by decide +kernel, rfl, by decide +kernel, by decide +kernel⟩
theorem ok_first_true (T : Txt K w mg) : FnOk P w K mg base CX0 1 T.f_first_true T.fd_first_true ["flags"] (spM K 1 G_first_true) := fn_nrm (fn_d (k := 0) T.F_first_true sc_first_true fun cdv A outer s H E hr =>
 (dss_cons (ds_for PassesOwn.never rfl (di_rg1 T.b_range (de_len T.b_len (dq_val (de_var 0)))) (dg_name (i := 1) sc_first_true.nd)
 (dss_one (ds_if (dt_val (de_ix (de_var 0) (de_var 1)))
 (dss_one (ds_ret (de_var 1)))
 dss_nil)))
 (dss_one (ds_ret de_non)))) n_first_true

abbrev s_is_call_of : Stmt := topS 9
theorem sc_is_call_of : FnScope N_is_call_of ["kind", "word", "argument"] (defScope s_is_call_of) := ⟨rfl, rfl, rfl, by decide +kernel, rfl, by decide +kernel, by decide +kernel⟩
theorem ok_is_call_of (T : Txt K w mg) : FnOk P w K mg base CX0 3 T.f_is_call_of T.fd_is_call_of ["kind", "word", "argument"] (spM K 3 G_is_call_of) := fn_nrm (fn_d (k := 2) T.F_is_call_of sc_is_call_of fun cdv A outer s H E hr =>
 (dss_cons (ds_if (dt_cmp (od_notin (hu_of hr)) (de_var 1) (de_kix rfl T.g_KINDS T.t_KINDS (de_var 0)))
 (dss_one (ds_ret de_bl))
 dss_nil)
 (dss_cons (ds_set (i := 3) sc_is_call_of.nd (de_or (de_cmp (od_eq hr.units) (de_var 1) de_str) (de_one (de_and (de_cmp (od_eq hr.units) (de_var 1) de_str) (de_one (de_cmp (od_in (hu_of hr)) (de_var 0) (de_tup (da_cons de_str (da_cons de_str da_nil)))))))))
 (dss_one (ds_ret (de_if (dt_val (de_var 3)) (de_and (de_cmp (od_eq hr.units) (de_var 2) de_int) (de_one (de_call (ok_is_whole T) hr (by decide) T.g_is_whole T.F_is_whole.kp T.B_is_whole (da_cons (de_var 2) da_nil)))) (de_call (ok_is_from T) hr (by decide) T.g_is_from T.F_is_from.kp T.B_is_from (da_cons (de_var 2) (da_cons de_int (da_cons (de_glob rfl T.g_MOST T.r_MOST T.d_MOST) da_nil)))))))))) n_is_call_of

abbrev s_begin : Stmt := topS 10
theorem sc_begin : FnScope N_begin ["kind"] (defScope s_begin) := ⟨rfl, rfl, rfl, by decide +kernel, rfl, by decide +kernel, by decide +kernel⟩
theorem ok_begin (T : Txt K w mg) : FnOk P w K mg base CX0 1 T.f_begin T.fd_begin ["kind"] (spM K 1 G_begin) := fn_nrm (fn_d (k := 0) T.F_begin sc_begin fun cdv A outer s H E hr =>
 (dss_one (ds_ret (de_if (dt_cmp (od_in (hu_of hr)) (de_var 0) (de_tup (da_cons de_str (da_cons de_str da_nil)))) de_int (de_tup da_nil))))) n_begin

abbrev s_cell_call : Stmt := topS 11
theorem sc_cell_call : FnScope N_cell_call ["state", "word", "argument"] (defScope s_cell_call) := ⟨rfl, rfl, rfl, by decide +kernel, rfl, by decide +kernel, by decide +kernel⟩
theorem ok_cell_call (T : Txt K w mg) : FnOk P w K mg base CX0 1 T.f_cell_call T.fd_cell_call ["state", "word", "argument"] (spM K 3 G_cell_call) := fn_nrm (fn_d (k := 0) T.F_cell_call sc_cell_call fun cdv A outer s H E hr =>
 (dss_one (ds_ret (de_if (dt_cmp (od_eq hr.units) (de_var 1) de_str) (de_tup (da_cons (de_var 0) (da_cons (de_var 0) da_nil))) (de_tup (da_cons (de_var 2) (da_cons de_int da_nil))))))) n_cell_call

abbrev s_counter_call : Stmt := topS 12
theorem sc_counter_call : FnScope N_counter_call ["state", "word", "argument"] (defScope s_counter_call) := ⟨rfl, rfl, rfl, by decide +kernel, rfl, by decide +kernel, by decide +kernel⟩
theorem ok_counter_call (T : Txt K w mg) : FnOk P w K mg base CX0 1 T.f_counter_call T.fd_counter_call ["state", "word", "argument"] (spM K 3 G_counter_call) := fn_nrm (fn_d (k := 0) T.F_counter_call sc_counter_call fun cdv A outer s H E hr =>
 (dss_one (ds_ret (de_if (dt_cmp (od_eq hr.units) (de_var 1) de_str) (de_tup (da_cons (de_var 0) (da_cons (de_var 0) da_nil))) (de_tup (da_cons (de_bin od_mod (de_bin od_add (de_var 0) (de_var 2)) (de_bin od_add (de_glob rfl T.g_MOST T.r_MOST T.d_MOST) de_int)) (da_cons de_int da_nil))))))) n_counter_call

abbrev s_line_call : Stmt := topS 13
theorem sc_line_call : FnScope N_line_call ["state", "word", "argument"] (defScope s_line_call) := ⟨rfl, rfl, rfl, by decide +kernel, rfl, by decide +kernel, by decide +kernel⟩
theorem ok_line_call (T : Txt K w mg) : FnOk P w K mg base CX0 1 T.f_line_call T.fd_line_call ["state", "word", "argument"] (spM K 3 G_line_call) := fn_nrm (fn_d (k := 0) T.F_line_call sc_line_call fun cdv A outer s H E hr =>
 (dss_cons (ds_if (dt_cmp (od_eq hr.units) (de_var 1) de_str)
 (dss_one (ds_ret (de_tup (da_cons (de_bin od_add (de_var 0) (de_tup (da_cons (de_var 2) da_nil))) (da_cons de_int da_nil)))))
 dss_nil)
 (dss_one (ds_ret (de_if (dt_cmp od_gt (de_len T.b_len (dq_val (de_var 0))) de_int) (de_tup (da_cons (de_sl (de_var 0) (do_some de_int) do_none) (da_cons (de_ix (de_var 0) de_int) da_nil))) (de_tup (da_cons (de_var 0) (da_cons (de_neg de_int) da_nil)))))))) n_line_call

abbrev s_pile_call : Stmt := topS 14
theorem sc_pile_call : FnScope N_pile_call ["state", "word", "argument"] (defScope s_pile_call) := ⟨rfl, rfl, rfl, by decide +kernel, rfl, by decide +kernel, by decide +kernel⟩
theorem ok_pile_call (T : Txt K w mg) : FnOk P w K mg base CX0 1 T.f_pile_call T.fd_pile_call ["state", "word", "argument"] (spM K 3 G_pile_call) := fn_nrm (fn_d (k := 0) T.F_pile_call sc_pile_call fun cdv A outer s H E hr =>
 (dss_cons (ds_if (dt_cmp (od_eq hr.units) (de_var 1) de_str)
 (dss_one (ds_ret (de_tup (da_cons (de_bin od_add (de_var 0) (de_tup (da_cons (de_var 2) da_nil))) (da_cons de_int da_nil)))))
 dss_nil)
 (dss_one (ds_ret (de_if (dt_cmp od_gt (de_len T.b_len (dq_val (de_var 0))) de_int) (de_tup (da_cons (de_sl (de_var 0) do_none (do_some (de_neg de_int))) (da_cons (de_ix (de_var 0) (de_neg de_int)) da_nil))) (de_tup (da_cons (de_var 0) (da_cons (de_neg de_int) da_nil)))))))) n_pile_call

abbrev s_set_call : Stmt := topS 15
theorem sc_set_call : FnScope N_set_call ["state", "word", "argument"] (defScope s_set_call) := ⟨rfl, rfl, rfl, by decide +kernel, rfl, by decide +kernel, by decide +kernel⟩
theorem ok_set_call (T : Txt K w mg) : FnOk P w K mg base CX0 1 T.f_set_call T.fd_set_call ["state", "word", "argument"] (spM K 3 G_set_call) := fn_nrm (fn_d (k := 0) T.F_set_call sc_set_call fun cdv A outer s H E hr =>
 (dss_cons (ds_set (i := 3) sc_set_call.nd (de_intOf T.b_int (de_cmp (od_in (hu_of hr)) (de_var 2) (de_var 0))))
 (dss_cons (ds_if (dt_w (dw_and (dt_cmp (od_eq hr.units) (de_var 1) de_str) (dw_and1 (dt_cmp (od_eq hr.units) (de_var 3) de_int))))
 (dss_one (ds_ret (de_tup (da_cons (de_tupOf T.b_tuple (df_q (df_srt T.b_sorted (dq_val (de_bin od_add (de_var 0) (de_tup (da_cons (de_var 2) da_nil))))))) (da_cons de_int da_nil)))))
 dss_nil)
 (dss_cons (ds_if (dt_cmp (od_eq hr.units) (de_var 1) de_str)
 (dss_one (ds_ret (de_tup (da_cons (de_tupOf T.b_tuple (df_q (df_lc (own := [("item", 4)]) (t := (.nm 4)) rfl sc_set_call.nd (di_val (de_var 0)) (blkOk_by (N := N_set_call) (sc := defScope s_set_call) (by decide +kernel)) (by decide) (fun _ _ _ _ _ => (pg_name (i := 4) sc_set_call.nd rfl (Or.inl rfl))) (fun _ _ _ _ _ => (dpt_one (dt_cmp (od_ne hr.units) (de_var 4) (de_var 2)))) (fun _ _ _ _ _ => (de_var 4))))) (da_cons (de_var 3) da_nil)))))
 dss_nil)
 (dss_one (ds_ret (de_tup (da_cons (de_var 0) (da_cons (de_var 3) da_nil))))))))) n_set_call

theorem kf_CALLS (T : Txt K w mg) : KFun P w K mg base T.p_CALLS 1 3 T_CALLS := (kfun_cons T.k_CALLS_cell (ok_cell_call T) (by decide) T.F_cell_call.kp T.B_cell_call (kfun_cons T.k_CALLS_counter (ok_counter_call T) (by decide) T.F_counter_call.kp T.B_counter_call (kfun_cons T.k_CALLS_line (ok_line_call T) (by decide) T.F_line_call.kp T.B_line_call (kfun_cons T.k_CALLS_pile (ok_pile_call T) (by decide) T.F_pile_call.kp T.B_pile_call (kfun_cons T.k_CALLS_set (ok_set_call T) (by decide) T.F_set_call.kp T.B_set_call kfun_nil)))))
abbrev s_call : Stmt := topS 17
theorem sc_call : FnScope N_call ["kind", "state", "word", "argument"] (defScope s_call) := ⟨rfl, rfl, rfl, by decide +kernel, rfl, by decide +kernel, by decide +kernel⟩
theorem ok_call (T : Txt K w mg) : FnOk P w K mg base CX0 2 T.f_call T.fd_call ["kind", "state", "word", "argument"] (spM K 4 G_call) := fn_nrm (fn_d (k := 1) T.F_call sc_call fun cdv A outer s H E hr =>
 (dss_one (ds_ret (de_kcall rfl T.g_CALLS (kf_CALLS T) hr (by decide) (de_var 0) (da_cons (de_var 1) (da_cons (de_var 2) (da_cons (de_var 3) da_nil))))))) n_call

abbrev s_is_call : Stmt := topS 20
theorem sc_is_call : FnScope N_is_call ["value"] (defScope s_is_call) := ⟨rfl, rfl, rfl, by decide +kernel, rfl, by decide +kernel, by decide +kernel⟩
theorem ok_is_call (T : Txt K w mg) : FnOk P w K mg base CX0 4 T.f_is_call T.fd_is_call ["value"] (spM K 1 G_is_call) := fn_nrm (fn_d (k := 3) T.F_is_call sc_is_call fun cdv A outer s H E hr =>
 (dss_cons (ds_if (dt_w (dw_or (dt_not (dt_val (de_isTuple T.b_isinstance T.b_tuple (de_var 0)))) (dw_or (dt_cmp (od_ne hr.units) (de_len T.b_len (dq_val (de_var 0))) de_int) (dw_or1 (dt_not (dt_val (de_call (ok_is_from T) hr (by decide) T.g_is_from T.F_is_from.kp T.B_is_from (da_cons (de_ix (de_var 0) de_int) (da_cons de_int (da_cons (de_glob rfl T.g_HANDS T.r_HANDS T.d_HANDS) da_nil))))))))))
 (dss_one (ds_ret de_bl))
 dss_nil)
 (dss_cons (ds_if (dt_w (dw_or (dt_not (dt_val (de_call (ok_is_from T) hr (by decide) T.g_is_from T.F_is_from.kp T.B_is_from (da_cons (de_ix (de_var 0) de_int) (da_cons de_int (da_cons (de_glob rfl T.g_HANDS T.r_HANDS T.d_HANDS) da_nil)))))) (dw_or (dt_not (dt_val (de_isStr T.b_isinstance T.b_str (de_ix (de_var 0) de_int)))) (dw_or1 (dt_knotin rfl T.g_KINDS T.n_KINDS T.t_KINDS (de_ix (de_var 0) de_int))))))
 (dss_one (ds_ret de_bl))
 dss_nil)
 (dss_cons (ds_if (dt_w (dw_or (dt_not (dt_val (de_isStr T.b_isinstance T.b_str (de_ix (de_var 0) de_int)))) (dw_or1 (dt_not (dt_val (de_call (ok_is_call_of T) hr (by decide) T.g_is_call_of T.F_is_call_of.kp T.B_is_call_of (da_cons (de_ix (de_var 0) de_int) (da_cons (de_ix (de_var 0) de_int) (da_cons (de_ix (de_var 0) de_int) da_nil)))))))))
 (dss_one (ds_ret de_bl))
 dss_nil)
 (dss_cons (ds_if (dt_w (dw_or (dt_not (dt_val (de_call (ok_is_from T) hr (by decide) T.g_is_from T.F_is_from.kp T.B_is_from (da_cons (de_ix (de_var 0) de_int) (da_cons de_int (da_cons (de_glob rfl T.g_TIMES T.r_TIMES T.d_TIMES) da_nil)))))) (dw_or1 (dt_cmp (od_ne hr.units) (de_cmp od_is (de_ix (de_var 0) de_int) de_non) (de_cmp od_is (de_ix (de_var 0) de_int) de_non)))))
 (dss_one (ds_ret de_bl))
 dss_nil)
 (dss_cons (ds_if (dt_cmp od_is (de_ix (de_var 0) de_int) de_non)
 (dss_one (ds_ret de_bl))
 dss_nil)
 (dss_one (ds_ret (de_and (de_call (ok_is_whole T) hr (by decide) T.g_is_whole T.F_is_whole.kp T.B_is_whole (da_cons (de_ix (de_var 0) de_int) da_nil)) (de_and (de_chn od_le od_le (de_neg de_int) (de_ix (de_var 0) de_int) (de_glob rfl T.g_MOST T.r_MOST T.d_MOST)) (de_one (de_call (ok_is_from T) hr (by decide) T.g_is_from T.F_is_from.kp T.B_is_from (da_cons (de_ix (de_var 0) de_int) (da_cons (de_bin od_add (de_ix (de_var 0) de_int) de_int) (da_cons (de_glob rfl T.g_TIMES T.r_TIMES T.d_TIMES) da_nil))))))))))))))) n_is_call

abbrev s_fault : Stmt := topS 21
theorem sc_fault : FnScope N_fault ["value"] (defScope s_fault) := ⟨rfl, rfl, rfl, by decide +kernel, rfl, by decide +kernel, by decide +kernel⟩
theorem ok_fault (T : Txt K w mg) : FnOk P w K mg base CX0 5 T.f_fault T.fd_fault ["value"] (spM K 1 G_fault) := fn_nrm (fn_d (k := 4) T.F_fault sc_fault fun cdv A outer s H E hr =>
 (dss_cons (ds_if (dt_w (dw_or (dt_not (dt_val (de_isTuple T.b_isinstance T.b_tuple (de_var 0)))) (dw_or1 (dt_not (dt_val (de_all rfl T.b_all (df_lc (own := [("item", 6)]) (t := (.nm 6)) rfl sc_fault.nd (di_val (de_var 0)) (blkOk_by (N := N_fault) (sc := defScope s_fault) (by decide +kernel)) (by decide) (fun _ _ _ _ _ => (pg_name (i := 6) sc_fault.nd rfl (Or.inl rfl))) (fun _ _ _ _ _ => dpt_nil) (fun _ _ _ _ _ => (de_call (ok_is_call T) hr (by decide) T.g_is_call T.F_is_call.kp T.B_is_call (da_cons (de_var 6) da_nil))))))))))
 (dss_one (ds_ret (de_glob rfl T.g_FORM T.r_FORM T.d_FORM)))
 dss_nil)
 (dss_cons (ds_set (i := 1) sc_fault.nd (df_new (df_lc2 (own := [("item", 6), ("time", 7)]) (t := (.nm 6)) (t1 := (.nm 7)) [7] rfl sc_fault.nd (di_val (de_var 0)) (blkOk_by (N := N_fault) (sc := defScope s_fault) (by decide +kernel)) (by decide) (by decide) (by decide) (fun _ _ _ _ _ => (pg_name (i := 6) sc_fault.nd rfl (Or.inl rfl))) (fun _ _ _ _ _ => dpt_nil) (fun _ _ _ _ _ => (di_val (de_sl (de_var 6) (do_some de_int) do_none))) (fun _ _ _ _ _ => (pg_name (i := 7) sc_fault.nd rfl (Or.inl rfl))) (fun _ _ _ _ _ => (dpt_one (dt_cmp od_isnot (de_var 7) de_non))) (fun _ _ _ _ _ => (de_var 7)))))
 (dss_cons (ds_set (i := 2) sc_fault.nd (de_call (ok_first_true T) hr (by decide) T.g_first_true T.F_first_true.kp T.B_first_true (da_cons (df_new (df_lc (own := [("item", 6)]) (t := (.nm 6)) rfl sc_fault.nd (di_val (de_var 0)) (blkOk_by (N := N_fault) (sc := defScope s_fault) (by decide +kernel)) (by decide) (fun _ _ _ _ _ => (pg_name (i := 6) sc_fault.nd rfl (Or.inl rfl))) (fun _ _ _ _ _ => dpt_nil) (fun _ _ _ _ _ => (de_or (de_cmp od_gt (de_cnt (de_var 1) (de_ix (de_var 6) de_int)) de_int) (de_one (de_cmp od_gt (de_cnt (de_var 1) (de_ix (de_var 6) de_int)) de_int)))))) da_nil)))
 (dss_cons (ds_if (dt_cmp od_isnot (de_var 2) de_non)
 (dss_one (ds_ret (de_tup (da_cons de_str (da_cons (de_var 2) da_nil)))))
 dss_nil)
 (dss_cons (ds_set (i := 3) sc_fault.nd (de_call (ok_first_true T) hr (by decide) T.g_first_true T.F_first_true.kp T.B_first_true (da_cons (df_new (df_lc (own := [("k", 4)]) (t := (.nm 4)) rfl sc_fault.nd (di_rg1 T.b_range (de_bin od_sub (de_len T.b_len (dq_val (de_var 0))) de_int)) (blkOk_by (N := N_fault) (sc := defScope s_fault) (by decide +kernel)) (by decide) (fun _ _ _ _ _ => (pg_name (i := 4) sc_fault.nd rfl (Or.inl rfl))) (fun _ _ _ _ _ => dpt_nil) (fun _ _ _ _ _ => (de_cmp od_gt (de_ix (de_ix (de_var 0) (de_var 4)) de_int) (de_ix (de_ix (de_var 0) (de_bin od_add (de_var 4) de_int)) de_int))))) da_nil)))
 (dss_cons (ds_if (dt_cmp od_isnot (de_var 3) de_non)
 (dss_one (ds_ret (de_tup (da_cons de_str (da_cons (de_var 3) da_nil)))))
 dss_nil)
 (dss_cons (ds_for PassesOwn.never rfl (di_rg1 T.b_range (de_len T.b_len (dq_val (de_var 0)))) (dg_name (i := 4) sc_fault.nd)
 (dss_cons (ds_setLc (i := 5) (own := [("item", 6)]) (t := (.nm 6)) rfl sc_fault.nd (di_val (de_sl (de_var 0) do_none (do_some (de_var 4)))) (blkOk_by (N := N_fault) (sc := defScope s_fault) (by decide +kernel)) (by decide) (fun _ _ _ _ _ => (pg_name (i := 6) sc_fault.nd rfl (Or.inl rfl))) (fun _ _ _ _ _ => (dpt_one (dt_cmp (od_eq hr.units) (de_ix (de_var 6) de_int) (de_ix (de_ix (de_var 0) (de_var 4)) de_int)))) (fun _ _ _ _ _ => (de_var 6)) (sw_true rfl rfl rfl (by decide +kernel)))
 (dss_cons (ds_if (dt_val (de_any rfl T.b_any (df_lc (own := [("item", 6)]) (t := (.nm 6)) rfl sc_fault.nd (di_val (de_var 5)) (blkOk_by (N := N_fault) (sc := defScope s_fault) (by decide +kernel)) (by decide) (fun _ _ _ _ _ => (pg_name (i := 6) sc_fault.nd rfl (Or.inl rfl))) (fun _ _ _ _ _ => dpt_nil) (fun _ _ _ _ _ => (de_or (de_cmp od_is (de_ix (de_var 6) de_int) de_non) (de_one (de_cmp od_gt (de_ix (de_var 6) de_int) (de_ix (de_ix (de_var 0) (de_var 4)) de_int))))))))
 (dss_one (ds_ret (de_tup (da_cons de_str (da_cons (de_var 4) da_nil)))))
 dss_nil)
 (dss_one (ds_if (dt_val (de_any rfl T.b_any (df_lc (own := [("item", 6)]) (t := (.nm 6)) rfl sc_fault.nd (di_val (de_sl (de_var 0) do_none (do_some (de_var 4)))) (blkOk_by (N := N_fault) (sc := defScope s_fault) (by decide +kernel)) (by decide) (fun _ _ _ _ _ => (pg_name (i := 6) sc_fault.nd rfl (Or.inl rfl))) (fun _ _ _ _ _ => dpt_nil) (fun _ _ _ _ _ => (de_and (de_cmp (od_eq hr.units) (de_ix (de_var 6) de_int) (de_ix (de_ix (de_var 0) (de_var 4)) de_int)) (de_one (de_cmp (od_ne hr.units) (de_ix (de_var 6) de_int) (de_ix (de_ix (de_var 0) (de_var 4)) de_int))))))))
 (dss_one (ds_ret (de_tup (da_cons de_str (da_cons (de_var 4) da_nil)))))
 dss_nil)))))
 (dss_one (ds_ret de_non)))))))))) n_fault

abbrev s_must_come_first : Stmt := topS 22
theorem sc_must_come_first : FnScope N_must_come_first ["calls", "one", "two", "by_time"] (defScope s_must_come_first) := ⟨rfl, rfl, rfl, by decide +kernel, rfl, by decide +kernel, by decide +kernel⟩
theorem ok_must_come_first (T : Txt K w mg) : FnOk P w K mg base CX0 1 T.f_must_come_first T.fd_must_come_first ["calls", "one", "two", "by_time"] (spM K 4 G_must_come_first) := fn_nrm (fn_d (k := 0) T.F_must_come_first sc_must_come_first fun cdv A outer s H E hr =>
 (dss_cons (ds_if (dt_val (de_var 3))
 (dss_one (ds_ret (de_and (de_cmp od_isnot (de_ix (de_ix (de_var 0) (de_var 1)) de_int) de_non) (de_one (de_cmp od_lt (de_ix (de_ix (de_var 0) (de_var 1)) de_int) (de_ix (de_ix (de_var 0) (de_var 2)) de_int))))))
 dss_nil)
 (dss_one (ds_ret (de_and (de_cmp (od_eq hr.units) (de_ix (de_ix (de_var 0) (de_var 1)) de_int) (de_ix (de_ix (de_var 0) (de_var 2)) de_int)) (de_one (de_cmp od_lt (de_var 1) (de_var 2)))))))) n_must_come_first

abbrev s_search : Stmt := topS 24
theorem sc_search : FnScope N_search ["calls", "by_time", "done", "states"] (defScope s_search) := ⟨rfl, rfl, rfl, by decide +kernel, rfl, by decide +kernel, by decide +kernel⟩
theorem okr_search (T : Txt K w mg) : ∀ k, FnOk P w K mg base CX0 (2 + k) T.f_search T.fd_search ["calls", "by_time", "done", "states"] (spM K 4 (F_search k))
  | 0 => fn_zero _
  | k + 1 => by
    have ih := okr_search T k
    exact fn_d (k := 2 + k) T.F_search sc_search fun cdv A outer s H E hr => by
      have hih : 2 + k ≤ 2 + k := Nat.le_refl _
      exact (dss_cons (ds_setLc (i := 4) (own := [("k", 5)]) (t := (.nm 5)) rfl sc_search.nd (di_rg1 T.b_range (de_len T.b_len (dq_val (de_var 0)))) (blkOk_by (N := N_search) (sc := defScope s_search) (by decide +kernel)) (by decide) (fun _ _ _ _ _ => (pg_name (i := 5) sc_search.nd rfl (Or.inl rfl))) (fun _ _ _ _ _ => (dpt_one (dt_cmp (od_notin (hu_of hr)) (de_var 5) (de_var 2)))) (fun _ _ _ _ _ => (de_var 5)) (sw_true rfl rfl rfl (by decide +kernel)))
 (dss_cons (ds_if (dt_val (de_all rfl T.b_all (df_lc (own := [("k", 5)]) (t := (.nm 5)) rfl sc_search.nd (di_val (de_var 4)) (blkOk_by (N := N_search) (sc := defScope s_search) (by decide +kernel)) (by decide) (fun _ _ _ _ _ => (pg_name (i := 5) sc_search.nd rfl (Or.inl rfl))) (fun _ _ _ _ _ => dpt_nil) (fun _ _ _ _ _ => (de_cmp od_is (de_ix (de_ix (de_var 0) (de_var 5)) de_int) de_non)))))
 (dss_one (ds_ret (de_var 2)))
 dss_nil)
 (dss_cons (ds_for PassesOwn.never rfl (di_val (de_var 4)) (dg_name (i := 5) sc_search.nd)
 (dss_one (ds_if (dt_not (dt_val (de_any rfl T.b_any (df_lc (own := [("other", 16)]) (t := (.nm 16)) rfl sc_search.nd (di_val (de_var 4)) (blkOk_by (N := N_search) (sc := defScope s_search) (by decide +kernel)) (by decide) (fun _ _ _ _ _ => (pg_name (i := 16) sc_search.nd rfl (Or.inl rfl))) (fun _ _ _ _ _ => (dpt_one (dt_cmp (od_ne hr.units) (de_var 16) (de_var 5)))) (fun _ _ _ _ _ => (de_call (ok_must_come_first T) hr (by omega) T.g_must_come_first T.F_must_come_first.kp T.B_must_come_first (da_cons (de_var 0) (da_cons (de_var 16) (da_cons (de_var 5) (da_cons (de_var 1) da_nil))))))))))
 (dss_cons (ds_asg (de_ix (de_var 0) (de_var 5)) (dg_tup rfl (dgs_cons (dg_name (i := 6) sc_search.nd) (dgs_cons (dg_name (i := 7) sc_search.nd) (dgs_cons (dg_name (i := 8) sc_search.nd) (dgs_cons (dg_name (i := 9) sc_search.nd) (dgs_cons (dg_name (i := 10) sc_search.nd) (dgs_cons (dg_name (i := 11) sc_search.nd) (dgs_cons (dg_name (i := 6) sc_search.nd) (dgs_cons (dg_name (i := 6) sc_search.nd) dgs_nil))))))))))
 (dss_cons (ds_asg (de_call (ok_call T) hr (by omega) T.g_call T.F_call.kp T.B_call (da_cons (de_var 8) (da_cons (de_get2 (hu_of hr) (de_var 3) (de_var 7) (de_call (ok_begin T) hr (by omega) T.g_begin T.F_begin.kp T.B_begin (da_cons (de_var 8) da_nil))) (da_cons (de_var 9) (da_cons (de_var 10) da_nil))))) (dg_tup rfl (dgs_cons (dg_name (i := 12) sc_search.nd) (dgs_cons (dg_name (i := 13) sc_search.nd) dgs_nil))))
 (dss_one (ds_if (dt_cmp (od_in (hu_of hr)) (de_var 11) (de_tup (da_cons de_non (da_cons (de_var 13) da_nil))))
 (dss_cons (ds_set (i := 14) sc_search.nd (de_dictOf T.b_dict (de_var 3)))
 (dss_cons (ds_asg (de_var 12) (dg_sub (hu_of hr) (de_var 14) (de_var 7)))
 (dss_cons (ds_set (i := 15) sc_search.nd (de_call ih hr hih T.g_search T.F_search.kp T.B_search (da_cons (de_var 0) (da_cons (de_var 1) (da_cons (de_bin od_add (de_var 2) (de_tup (da_cons (de_var 5) da_nil))) (da_cons (de_var 14) da_nil))))))
 (dss_one (ds_if (dt_cmp od_isnot (de_var 15) de_non)
 (dss_one (ds_ret (de_var 15)))
 dss_nil)))))
 dss_nil))))
 dss_nil)))
 (dss_one (ds_ret de_non)))))
theorem ok_search (T : Txt K w mg) : FnOk P w K mg base CX0 15 T.f_search T.fd_search ["calls", "by_time", "done", "states"] (spM K 4 G_search) := fn_nrm ((okr_search T 12).mono (by decide)) n_search

abbrev s_explained : Stmt := topS 23
theorem sc_explained : FnScope N_explained ["calls", "by_time"] (defScope s_explained) := ⟨rfl, rfl, rfl, by decide +kernel, rfl, by decide +kernel, by decide +kernel⟩
theorem ok_explained (T : Txt K w mg) : FnOk P w K mg base CX0 16 T.f_explained T.fd_explained ["calls", "by_time"] (spM K 2 G_explained) := fn_nrm (fn_d (k := 15) T.F_explained sc_explained fun cdv A outer s H E hr =>
 (dss_one (ds_ret (de_call (ok_search T) hr (by decide) T.g_search T.F_search.kp T.B_search (da_cons (de_var 0) (da_cons (de_var 1) (da_cons (de_tup da_nil) (da_cons de_dnew da_nil)))))))) n_explained

abbrev s_order_fault : Stmt := topS 25
theorem sc_order_fault : FnScope N_order_fault ["calls", "value", "by_time"] (defScope s_order_fault) := ⟨rfl, rfl, rfl, by decide +kernel, rfl, by decide +kernel, by decide +kernel⟩
theorem ok_order_fault (T : Txt K w mg) : FnOk P w K mg base CX0 3 T.f_order_fault T.fd_order_fault ["calls", "value", "by_time"] (spM K 3 G_order_fault) := fn_nrm (fn_d (k := 2) T.F_order_fault sc_order_fault fun cdv A outer s H E hr =>
 (dss_cons (ds_if (dt_w (dw_or (dt_not (dt_val (de_isTuple T.b_isinstance T.b_tuple (de_var 1)))) (dw_or1 (dt_not (dt_val (de_all rfl T.b_all (df_lc (own := [("k", 6)]) (t := (.nm 6)) rfl sc_order_fault.nd (di_val (de_var 1)) (blkOk_by (N := N_order_fault) (sc := defScope s_order_fault) (by decide +kernel)) (by decide) (fun _ _ _ _ _ => (pg_name (i := 6) sc_order_fault.nd rfl (Or.inl rfl))) (fun _ _ _ _ _ => dpt_nil) (fun _ _ _ _ _ => (de_call (ok_is_from T) hr (by decide) T.g_is_from T.F_is_from.kp T.B_is_from (da_cons (de_var 6) (da_cons de_int (da_cons (de_bin od_sub (de_len T.b_len (dq_val (de_var 0))) de_int) da_nil))))))))))))
 (dss_one (ds_ret (de_tup (da_cons de_str (da_cons de_int da_nil)))))
 dss_nil)
 (dss_cons (ds_if (dt_cmp (od_ne hr.units) (de_lenSet rfl T.b_len T.b_set (de_var 1)) (de_len T.b_len (dq_val (de_var 1))))
 (dss_one (ds_ret (de_tup (da_cons de_str (da_cons de_int da_nil)))))
 dss_nil)
 (dss_cons (ds_setLc (i := 3) (own := [("k", 6)]) (t := (.nm 6)) rfl sc_order_fault.nd (di_rg1 T.b_range (de_len T.b_len (dq_val (de_var 0)))) (blkOk_by (N := N_order_fault) (sc := defScope s_order_fault) (by decide +kernel)) (by decide) (fun _ _ _ _ _ => (pg_name (i := 6) sc_order_fault.nd rfl (Or.inl rfl))) (fun _ _ _ _ _ => (dpt_one (dt_w (dw_and (dt_cmp (od_notin (hu_of hr)) (de_var 6) (de_var 1)) (dw_and1 (dt_cmp od_isnot (de_ix (de_ix (de_var 0) (de_var 6)) de_int) de_non)))))) (fun _ _ _ _ _ => (de_var 6)) (sw_true rfl rfl rfl (by decide +kernel)))
 (dss_cons (ds_if (dt_cmp od_gt (de_len T.b_len (dq_val (de_var 3))) de_int)
 (dss_one (ds_ret (de_tup (da_cons de_str (da_cons (de_ix (de_var 3) de_int) da_nil)))))
 dss_nil)
 (dss_cons (ds_set (i := 4) sc_order_fault.nd de_dnew)
 (dss_cons (ds_for PassesOwn.never rfl (di_rg1 T.b_range (de_len T.b_len (dq_val (de_var 1)))) (dg_name (i := 5) sc_order_fault.nd)
 (dss_cons (ds_set (i := 6) sc_order_fault.nd (de_ix (de_var 1) (de_var 5)))
 (dss_cons (ds_setLc (i := 7) (own := [("other", 10)]) (t := (.nm 10)) rfl sc_order_fault.nd (di_val (de_sl (de_var 1) (do_some (de_bin od_add (de_var 5) de_int)) do_none)) (blkOk_by (N := N_order_fault) (sc := defScope s_order_fault) (by decide +kernel)) (by decide) (fun _ _ _ _ _ => (pg_name (i := 10) sc_order_fault.nd rfl (Or.inl rfl))) (fun _ _ _ _ _ => (dpt_one (dt_val (de_call (ok_must_come_first T) hr (by decide) T.g_must_come_first T.F_must_come_first.kp T.B_must_come_first (da_cons (de_var 0) (da_cons (de_var 10) (da_cons (de_var 6) (da_cons (de_var 2) da_nil)))))))) (fun _ _ _ _ _ => (de_var 10)) (sw_true rfl rfl rfl (by decide +kernel)))
 (dss_cons (ds_if (dt_cmp od_gt (de_len T.b_len (dq_val (de_var 7))) de_int)
 (dss_one (ds_ret (de_tup (da_cons de_str (da_cons (de_var 5) da_nil)))))
 dss_nil)
 (dss_cons (ds_asg (de_call (ok_call T) hr (by decide) T.g_call T.F_call.kp T.B_call (da_cons (de_ix (de_ix (de_var 0) (de_var 6)) de_int) (da_cons (de_get2 (hu_of hr) (de_var 4) (de_ix (de_ix (de_var 0) (de_var 6)) de_int) (de_call (ok_begin T) hr (by decide) T.g_begin T.F_begin.kp T.B_begin (da_cons (de_ix (de_ix (de_var 0) (de_var 6)) de_int) da_nil))) (da_cons (de_ix (de_ix (de_var 0) (de_var 6)) de_int) (da_cons (de_ix (de_ix (de_var 0) (de_var 6)) de_int) da_nil))))) (dg_tup rfl (dgs_cons (dg_name (i := 8) sc_order_fault.nd) (dgs_cons (dg_name (i := 9) sc_order_fault.nd) dgs_nil))))
 (dss_cons (ds_if (dt_cmp (od_notin (hu_of hr)) (de_ix (de_ix (de_var 0) (de_var 6)) de_int) (de_tup (da_cons de_non (da_cons (de_var 9) da_nil))))
 (dss_one (ds_ret (de_tup (da_cons de_str (da_cons (de_var 5) da_nil)))))
 dss_nil)
 (dss_one (ds_asg (de_var 8) (dg_sub (hu_of hr) (de_var 4) (de_ix (de_ix (de_var 0) (de_var 6)) de_int))))))))))
 (dss_one (ds_ret de_non))))))))) n_order_fault

abbrev s_of_object : Stmt := topS 26
theorem sc_of_object : FnScope N_of_object ["calls", "thing"] (defScope s_of_object) := ⟨rfl, rfl, rfl, by decide +kernel, rfl, by decide +kernel, by decide +kernel⟩
theorem ok_of_object (T : Txt K w mg) : FnOk P w K mg base CX0 1 T.f_of_object T.fd_of_object ["calls", "thing"] (spM K 2 G_of_object) := fn_nrm (fn_d (k := 0) T.F_of_object sc_of_object fun cdv A outer s H E hr =>
 (dss_one (ds_ret (de_tupOf T.b_tuple (df_q (df_lc (own := [("item", 2)]) (t := (.nm 2)) rfl sc_of_object.nd (di_val (de_var 0)) (blkOk_by (N := N_of_object) (sc := defScope s_of_object) (by decide +kernel)) (by decide) (fun _ _ _ _ _ => (pg_name (i := 2) sc_of_object.nd rfl (Or.inl rfl))) (fun _ _ _ _ _ => (dpt_one (dt_cmp (od_eq hr.units) (de_ix (de_var 2) de_int) (de_var 1)))) (fun _ _ _ _ _ => (de_var 2)))))))) n_of_object

abbrev s_is_linear : Stmt := topS 27
theorem sc_is_linear : FnScope N_is_linear ["calls"] (defScope s_is_linear) := ⟨rfl, rfl, rfl, by decide +kernel, rfl, by decide +kernel, by decide +kernel⟩
theorem ok_is_linear (T : Txt K w mg) : FnOk P w K mg base CX0 17 T.f_is_linear T.fd_is_linear ["calls"] (spM K 1 G_is_linear) := fn_nrm (fn_d (k := 16) T.F_is_linear sc_is_linear fun cdv A outer s H E hr =>
 (dss_one (ds_ret (de_cmp od_isnot (de_call (ok_explained T) hr (by decide) T.g_explained T.F_explained.kp T.B_explained (da_cons (de_var 0) (da_cons de_bl da_nil))) de_non)))) n_is_linear

abbrev s_is_in_turn : Stmt := topS 28
theorem sc_is_in_turn : FnScope N_is_in_turn ["calls"] (defScope s_is_in_turn) := ⟨rfl, rfl, rfl, by decide +kernel, rfl, by decide +kernel, by decide +kernel⟩
theorem ok_is_in_turn (T : Txt K w mg) : FnOk P w K mg base CX0 17 T.f_is_in_turn T.fd_is_in_turn ["calls"] (spM K 1 G_is_in_turn) := fn_nrm (fn_d (k := 16) T.F_is_in_turn sc_is_in_turn fun cdv A outer s H E hr =>
 (dss_one (ds_ret (de_cmp od_isnot (de_call (ok_explained T) hr (by decide) T.g_explained T.F_explained.kp T.B_explained (da_cons (de_var 0) (da_cons de_bl da_nil))) de_non)))) n_is_in_turn

abbrev s__law_same : Stmt := topS 30
theorem sc__law_same : FnScope N__law_same ["actual", "due"] (defScope s__law_same) := ⟨rfl, rfl, rfl, by decide +kernel, rfl, by decide +kernel, by decide +kernel⟩
theorem okr__law_same (T : Txt K w mg) : ∀ k, FnOk P w K mg base CX0 (0 + k) T.f__law_same T.fd__law_same ["actual", "due"] (spM K 2 (F__law_same k))
  | 0 => fn_zero _
  | k + 1 => by
    have ih := okr__law_same T k
    exact fn_d (k := 0 + k) T.F__law_same sc__law_same fun cdv A outer s H E hr => by
      have hih : 0 + k ≤ 0 + k := Nat.le_refl _
      exact (dss_cons (ds_if (dt_w (dw_or (dt_val (de_isTuple T.b_isinstance T.b_tuple (de_var 1))) (dw_or1 (dt_val (de_isList T.b_isinstance T.b_list (de_var 1))))))
 (dss_cons (ds_if (dt_w (dw_or (dt_cmp (od_ne hr.units) (de_isTuple T.b_isinstance T.b_tuple (de_var 1)) (de_isTuple T.b_isinstance T.b_tuple (de_var 0))) (dw_or (dt_cmp (od_ne hr.units) (de_isList T.b_isinstance T.b_list (de_var 1)) (de_isList T.b_isinstance T.b_list (de_var 0))) (dw_or1 (dt_cmp (od_ne hr.units) (de_len T.b_len (dq_val (de_var 0))) (de_len T.b_len (dq_val (de_var 1))))))))
 (dss_one (ds_ret de_bl))
 dss_nil)
 (dss_one (ds_ret (de_cmp (od_eq hr.units) (de_len T.b_len (df_q (df_lc (own := [("k", 2)]) (t := (.nm 2)) rfl sc__law_same.nd (di_rg1 T.b_range (de_len T.b_len (dq_val (de_var 1)))) (blkOk_by (N := N__law_same) (sc := defScope s__law_same) (by decide +kernel)) (by decide) (fun _ _ _ _ _ => (pg_name (i := 2) sc__law_same.nd rfl (Or.inl rfl))) (fun _ _ _ _ _ => (dpt_one (dt_not (dt_val (de_call ih hr hih T.g__law_same T.F__law_same.kp T.B__law_same (da_cons (de_ix (de_var 0) (de_var 2)) (da_cons (de_ix (de_var 1) (de_var 2)) da_nil))))))) (fun _ _ _ _ _ => (de_var 2))))) de_int))))
 dss_nil)
 (dss_cons (ds_if (dt_cmp od_is (de_var 1) de_non)
 (dss_one (ds_ret (de_cmp od_is (de_var 0) de_non)))
 dss_nil)
 (dss_cons (ds_if (dt_w (dw_or (dt_val (de_isBool T.b_isinstance T.b_bool (de_var 1))) (dw_or1 (dt_val (de_isBool T.b_isinstance T.b_bool (de_var 0))))))
 (dss_one (ds_ret (de_and (de_isBool T.b_isinstance T.b_bool (de_var 1)) (de_and (de_isBool T.b_isinstance T.b_bool (de_var 0)) (de_one (de_cmp (od_eq hr.units) (de_var 0) (de_var 1)))))))
 dss_nil)
 (dss_cons (ds_if (dt_val (de_isInt T.b_isinstance T.b_int (de_var 1)))
 (dss_one (ds_ret (de_and (de_isInt T.b_isinstance T.b_int (de_var 0)) (de_one (de_cmp (od_eq hr.units) (de_var 0) (de_var 1))))))
 dss_nil)
 (dss_one (ds_ret (de_and (de_isStr T.b_isinstance T.b_str (de_var 0)) (de_and (de_isStr T.b_isinstance T.b_str (de_var 1)) (de_one (de_cmp (od_eq hr.units) (de_var 0) (de_var 1)))))))))))
theorem ok__law_same (T : Txt K w mg) : FnOk P w K mg base CX0 9 T.f__law_same T.fd__law_same ["actual", "due"] (spM K 2 G__law_same) := fn_nrm ((okr__law_same T 8).mono (by decide)) n__law_same

abbrev s__law_pool : Stmt := topS 31
theorem sc__law_pool : FnScope N__law_pool ["script"] (defScope s__law_pool) := ⟨rfl, rfl, rfl, by decide +kernel, rfl, by decide +kernel, by decide +kernel⟩
theorem ok__law_pool (T : Txt K w mg) : FnOk P w K mg base CX0 1 T.f__law_pool T.fd__law_pool ["script"] (spM K 1 G__law_pool) := fn_nrm (fn_d (k := 0) T.F__law_pool sc__law_pool fun cdv A outer s H E hr =>
 (dss_cons (ds_set (i := 1) sc__law_pool.nd de_int)
 (dss_cons (ds_for PassesOwn.never rfl (di_val (de_sl (de_var 0) do_none (do_some de_int))) (dg_name (i := 2) sc__law_pool.nd)
 (dss_one (ds_set (i := 1) sc__law_pool.nd (de_bin od_mod (de_intOf T.b_int (de_bin od_add (de_bin od_mul (de_var 1) de_int) (de_var 2))) de_int))))
 (dss_one (ds_ret (df_new (df_lst (da_cons (df_new (df_listOf T.b_list (dq_val (de_var 0)))) (da_cons de_int (da_cons de_int (da_cons de_int (da_cons (de_var 1) da_nil)))))))))))) n__law_pool

abbrev s__law_spread : Stmt := topS 32
theorem sc__law_spread : FnScope N__law_spread ["cell"] (defScope s__law_spread) := ⟨rfl, rfl, rfl, by decide +kernel, rfl, by decide +kernel, by decide +kernel⟩
theorem ok__law_spread (T : Txt K w mg) : FnOk P w K mg base CX0 1 T.f__law_spread T.fd__law_spread ["cell"] (spM K 1 G__law_spread) := fn_nrm (fn_d (k := 0) T.F__law_spread sc__law_spread fun cdv A outer s H E hr =>
 (dss_cons (ds_set (i := 1) sc__law_spread.nd (de_bin od_mod (de_intOf T.b_int (de_var 0)) de_int))
 (dss_cons (ds_set (i := 2) sc__law_spread.nd de_int)
 (dss_cons (ds_for PassesOwn.never rfl (di_rg1 T.b_range de_int) (dg_name (i := 3) sc__law_spread.nd)
 (dss_cons (ds_set (i := 1) sc__law_spread.nd (de_bin od_mod (de_intOf T.b_int (de_bin od_add (de_bin od_add (de_bin od_mul (de_var 1) de_int) de_int) (de_var 3))) de_int))
 (dss_one (ds_set (i := 2) sc__law_spread.nd (de_bin od_add (de_bin od_mul (de_var 2) de_int) (de_var 1))))))
 (dss_one (ds_ret (de_var 2))))))) n__law_spread

abbrev s__law_draw : Stmt := topS 33
theorem sc__law_draw : FnScope N__law_draw ["pool", "many"] (defScope s__law_draw) := ⟨rfl, rfl, rfl, by decide +kernel, rfl, by decide +kernel, by decide +kernel⟩
theorem ok__law_draw (T : Txt K w mg) : FnOk P w K mg base CX0 2 T.f__law_draw T.fd__law_draw ["pool", "many"] (spM K 2 G__law_draw) := fn_nrm (fn_d (k := 1) T.F__law_draw sc__law_draw fun cdv A outer s H E hr =>
 (dss_cons (ds_if (dt_w (dw_and (dt_cmp od_le (de_ix (de_var 0) de_int) de_int) (dw_and1 (dt_cmp od_lt (de_ix (de_var 0) de_int) (de_len T.b_len (dq_val (de_ix (de_var 0) de_int)))))))
 (dss_cons (ds_set (i := 2) sc__law_draw.nd (de_ix (de_ix (de_var 0) de_int) (de_ix (de_var 0) de_int)))
 (dss_cons (ds_asg (de_bin od_add (de_ix (de_var 0) de_int) de_int) (dg_sub (hu_of hr) (de_var 0) de_int))
 (dss_cons (ds_asg (de_var 2) (dg_sub (hu_of hr) (de_var 0) de_int))
 (dss_one (ds_if (dt_cmp od_lt (de_var 2) de_int)
 (dss_one (ds_asg (de_call (ok__law_spread T) hr (by decide) T.g__law_spread T.F__law_spread.kp T.B__law_spread (da_cons (de_var 2) da_nil)) (dg_sub (hu_of hr) (de_var 0) de_int)))
 dss_nil)))))
 dss_nil)
 (dss_cons (ds_asg (de_bin od_add (de_ix (de_var 0) de_int) de_int) (dg_sub (hu_of hr) (de_var 0) de_int))
 (dss_cons (ds_if (dt_cmp od_le (de_ix (de_var 0) de_int) de_int)
 (dss_cons (ds_set (i := 3) sc__law_draw.nd (de_bin od_mod (de_intOf T.b_int (de_bin od_add (de_bin od_add (de_bin od_mul (de_ix (de_var 0) de_int) de_int) (de_bin od_mul (de_ix (de_var 0) de_int) de_int)) de_int)) de_int))
 (dss_cons (ds_set (i := 3) sc__law_draw.nd (de_bin od_mod (de_intOf T.b_int (de_bin od_add (de_bin od_mul (de_var 3) de_int) (de_ix (de_var 0) de_int))) de_int))
 (dss_one (ds_ret (de_bin od_mod (de_bin od_div (de_var 3) de_int) (de_var 1))))))
 dss_nil)
 (dss_cons (ds_set (i := 4) sc__law_draw.nd (de_bin od_mod (de_intOf T.b_int (de_ix (de_var 0) de_int)) (de_var 1)))
 (dss_cons (ds_asg (de_bin od_div (de_ix (de_var 0) de_int) (de_var 1)) (dg_sub (hu_of hr) (de_var 0) de_int))
 (dss_one (ds_ret (de_var 4))))))))) n__law_draw

abbrev s__law_pick : Stmt := topS 34
theorem sc__law_pick : FnScope N__law_pick ["pool", "items"] (defScope s__law_pick) := ⟨rfl, rfl, rfl, by decide +kernel, rfl, by decide +kernel, by decide +kernel⟩
theorem ok__law_pick (T : Txt K w mg) : FnOk P w K mg base CX0 3 T.f__law_pick T.fd__law_pick ["pool", "items"] (spM K 2 G__law_pick) := fn_nrm (fn_d (k := 2) T.F__law_pick sc__law_pick fun cdv A outer s H E hr =>
 (dss_one (ds_ret (de_ix (de_var 1) (de_call (ok__law_draw T) hr (by decide) T.g__law_draw T.F__law_draw.kp T.B__law_draw (da_cons (de_var 0) (da_cons (de_len T.b_len (dq_val (de_var 1))) da_nil))))))) n__law_pick

abbrev s__law_shuffled : Stmt := topS 35
theorem sc__law_shuffled : FnScope N__law_shuffled ["pool", "items"] (defScope s__law_shuffled) := ⟨rfl, rfl, rfl, by decide +kernel, rfl, by decide +kernel, by decide +kernel⟩
theorem ok__law_shuffled (T : Txt K w mg) : FnOk P w K mg base CX0 3 T.f__law_shuffled T.fd__law_shuffled ["pool", "items"] (spM K 2 G__law_shuffled) := fn_nrm (fn_d (k := 2) T.F__law_shuffled sc__law_shuffled fun cdv A outer s H E hr =>
 (dss_cons (ds_set (i := 2) sc__law_shuffled.nd (df_new (df_listOf T.b_list (dq_val (de_var 1)))))
 (dss_cons (ds_set (i := 3) sc__law_shuffled.nd (df_new (df_lst da_nil)))
 (dss_cons (ds_while 100000 PassesOwn.never (dt_cmp (od_ne hr.units) (de_var 2) (df_new (df_lst da_nil)))
 (dss_one (ds_expr (de_app (de_var 3) (de_popAt (de_var 2) (de_call (ok__law_draw T) hr (by decide) T.g__law_draw T.F__law_draw.kp T.B__law_draw (da_cons (de_var 0) (da_cons (de_len T.b_len (dq_val (de_var 2))) da_nil))))))))
 (dss_one (ds_ret (de_var 3))))))) n__law_shuffled

abbrev s__law_call : Stmt := topS 36
theorem sc__law_call : FnScope N__law_call ["kind", "state", "word", "argument"] (defScope s__law_call) := ⟨rfl, rfl, rfl, by decide +kernel, rfl, by decide +kernel, by decide +kernel⟩
theorem ok__law_call (T : Txt K w mg) : FnOk P w K mg base CX0 1 T.f__law_call T.fd__law_call ["kind", "state", "word", "argument"] (spM K 4 G__law_call) := fn_nrm (fn_d (k := 0) T.F__law_call sc__law_call fun cdv A outer s H E hr =>
 (dss_cons (ds_if (dt_cmp (od_eq hr.units) (de_var 0) de_str)
 (dss_one (ds_ret (de_if (dt_cmp (od_eq hr.units) (de_var 2) de_str) (de_tup (da_cons (de_var 1) (da_cons (de_var 1) da_nil))) (de_tup (da_cons (de_var 3) (da_cons de_int da_nil))))))
 dss_nil)
 (dss_cons (ds_if (dt_cmp (od_eq hr.units) (de_var 0) de_str)
 (dss_one (ds_ret (de_if (dt_cmp (od_eq hr.units) (de_var 2) de_str) (de_tup (da_cons (de_var 1) (da_cons (de_var 1) da_nil))) (de_tup (da_cons (de_bin od_mod (de_intOf T.b_int (de_bin od_add (de_var 1) (de_var 3))) de_int) (da_cons de_int da_nil))))))
 dss_nil)
 (dss_cons (ds_if (dt_cmp (od_eq hr.units) (de_var 0) de_str)
 (dss_cons (ds_set (i := 4) sc__law_call.nd (de_intOf T.b_int (de_cmp (od_in (hu_of hr)) (de_var 3) (de_var 1))))
 (dss_cons (ds_if (dt_w (dw_and (dt_cmp (od_eq hr.units) (de_var 2) de_str) (dw_and1 (dt_cmp (od_eq hr.units) (de_var 4) de_int))))
 (dss_one (ds_ret (de_tup (da_cons (de_tupOf T.b_tuple (df_q (df_srt T.b_sorted (dq_val (de_bin od_add (de_var 1) (de_tup (da_cons (de_var 3) da_nil))))))) (da_cons de_int da_nil)))))
 dss_nil)
 (dss_one (ds_ret (de_tup (da_cons (de_if (dt_cmp (od_eq hr.units) (de_var 2) de_str) (de_tupOf T.b_tuple (df_q (df_lc (own := [("one", 5)]) (t := (.nm 5)) rfl sc__law_call.nd (di_val (de_var 1)) (blkOk_by (N := N__law_call) (sc := defScope s__law_call) (by decide +kernel)) (by decide) (fun _ _ _ _ _ => (pg_name (i := 5) sc__law_call.nd rfl (Or.inl rfl))) (fun _ _ _ _ _ => (dpt_one (dt_cmp (od_ne hr.units) (de_var 5) (de_var 3)))) (fun _ _ _ _ _ => (de_var 5))))) (de_var 1)) (da_cons (de_var 4) da_nil)))))))
 dss_nil)
 (dss_cons (ds_if (dt_cmp (od_eq hr.units) (de_var 2) de_str)
 (dss_one (ds_ret (de_tup (da_cons (de_bin od_add (de_var 1) (de_tup (da_cons (de_var 3) da_nil))) (da_cons de_int da_nil)))))
 dss_nil)
 (dss_cons (ds_if (dt_cmp (od_eq hr.units) (de_var 1) (de_tup da_nil))
 (dss_one (ds_ret (de_tup (da_cons (de_var 1) (da_cons (de_neg de_int) da_nil)))))
 dss_nil)
 (dss_one (ds_ret (de_if (dt_cmp (od_eq hr.units) (de_var 0) de_str) (de_tup (da_cons (de_sl (de_var 1) (do_some de_int) do_none) (da_cons (de_ix (de_var 1) de_int) da_nil))) (de_tup (da_cons (de_sl (de_var 1) do_none (do_some (de_neg de_int))) (da_cons (de_ix (de_var 1) (de_neg de_int)) da_nil)))))))))))) n__law_call

abbrev s__law_first_state : Stmt := topS 37
theorem sc__law_first_state : FnScope N__law_first_state ["kind"] (defScope s__law_first_state) := ⟨rfl, rfl, rfl, by decide +kernel, rfl, by decide +kernel, by decide +kernel⟩
theorem ok__law_first_state (T : Txt K w mg) : FnOk P w K mg base CX0 1 T.f__law_first_state T.fd__law_first_state ["kind"] (spM K 1 G__law_first_state) := fn_nrm (fn_d (k := 0) T.F__law_first_state sc__law_first_state fun cdv A outer s H E hr =>
 (dss_one (ds_ret (de_if (dt_cmp (od_in (hu_of hr)) (de_var 0) (de_tup (da_cons de_str (da_cons de_str da_nil)))) de_int (de_tup da_nil))))) n__law_first_state

abbrev s__law_words : Stmt := topS 38
theorem sc__law_words : FnScope N__law_words ["kind"] (defScope s__law_words) := ⟨rfl, rfl, rfl, by decide +kernel, rfl, by decide +kernel, by decide +kernel⟩
theorem ok__law_words (T : Txt K w mg) : FnOk P w K mg base CX0 1 T.f__law_words T.fd__law_words ["kind"] (spM K 1 G__law_words) := fn_nrm (fn_d (k := 0) T.F__law_words sc__law_words fun cdv A outer s H E hr =>
 (dss_one (ds_ret (de_dget (hu_of hr) (de_disp (dps_cons de_str (df_new (df_lst (da_cons de_str (da_cons de_str da_nil)))) (dps_cons de_str (df_new (df_lst (da_cons de_str (da_cons de_str da_nil)))) (dps_cons de_str (df_new (df_lst (da_cons de_str (da_cons de_str da_nil)))) (dps_cons de_str (df_new (df_lst (da_cons de_str (da_cons de_str da_nil)))) (dps_cons de_str (df_new (df_lst (da_cons de_str (da_cons de_str (da_cons de_str da_nil))))) dps_nil)))))) (de_var 0))))) n__law_words

abbrev s__law_some_call : Stmt := topS 39
theorem sc__law_some_call : FnScope N__law_some_call ["pool", "kind"] (defScope s__law_some_call) := ⟨rfl, rfl, rfl, by decide +kernel, rfl, by decide +kernel, by decide +kernel⟩
theorem ok__law_some_call (T : Txt K w mg) : FnOk P w K mg base CX0 4 T.f__law_some_call T.fd__law_some_call ["pool", "kind"] (spM K 2 G__law_some_call) := fn_nrm (fn_d (k := 3) T.F__law_some_call sc__law_some_call fun cdv A outer s H E hr =>
 (dss_cons (ds_set (i := 2) sc__law_some_call.nd (de_call (ok__law_pick T) hr (by decide) T.g__law_pick T.F__law_pick.kp T.B__law_pick (da_cons (de_var 0) (da_cons (de_call (ok__law_words T) hr (by decide) T.g__law_words T.F__law_words.kp T.B__law_words (da_cons (de_var 1) da_nil)) da_nil))))
 (dss_cons (ds_set (i := 3) sc__law_some_call.nd (de_or (de_cmp (od_eq hr.units) (de_var 2) de_str) (de_one (de_and (de_cmp (od_eq hr.units) (de_var 2) de_str) (de_one (de_cmp (od_ne hr.units) (de_var 1) de_str))))))
 (dss_one (ds_ret (de_tup (da_cons (de_var 2) (da_cons (de_if (dt_val (de_var 3)) de_int (de_ix (de_tup (da_cons de_int (da_cons de_int (da_cons de_int (da_cons de_int (da_cons de_int da_nil)))))) (de_call (ok__law_draw T) hr (by decide) T.g__law_draw T.F__law_draw.kp T.B__law_draw (da_cons (de_var 0) (da_cons de_int da_nil))))) da_nil)))))))) n__law_some_call

abbrev s__law_calls : Stmt := topS 40
theorem sc__law_calls : FnScope N__law_calls ["pool", "most", "things"] (defScope s__law_calls) := ⟨rfl, rfl, rfl, by decide +kernel, rfl, by decide +kernel, by decide +kernel⟩
theorem ok__law_calls (T : Txt K w mg) : FnOk P w K mg base CX0 5 T.f__law_calls T.fd__law_calls ["pool", "most", "things"] (spM K 3 G__law_calls) := fn_nrm (fn_d (k := 4) T.F__law_calls sc__law_calls fun cdv A outer s H E hr =>
 (dss_cons (ds_setLc (i := 3) (own := [("k", 9)]) (t := (.nm 9)) rfl sc__law_calls.nd (di_rg1 T.b_range (de_var 2)) (blkOk_by (N := N__law_calls) (sc := defScope s__law_calls) (by decide +kernel)) (by decide) (fun _ _ _ _ _ => (pg_name (i := 9) sc__law_calls.nd rfl (Or.inl rfl))) (fun _ _ _ _ _ => dpt_nil) (fun _ _ _ _ _ => (de_call (ok__law_pick T) hr (by decide) T.g__law_pick T.F__law_pick.kp T.B__law_pick (da_cons (de_var 0) (da_cons (df_new (df_lst (da_cons de_str (da_cons de_str (da_cons de_str (da_cons de_str (da_cons de_str (da_cons de_str da_nil)))))))) da_nil)))) (sw_true rfl rfl rfl (by decide +kernel)))
 (dss_cons (ds_setLc (i := 4) (own := [("kind", 17)]) (t := (.nm 17)) rfl sc__law_calls.nd (di_val (de_var 3)) (blkOk_by (N := N__law_calls) (sc := defScope s__law_calls) (by decide +kernel)) (by decide) (fun _ _ _ _ _ => (pg_name (i := 17) sc__law_calls.nd rfl (Or.inl rfl))) (fun _ _ _ _ _ => dpt_nil) (fun _ _ _ _ _ => (de_call (ok__law_first_state T) hr (by decide) T.g__law_first_state T.F__law_first_state.kp T.B__law_first_state (da_cons (de_var 17) da_nil))) (sw_true rfl rfl rfl (by decide +kernel)))
 (dss_cons (ds_asg (de_tup (da_cons (df_new (df_lst da_nil)) (da_cons de_dnew (da_cons (df_new (df_lst da_nil)) da_nil)))) (dg_tup rfl (dgs_cons (dg_name (i := 5) sc__law_calls.nd) (dgs_cons (dg_name (i := 6) sc__law_calls.nd) (dgs_cons (dg_name (i := 7) sc__law_calls.nd) dgs_nil)))))
 (dss_cons (ds_set (i := 8) sc__law_calls.nd de_int)
 (dss_cons (ds_for PassesOwn.never rfl (di_rg1 T.b_range (de_bin od_add de_int (de_call (ok__law_draw T) hr (by decide) T.g__law_draw T.F__law_draw.kp T.B__law_draw (da_cons (de_var 0) (da_cons (de_var 1) da_nil))))) (dg_name (i := 9) sc__law_calls.nd)
 (dss_cons (ds_set (i := 8) sc__law_calls.nd (de_bin od_add (de_bin od_add (de_var 8) de_int) (de_call (ok__law_draw T) hr (by decide) T.g__law_draw T.F__law_draw.kp T.B__law_draw (da_cons (de_var 0) (da_cons de_int da_nil)))))
 (dss_cons (ds_while 100000 PassesOwn.never (dt_cmp (od_in (hu_of hr)) (de_var 8) (de_var 7))
 (dss_one (ds_set (i := 8) sc__law_calls.nd (de_bin od_add (de_var 8) de_int))))
 (dss_cons (ds_setLc (i := 10) (own := [("hand", 11)]) (t := (.nm 11)) rfl sc__law_calls.nd (di_val (de_tup (da_cons de_int (da_cons de_int (da_cons de_int da_nil))))) (blkOk_by (N := N__law_calls) (sc := defScope s__law_calls) (by decide +kernel)) (by decide) (fun _ _ _ _ _ => (pg_name (i := 11) sc__law_calls.nd rfl (Or.inl rfl))) (fun _ _ _ _ _ => (dpt_one (dt_w (dw_or (dt_cmp (od_notin (hu_of hr)) (de_var 11) (de_var 6)) (dw_or1 (dt_w (dw_and (dt_cmp od_isnot (de_dget (hu_of hr) (de_var 6) (de_var 11)) de_non) (dw_and1 (dt_cmp od_lt (de_dget (hu_of hr) (de_var 6) (de_var 11)) (de_var 8)))))))))) (fun _ _ _ _ _ => (de_var 11)) (sw_true rfl rfl rfl (by decide +kernel)))
 (dss_one (ds_if (dt_cmp (od_ne hr.units) (de_var 10) (df_new (df_lst da_nil)))
 (dss_cons (ds_par (i := 11) (j := 12) rfl sc__law_calls.nd (by decide) (de_call (ok__law_pick T) hr (by decide) T.g__law_pick T.F__law_pick.kp T.B__law_pick (da_cons (de_var 0) (da_cons (de_var 10) da_nil))) (de_call (ok__law_draw T) hr (by decide) T.g__law_draw T.F__law_draw.kp T.B__law_draw (da_cons (de_var 0) (da_cons (de_var 2) da_nil))))
 (dss_cons (ds_asg (de_call (ok__law_some_call T) hr (by decide) T.g__law_some_call T.F__law_some_call.kp T.B__law_some_call (da_cons (de_var 0) (da_cons (de_ix (de_var 3) (de_var 12)) da_nil))) (dg_tup rfl (dgs_cons (dg_name (i := 13) sc__law_calls.nd) (dgs_cons (dg_name (i := 14) sc__law_calls.nd) dgs_nil))))
 (dss_cons (ds_set (i := 14) sc__law_calls.nd (de_min2 rfl T.b_min (de_var 14) de_int))
 (dss_cons (ds_asg (de_call (ok__law_call T) hr (by decide) T.g__law_call T.F__law_call.kp T.B__law_call (da_cons (de_ix (de_var 3) (de_var 12)) (da_cons (de_ix (de_var 4) (de_var 12)) (da_cons (de_var 13) (da_cons (de_var 14) da_nil))))) (dg_tup rfl (dgs_cons (dg_sub (hu_of hr) (de_var 4) (de_var 12)) (dgs_cons (dg_name (i := 15) sc__law_calls.nd) dgs_nil))))
 (dss_cons (ds_set (i := 15) sc__law_calls.nd (de_if (dt_cmp (od_eq hr.units) (de_call (ok__law_draw T) hr (by decide) T.g__law_draw T.F__law_draw.kp T.B__law_draw (da_cons (de_var 0) (da_cons de_int da_nil))) de_int) (de_call (ok__law_pick T) hr (by decide) T.g__law_pick T.F__law_pick.kp T.B__law_pick (da_cons (de_var 0) (da_cons (df_new (df_lst (da_cons de_int (da_cons de_int (da_cons de_int (da_cons (de_neg de_int) da_nil)))))) da_nil))) (de_var 15)))
 (dss_cons (ds_set (i := 16) sc__law_calls.nd (de_bin od_add (de_bin od_add (de_var 8) de_int) (de_call (ok__law_draw T) hr (by decide) T.g__law_draw T.F__law_draw.kp T.B__law_draw (da_cons (de_var 0) (da_cons de_int da_nil)))))
 (dss_cons (ds_while 100000 PassesOwn.never (dt_cmp (od_in (hu_of hr)) (de_var 16) (de_var 7))
 (dss_one (ds_set (i := 16) sc__law_calls.nd (de_bin od_add (de_var 16) de_int))))
 (dss_cons (ds_if (dt_cmp (od_eq hr.units) (de_call (ok__law_draw T) hr (by decide) T.g__law_draw T.F__law_draw.kp T.B__law_draw (da_cons (de_var 0) (da_cons de_int da_nil))) de_int)
 (dss_one (ds_asg (de_tup (da_cons de_non (da_cons de_non da_nil))) (dg_tup rfl (dgs_cons (dg_name (i := 15) sc__law_calls.nd) (dgs_cons (dg_name (i := 16) sc__law_calls.nd) dgs_nil)))))
 dss_nil)
 (dss_cons (ds_set (i := 7) sc__law_calls.nd (de_bin od_add (de_bin od_add (de_var 7) (df_new (df_lst (da_cons (de_var 8) da_nil)))) (de_if (dt_cmp od_isnot (de_var 16) de_non) (df_new (df_lst (da_cons (de_var 16) da_nil))) (df_new (df_lst da_nil)))))
 (dss_cons (ds_asg (de_var 16) (dg_sub (hu_of hr) (de_var 6) (de_var 11)))
 (dss_one (ds_expr (de_app (de_var 5) (de_tup (da_cons (de_var 11) (da_cons (de_var 12) (da_cons (de_ix (de_var 3) (de_var 12)) (da_cons (de_var 13) (da_cons (de_var 14) (da_cons (de_var 15) (da_cons (de_var 8) (da_cons (de_var 16) da_nil))))))))))))))))))))))
 dss_nil))))))
 (dss_one (ds_ret (de_tupOf T.b_tuple (dq_val (de_var 5))))))))))) n__law_calls

abbrev s_law : Stmt := topS 41
theorem sc_law : FnScope N_law ["script"] (defScope s_law) := ⟨rfl, rfl, rfl, by decide +kernel, rfl, by decide +kernel, by decide +kernel⟩
theorem ok_law (T : Txt K w mg) : FnOk P w K mg base CX0 18 T.f_law T.fd_law ["script"] (spM K 1 G_law) := fn_nrm (fn_d (k := 17) T.F_law sc_law fun cdv A outer s H E hr =>
 (dss_cons (ds_set (i := 1) sc_law.nd (de_call (ok__law_pool T) hr (by decide) T.g__law_pool T.F__law_pool.kp T.B__law_pool (da_cons (de_var 0) da_nil)))
 (dss_cons (ds_set (i := 2) sc_law.nd (de_call (ok__law_calls T) hr (by decide) T.g__law_calls T.F__law_calls.kp T.B__law_calls (da_cons (de_var 1) (da_cons de_int (da_cons de_int da_nil)))))
 (dss_cons (ds_set (i := 3) sc_law.nd (df_new (df_lst da_nil)))
 (dss_cons (ds_for PassesOwn.never rfl (di_val (de_var 2)) (dg_name (i := 4) sc_law.nd)
 (dss_one (ds_set (i := 3) sc_law.nd (de_bin od_add (de_var 3) (df_new (df_lc (own := [("time", 7)]) (t := (.nm 7)) rfl sc_law.nd (di_val (de_sl (de_var 4) (do_some de_int) do_none)) (blkOk_by (N := N_law) (sc := defScope s_law) (by decide +kernel)) (by decide) (fun _ _ _ _ _ => (pg_name (i := 7) sc_law.nd rfl (Or.inl rfl))) (fun _ _ _ _ _ => (dpt_one (dt_cmp od_isnot (de_var 7) de_non))) (fun _ _ _ _ _ => (de_var 7))))))))
 (dss_cons (ds_set (i := 3) sc_law.nd (df_new (df_srtSet rfl T.b_sorted T.b_set (dq_val (de_var 3)))))
 (dss_cons (ds_asg (de_tup (da_cons de_dnew (da_cons (de_call (ok__law_draw T) hr (by decide) T.g__law_draw T.F__law_draw.kp T.B__law_draw (da_cons (de_var 1) (da_cons de_int da_nil))) da_nil))) (dg_tup rfl (dgs_cons (dg_name (i := 5) sc_law.nd) (dgs_cons (dg_name (i := 6) sc_law.nd) dgs_nil))))
 (dss_cons (ds_for PassesOwn.never rfl (di_val (de_var 3)) (dg_name (i := 7) sc_law.nd)
 (dss_cons (ds_set (i := 6) sc_law.nd (de_bin od_add (de_bin od_add (de_var 6) de_int) (de_call (ok__law_draw T) hr (by decide) T.g__law_draw T.F__law_draw.kp T.B__law_draw (da_cons (de_var 1) (da_cons de_int da_nil)))))
 (dss_one (ds_asg (de_var 6) (dg_sub (hu_of hr) (de_var 5) (de_var 7))))))
 (dss_cons (ds_asg de_non (dg_subN (de_var 5) de_non))
 (dss_cons (ds_set (i := 8) sc_law.nd (de_call (ok__law_shuffled T) hr (by decide) T.g__law_shuffled T.F__law_shuffled.kp T.B__law_shuffled (da_cons (de_var 1) (da_cons (df_new (df_lst (da_cons de_int (da_cons de_int (da_cons de_int (da_cons de_int (da_cons de_int (da_cons de_int (da_cons de_int (da_cons de_int (da_cons de_int da_nil))))))))))) da_nil))))
 (dss_cons (ds_set (i := 9) sc_law.nd (de_call (ok__law_shuffled T) hr (by decide) T.g__law_shuffled T.F__law_shuffled.kp T.B__law_shuffled (da_cons (de_var 1) (da_cons (df_new (df_lst (da_cons de_int (da_cons de_int (da_cons de_int (da_cons de_int (da_cons de_int (da_cons de_int (da_cons de_int (da_cons de_int (da_cons de_int (da_cons de_int da_nil)))))))))))) da_nil))))
 (dss_cons (ds_set (i := 10) sc_law.nd (de_tupOf T.b_tuple (df_q (df_lc (own := [("item", 4)]) (t := (.nm 4)) rfl sc_law.nd (di_val (de_var 2)) (blkOk_by (N := N_law) (sc := defScope s_law) (by decide +kernel)) (by decide) (fun _ _ _ _ _ => (pg_name (i := 4) sc_law.nd rfl (Or.inl rfl))) (fun _ _ _ _ _ => dpt_nil) (fun _ _ _ _ _ => (de_bin od_add (de_bin od_add (de_tup (da_cons (de_ix (de_var 8) (de_ix (de_var 4) de_int)) (da_cons (de_ix (de_var 9) (de_ix (de_var 4) de_int)) da_nil))) (de_sl (de_var 4) (do_some de_int) (do_some de_int))) (de_tup (da_cons (de_nget (de_var 5) (de_ix (de_var 4) de_int)) (da_cons (de_nget (de_var 5) (de_ix (de_var 4) de_int)) da_nil)))))))))
 (dss_cons (ds_if (dt_cmp od_gt (de_var 6) de_int)
 (dss_one (ds_ret de_bl))
 dss_nil)
 (dss_cons (ds_if (dt_not (dt_val (de_call (ok__law_same T) hr (by decide) T.g__law_same T.F__law_same.kp T.B__law_same (da_cons (df_new (df_lst (da_cons (de_call (ok_fault T) hr (by decide) T.g_fault T.F_fault.kp T.B_fault (da_cons (de_var 2) da_nil)) (da_cons (de_call (ok_fault T) hr (by decide) T.g_fault T.F_fault.kp T.B_fault (da_cons (de_var 10) da_nil)) da_nil)))) (da_cons (df_new (df_lst (da_cons de_non (da_cons de_non da_nil)))) da_nil)))))
 (dss_one (ds_ret de_bl))
 dss_nil)
 (dss_cons (ds_if (dt_not (dt_val (de_call (ok__law_same T) hr (by decide) T.g__law_same T.F__law_same.kp T.B__law_same (da_cons (df_new (df_lst (da_cons (de_call (ok_explained T) hr (by decide) T.g_explained T.F_explained.kp T.B_explained (da_cons (de_var 10) (da_cons de_bl da_nil))) (da_cons (de_call (ok_explained T) hr (by decide) T.g_explained T.F_explained.kp T.B_explained (da_cons (de_var 10) (da_cons de_bl da_nil))) (da_cons (de_call (ok_is_linear T) hr (by decide) T.g_is_linear T.F_is_linear.kp T.B_is_linear (da_cons (de_var 10) da_nil)) (da_cons (de_call (ok_is_in_turn T) hr (by decide) T.g_is_in_turn T.F_is_in_turn.kp T.B_is_in_turn (da_cons (de_var 10) da_nil)) da_nil)))))) (da_cons (df_new (df_lst (da_cons (de_call (ok_explained T) hr (by decide) T.g_explained T.F_explained.kp T.B_explained (da_cons (de_var 2) (da_cons de_bl da_nil))) (da_cons (de_call (ok_explained T) hr (by decide) T.g_explained T.F_explained.kp T.B_explained (da_cons (de_var 2) (da_cons de_bl da_nil))) (da_cons (de_call (ok_is_linear T) hr (by decide) T.g_is_linear T.F_is_linear.kp T.B_is_linear (da_cons (de_var 2) da_nil)) (da_cons (de_call (ok_is_in_turn T) hr (by decide) T.g_is_in_turn T.F_is_in_turn.kp T.B_is_in_turn (da_cons (de_var 2) da_nil)) da_nil)))))) da_nil)))))
 (dss_one (ds_ret de_bl))
 dss_nil)
 (dss_cons (ds_for PassesOwn.never rfl (di_rg1 T.b_range de_int) (dg_name (i := 11) sc_law.nd)
 (dss_cons (ds_set (i := 12) sc_law.nd (de_tupOf T.b_tuple (dq_val (de_sl (de_call (ok__law_shuffled T) hr (by decide) T.g__law_shuffled T.F__law_shuffled.kp T.B__law_shuffled (da_cons (de_var 1) (da_cons (df_new (df_listRg rfl T.b_list (dr_1 T.b_range (de_len T.b_len (dq_val (de_var 2)))))) da_nil))) do_none (do_some (de_bin od_sub (de_len T.b_len (dq_val (de_var 2))) (de_call (ok__law_draw T) hr (by decide) T.g__law_draw T.F__law_draw.kp T.B__law_draw (da_cons (de_var 1) (da_cons de_int da_nil)))))))))
 (dss_one (ds_for PassesOwn.never rfl (di_val (de_tup (da_cons de_bl (da_cons de_bl da_nil)))) (dg_name (i := 13) sc_law.nd)
 (dss_one (ds_if (dt_not (dt_val (de_call (ok__law_same T) hr (by decide) T.g__law_same T.F__law_same.kp T.B__law_same (da_cons (de_call (ok_order_fault T) hr (by decide) T.g_order_fault T.F_order_fault.kp T.B_order_fault (da_cons (de_var 10) (da_cons (de_var 12) (da_cons (de_var 13) da_nil)))) (da_cons (de_call (ok_order_fault T) hr (by decide) T.g_order_fault T.F_order_fault.kp T.B_order_fault (da_cons (de_var 2) (da_cons (de_var 12) (da_cons (de_var 13) da_nil)))) da_nil)))))
 (dss_one (ds_ret de_bl))
 dss_nil))))))
 (dss_cons (ds_for PassesOwn.never rfl (di_rg1 T.b_range de_int) (dg_name (i := 14) sc_law.nd)
 (dss_one (ds_if (dt_cmp (od_ne hr.units) (de_len T.b_len (dq_val (de_call (ok_of_object T) hr (by decide) T.g_of_object T.F_of_object.kp T.B_of_object (da_cons (de_var 10) (da_cons (de_ix (de_var 9) (de_var 14)) da_nil))))) (de_len T.b_len (dq_val (de_call (ok_of_object T) hr (by decide) T.g_of_object T.F_of_object.kp T.B_of_object (da_cons (de_var 2) (da_cons (de_var 14) da_nil))))))
 (dss_one (ds_ret de_bl))
 dss_nil)))
 (dss_one (ds_ret de_bl))))))))))))))))))) n_law

end

end Law

namespace Law
open PySem PySem.Spec PyProof.Rows L2 DL
def LpA (ns us : List Int) (cs : List CR) (a : Nat) (x4 : Option DV) (i : Nat) (e : DL.Env) (s : Sto) : Prop := ∃ (p : PS) (G : Sto) (S : List (Int × Int)) (clock : Int) (x7 : Option DV), s = p.st ++ G ∧ OkP p ∧ G[a]? = some (.lst (us.map DV.int)) ∧ G[a + 1]? = some (.dct (encG DV.int S)) ∧ S.length ≤ i ∧ LaterOk S (us.take i) clock ∧ 0 ≤ clock ∧ clock ≤ 4 + 40 * (i : Int) ∧ e = [some (.scr (ns.map DV.int)), some (.ref 2), some (.tup (cs.map CR.d)), some (.ref (a + 3)), x4, some (.ref (a + 4)), some (.int clock), x7, none, none, none, none, none, none, none]
def LpB (ns : List Int) (cs ds : List CR) (a b c : Nat) (x4 x7 : Option DV) (clock : Int) (qs : List Int) (e : DL.Env) (s : Sto) : Prop := ∃ (p : PS) (G : Sto) (x11 x12 x13 : Option DV), s = p.st ++ G ∧ OkP p ∧ G[c]? = some (.lst (qs.map DV.int)) ∧ e = [some (.scr (ns.map DV.int)), some (.ref 2), some (.tup (cs.map CR.d)), some (.ref (a + 3)), x4, some (.ref (a + 4)), some (.int clock), x7, some (.ref (b + 3)), some (.ref (c + 3)), some (.tup (ds.map CR.d)), x11, x12, x13, none]
def LpC (ns : List Int) (cs ds : List CR) (a b c : Nat) (x4 x7 : Option DV) (clock : Int) (qs : List Int) (o : List Nat) (e : DL.Env) (s : Sto) : Prop := ∃ (p : PS) (G : Sto) (x11 x13 : Option DV), s = p.st ++ G ∧ OkP p ∧ G[c]? = some (.lst (qs.map DV.int)) ∧ e = [some (.scr (ns.map DV.int)), some (.ref 2), some (.tup (cs.map CR.d)), some (.ref (a + 3)), x4, some (.ref (a + 4)), some (.int clock), x7, some (.ref (b + 3)), some (.ref (c + 3)), some (.tup (ds.map CR.d)), x11, some (nsD o), x13, none]
def LpD (ns : List Int) (cs ds : List CR) (a b c : Nat) (x4 x7 : Option DV) (clock : Int) (qs : List Int) (e : DL.Env) (s : Sto) : Prop := ∃ (p : PS) (G : Sto) (x11 x12 x13 x14 : Option DV), s = p.st ++ G ∧ OkP p ∧ G[c]? = some (.lst (qs.map DV.int)) ∧ e = [some (.scr (ns.map DV.int)), some (.ref 2), some (.tup (cs.map CR.d)), some (.ref (a + 3)), x4, some (.ref (a + 4)), some (.int clock), x7, some (.ref (b + 3)), some (.ref (c + 3)), some (.tup (ds.map CR.d)), x11, x12, x13, x14]
theorem calls_V0 {p : PS} (ok : OkP p) {most things : Int} (hm : 1 ≤ most ∧ most ≤ 5) (ht : 1 ≤ things ∧ things ≤ 2) {Q : DV → Sto → Prop} (q : ∀ nat cs p', OkP p' → Hist things nat cs → Q (.tup (cs.map CR.d)) (p'.st ++ [])) : V (G__law_calls [.ref 2, .int most, .int things] p.st) Q := by
  have := calls_V ok (g := []) hm ht q
  rwa [List.append_nil] at this
theorem if_skip {ta : ME Bool} {s1 : MS} {e : DL.Env} {st s : Sto} {U : Fl → DL.Env → Sto → Prop} (h : V (ta e st) fun b s' => b = false ∧ s' = s) (q : U .nx e s) : W (sIf ta s1 sSkip e st) U := by
  obtain ⟨_, _, h1, rfl, rfl⟩ := h
  rw [DL.w_if, h1, V_some, cd_f, DL.w_skip]
  exact q
theorem law_true (ns : List Int) (hn : ns.length ≤ 63) : V (F_law [.scr (ns.map DV.int)] []) fun d _ => d = .bl true := by
  obtain ⟨p0, hp0, ok0⟩ := p_pool hn
  simp -dsimp [F_law, m_law, hp0]
  refine calls_V0 ok0 (by decide) (by decide) fun nat cs p1 ok1 H => ?_
  have htl : ∀ i, (timesOf (cs.take i)).length ≤ 10 := fun i => by
    have h5 : (cs.take i).length ≤ 5 := by have := H.len; rw [List.length_take]; omega
    have : ∀ l : List CR, (timesOf l).length ≤ 2 * l.length := fun l => by
      unfold timesOf
      induction l with
      | nil => simp
      | cons c r ih =>
        rw [List.flatMap_cons, List.length_append, List.length_cons]
        have : (finL c).length ≤ 1 := by unfold finL; split <;> simp
        simp only [List.length_cons]
        omega
    have := this (cs.take i)
    omega
  simp -dsimp

  refine for_W (fun i e s => ∃ (G : Sto) (l : Nat) (x4 : Option DV), s = p1.st ++ G ∧ G[l]? = some (.lst ((timesOf (cs.take i)).map DV.int)) ∧ e = [some (.scr (ns.map DV.int)), some (.ref 2), some (.tup (cs.map CR.d)), some (.ref (l + 3)), x4, none, none, none, none, none, none, none, none, none, none]) ⟨[.lst []], 0, none, by simp, rfl, by simp⟩ (fun _ _ _ _ => trivial) (fun i d e s hd hp => ?_) (fun e s hp => ?_)
  · obtain ⟨G, l, x4, rfl, hG, rfl⟩ := hp
    rw [List.getElem?_map] at hd
    obtain ⟨c, hc, rfl⟩ := Option.map_eq_some_iff.mp hd
    have hz : (timesOf (cs.take i)).length + (1 + (finL c).length) ≤ LIM := by
      have h1 : (finL c).length ≤ 1 := by unfold finL; split <;> simp
      have := htl i
      show _ ≤ 100000
      omega
    have ht : timesOf (cs.take (i + 1)) = timesOf (cs.take i) ++ (c.beg :: finL c) := by
      rw [List.take_add_one, hc]
      exact times_snoc _ _
    have hG2 : ∀ v : Sto, (G ++ v)[l]? = some (.lst ((timesOf (cs.take i)).map DV.int)) := fun v => app_old hG
    rw [ht]
    cases hf : c.fin with
    | none =>
      simp only [finL, hf, List.length_nil, Nat.add_zero] at hz
      simp -dsimp [CR.d, cut_from, lc_cons, lc_nil, hf, finL, hG2, app_get0, hz]
    | some f =>
      simp only [finL, hf, List.length_singleton] at hz
      simp -dsimp [CR.d, cut_from, lc_cons, lc_nil, hf, finL, hG2, app_get0, hz]
  obtain ⟨G, l, x4, rfl, hG, rfl⟩ := hp
  rw [List.length_map, List.take_length] at hG
  have ht10 : (timesOf cs).length ≤ 10 := by have := htl cs.length; rwa [List.take_length] at this
  have hu10 := usort_len (timesOf cs)
  have hz1 : (usort (timesOf cs)).length < 64 ∧ (timesOf cs).length ≤ 4000 := by omega
  simp -dsimp [hG, hz1]
  have hmem : ∀ x, x ∈ usort (timesOf cs) ↔ x ∈ timesOf cs := fun x => usort_mem
  have hpw := usort_pw (timesOf cs)
  generalize usort (timesOf cs) = us at hz1 hmem hpw hu10
  obtain ⟨A, hA⟩ : ∃ A, A = G ++ [DO.lst (us.map DV.int), DO.dct []] := ⟨_, rfl⟩
  have a0 : A[G.length]? = some (.lst (us.map DV.int)) := by rw [hA, app_get0]; rfl
  have a1 : A[G.length + 1]? = some (.dct []) := by rw [hA, app_get]; rfl
  rw [← hA]
  generalize G.length = a at a0 a1
  clear hA hG G
  refine draw_V ok1 (by decide) (by decide) fun v p2 ok2 v0 v1 => ?_
  simp -dsimp [a0]

  refine for_W (fun i e s => LpA ns us cs a x4 i e s) ⟨p2, A, [], v, none, rfl, ok2, a0, a1, Nat.le_refl _, later_nil _ _, v0, by omega, rfl⟩ (fun i e s hp => ?_) (fun i d e s hd hp => ?_) (fun e s hp => ?_)
  · obtain ⟨p, G, S, clock, x7, rfl, ok, g0, g1, hS, hL, c0, c1, rfl⟩ := hp
    simp -dsimp [g0]
  · obtain ⟨p, G, S, clock, x7, rfl, ok, g0, g1, hS, hL, c0, c1, rfl⟩ := hp
    rw [List.getElem?_map] at hd
    obtain ⟨t, hti, rfl⟩ := Option.map_eq_some_iff.mp hd
    have hilt := (List.getElem?_eq_some_iff.mp hti).1
    simp -dsimp
    refine draw_V ok (by decide) (by decide) fun w p' ok' w0 w1 => ?_
    have hz3 : S.length < LIM := by show _ < 100000; omega
    have hset := gset_dct (st := p'.st ++ G) (l := a + 4) (y := .int t) (d := .int (clock + 1 + w)) (kvs := encG DV.int S) (by rw [ps_get]; exact g1) keyD_int (by rw [encG_len]; exact hz3)
    have hput := put_encG DV.int S t (clock + 1 + w)
    simp -dsimp
    simp -dsimp only [hset, hput, P1_some, ps_set]
    simp -dsimp
    have hsn := hL.snoc (t := t) (c := clock + 1 + w) c0 (fun u hu => by
      obtain ⟨j, hj⟩ := List.getElem?_of_mem hu
      have hji : j < i := by
        have := (List.getElem?_eq_some_iff.mp hj).1
        rw [List.length_take] at this
        omega
      rw [List.getElem?_take_of_lt hji] at hj
      obtain ⟨h1, rfl⟩ := List.getElem?_eq_some_iff.mp hj
      obtain ⟨h2, rfl⟩ := List.getElem?_eq_some_iff.mp hti
      exact List.pairwise_iff_getElem.mp hpw j i h1 h2 hji) (by omega)
    have htake : us.take (i + 1) = us.take i ++ [t] := by rw [List.take_add_one, hti]; rfl
    have hlen := (List.getElem?_eq_some_iff.mp g1).1
    refine ⟨p', _, putG S t (clock + 1 + w), clock + 1 + w, _, rfl, ok', ?_, List.getElem?_set_self hlen, ?_, by rw [htake]; exact hsn, by omega, by omega, rfl⟩
    · rw [List.getElem?_set_ne (by omega)]; exact g0
    · have := putG_len S t (clock + 1 + w); omega
  obtain ⟨p, G, S, clock, x7, rfl, ok, g0, g1, hS, hL, c0, c1, rfl⟩ := hp
  rw [List.length_map] at hS c1 hL
  rw [List.take_length] at hL
  have hc1000 : ¬ 1000 < clock := by omega
  have hz4 : S.length < LIM := by show _ < 100000; omega
  have hset := setN_at (d := .non) (st := p.st ++ G) (l := a + 4) (S := S) (by rw [ps_get]; exact g1) hz4
  simp -dsimp [hset, ps_set]
  obtain ⟨B, hB⟩ : ∃ B, B = G.set (a + 1) (.dcn (encG DV.int S) .non) := ⟨_, rfl⟩
  have b1 : B[a + 1]? = some (.dcn (encG DV.int S) .non) := by rw [hB]; exact List.getElem?_set_self (List.getElem?_eq_some_iff.mp g1).1
  rw [← hB]
  have hB' := hB
  clear hset hB g0 g1
  have hBl : B.length = G.length := by rw [hB', List.length_set]
  refine shuf_V (l := G.length) (ns := [1, 2, 3, 4, 5, 6, 7, 8, 9]) ok (by rw [← hBl]; exact app_get0) (by decide) fun hs p3 ok3 hperm => ?_
  simp -dsimp [hBl]
  refine shuf_V (l := G.length + 2) (ns := [0, 1, 2, 3, 4, 5, 6, 7, 8, 9]) ok3 (by rw [← hBl, app_get]; rfl) (by decide) fun qs p4 ok4 qperm => ?_
  simp -dsimp [hBl]
  obtain ⟨C, hC⟩ : ∃ C, C = B ++ [DO.lst [DV.int 1, DV.int 2, DV.int 3, DV.int 4, DV.int 5, DV.int 6, DV.int 7, DV.int 8, DV.int 9], DO.lst (hs.map DV.int), DO.lst [DV.int 0, DV.int 1, DV.int 2, DV.int 3, DV.int 4, DV.int 5, DV.int 6, DV.int 7, DV.int 8, DV.int 9], DO.lst (qs.map DV.int)] := ⟨_, rfl⟩
  have cb : C[G.length + 1]? = some (.lst (hs.map DV.int)) := by rw [hC, ← hBl, app_get]; rfl
  have cc : C[G.length + 3]? = some (.lst (qs.map DV.int)) := by rw [hC, ← hBl, app_get]; rfl
  have ca : C[a + 1]? = some (.dcn (encG DV.int S) .non) := by rw [hC]; exact app_old b1
  rw [← hC]
  generalize G.length + 1 = b at cb
  generalize G.length + 3 = c at cc
  clear hC hBl b1 hB'
  clear B
  obtain ⟨h, hh⟩ : ∃ h : Int → Int, h = fun x => hs[x.toNat]?.getD 0 := ⟨_, rfl⟩
  obtain ⟨q, hq⟩ : ∃ q : Int → Int, q = fun x => qs[x.toNat]?.getD 0 := ⟨_, rfl⟩
  obtain ⟨g, hg⟩ : ∃ g : Int → Int, g = fun x => (lookG S x).getD 0 := ⟨_, rfl⟩
  have hhl : hs.length = 9 := hperm.length_eq
  have hql : qs.length = 10 := qperm.length_eq
  have hat : ∀ x : Int, 0 ≤ x → x ≤ 8 → hs[x.toNat]? = some (h x) := fun x x0 x1 => by
    rw [hh]; simp only; rw [List.getElem?_eq_getElem (by omega)]; rfl
  have qat : ∀ x : Int, 0 ≤ x → x ≤ 9 → qs[x.toNat]? = some (q x) := fun x x0 x1 => by
    rw [hq]; simp only; rw [List.getElem?_eq_getElem (by omega)]; rfl
  have gat : ∀ x ∈ timesOf cs, lookG S x = some (g x) ∧ 0 ≤ g x ∧ g x ≤ 1000 := fun x hx => by
    obtain ⟨v, h1, h2, h3⟩ := hL.get x ((hmem x).mpr hx)
    have e : g x = v := by rw [hg]; simp only [h1]; rfl
    rw [h1, e]
    exact ⟨rfl, h2, by omega⟩
  have T : TrOk cs h q g := by
    constructor
    · intro c hc
      have := H.one c hc
      have hm := hperm.mem_iff.mp (List.mem_of_getElem? (hat c.hand (by omega) (by omega)))
      simp only [List.mem_cons, List.not_mem_nil, or_false] at hm
      omega
    · intro c hc d hd e
      have h1 := H.one c hc
      have h2 := H.one d hd
      rw [hh] at e
      have := perm_at hperm (by decide) (i := c.hand.toNat) (j := d.hand.toNat) (by simp only [List.length_cons, List.length_nil]; omega) (by simp only [List.length_cons, List.length_nil]; omega) e
      omega
    · intro c hc
      have := H.one c hc
      have hm := qperm.mem_iff.mp (List.mem_of_getElem? (qat c.thing (by omega) (by omega)))
      simp only [List.mem_cons, List.not_mem_nil, or_false] at hm
      omega
    · intro c hc d hd e
      have h1 := H.one c hc
      have h2 := H.one d hd
      rw [hq] at e
      have := perm_at qperm (by decide) (i := c.thing.toNat) (j := d.thing.toNat) (by simp only [List.length_cons, List.length_nil]; omega) (by simp only [List.length_cons, List.length_nil]; omega) e
      omega
    · exact fun x hx => (gat x hx).2
    · intro x hx y hy hxy
      exact hL.mono x ((hmem x).mpr hx) y ((hmem y).mpr hy) hxy _ _ (gat x hx).1 (gat y hy).1
  have qi : ∀ x y : Int, 0 ≤ x → x ≤ 1 → 0 ≤ y → y ≤ 1 → q x = q y → x = y := fun x y x0 x1 y0 y1 e => by
    rw [hq] at e
    have := perm_at qperm (by decide) (i := x.toNat) (j := y.toNat) (by simp only [List.length_cons, List.length_nil]; omega) (by simp only [List.length_cons, List.length_nil]; omega) e
    omega
  refine lc_map cs CR.d (fun c => (tr h q g c).d) rfl trivial (fun x hx => ?_) ?_
  · obtain ⟨a1, a2, a3, a4, a5, a6, a7, a8, a9, a10, a11⟩ := H.one x hx
    have e1 := hat x.hand (by omega) (by omega)
    have e2 := qat x.thing (by omega) (by omega)
    have e3 : ∀ st : Sto, st[a + 4]? = some (.dcn (encG DV.int S) .non) → gNGet (.ref (a + 4)) (.int x.beg) st = some (.int (g x.beg), st) := fun st hst => by
      have := nget_at (some x.beg) hst
      simp only [(gat _ (beg_mem hx)).1] at this
      exact this
    have e4 : ∀ st : Sto, st[a + 4]? = some (.dcn (encG DV.int S) .non) → gNGet (.ref (a + 4)) (oI x.fin) st = some (oI (x.fin.map g), st) := fun st hst => by
      have := nget_at x.fin hst
      cases hf : x.fin with
      | none => rw [hf] at this; exact this
      | some f =>
        rw [hf] at this
        simp only [(gat _ (fin_mem hx hf)).1] at this
        exact this
    have f3 := e3 (p4.st ++ C) (by rw [ps_get]; exact ca)
    have f4 := e4 (p4.st ++ C) (by rw [ps_get]; exact ca)
    have h0 : 0 ≤ x.hand := by omega
    have t0 : 0 ≤ x.thing := a3
    simp -dsimp [CR.d, at_nat, cb, cc, h0, t0, e1, e2, f3, f4, DL.cutD, HT.sIx, LIM, tr]
  obtain ⟨ds, hds⟩ : ∃ ds, ds = cs.map (tr h q g) := ⟨_, rfl⟩
  have hdm : cs.map (fun c => (tr h q g c).d) = ds.map CR.d := by rw [hds, List.map_map]; rfl
  rw [hdm]
  have hlen : ds.length = cs.length := by rw [hds, List.length_map]
  have h5 := H.len
  have F1 : ∀ st, G_fault [.tup (cs.map CR.d)] st = some (.non, st) := fun st => p_fault (okh_hist H (by decide)) (by omega) st
  have F2 : ∀ st, G_fault [.tup (ds.map CR.d)] st = some (.non, st) := fun st => p_fault (by rw [hds]; exact okh_tr H T) (by omega) st
  have R : Ren cs ds q := by rw [hds]; exact ren_tr T
  have one : ∀ c ∈ cs, c.kind = nat c.thing ∧ c.kind ∈ kinds5 ∧ 0 ≤ c.arg ∧ c.arg ≤ 99 := fun c hc => by
    obtain ⟨a1, a2, a3, a4, a5, a6, _⟩ := H.one c hc
    exact ⟨a5, by rw [a5]; exact H.kinds _, a6.2.1, a6.2.2.1⟩
  have C1 : OkCs cs nat := ⟨one, by omega⟩
  have C2 : OkCs ds (fun t => if t = q 0 then nat 0 else nat 1) := ⟨fun d hd => by
    rw [hds] at hd
    obtain ⟨c, hc, rfl⟩ := List.mem_map.mp hd
    obtain ⟨o1, o2, o3⟩ := one c hc
    obtain ⟨_, _, a3, a4, _⟩ := H.one c hc
    refine ⟨?_, o2, o3⟩
    show c.kind = if q c.thing = q 0 then nat 0 else nat 1
    by_cases e : c.thing = 0
    · rw [o1, e, if_pos rfl]
    · rw [if_neg (fun z => e (qi _ _ a3 (by omega) (by decide) (by decide) z)), o1, show c.thing = 1 by omega], by omega⟩
  have X1 : ∀ bt st, G_explained [.tup (cs.map CR.d), .bl bt] st = some (oT (srch cs bt 12 [] []), st) := fun bt st => p_explained C1 bt st
  have X2 : ∀ bt st, G_explained [.tup (ds.map CR.d), .bl bt] st = some (oT (srch cs bt 12 [] []), st) := fun bt st => by
    rw [p_explained C2, srch_ren R 12 [] [] [] fun _ _ => rfl]
  have I1 : ∀ st, G_is_linear [.tup (cs.map CR.d)] st = some (.bl (srch cs true 12 [] []).isSome, st) := fun st => p_is_linear C1 st
  have I2 : ∀ st, G_is_linear [.tup (ds.map CR.d)] st = some (.bl (srch cs true 12 [] []).isSome, st) := fun st => by
    rw [p_is_linear C2, srch_ren R 12 [] [] [] fun _ _ => rfl]
  have J1 : ∀ st, G_is_in_turn [.tup (cs.map CR.d)] st = some (.bl (srch cs false 12 [] []).isSome, st) := fun st => p_is_in_turn C1 st
  have J2 : ∀ st, G_is_in_turn [.tup (ds.map CR.d)] st = some (.bl (srch cs false 12 [] []).isSome, st) := fun st => by
    rw [p_is_in_turn C2, srch_ren R 12 [] [] [] fun _ _ => rfl]
  have hsh : ∀ bt l, srch cs bt 12 [] [] = some l → l.length ≤ 1000 := fun bt l hl => by
    have h1 := srch_short 12 [] [] l hl
    have h2 : (leftOf cs.length []).length = cs.length := left_len
    simp only [List.length_nil] at h1
    omega
  simp -dsimp [hc1000, F1, F2]
  refine V_of (p_same (n := 1) (.lst (n := 0) (xs := [.non, .non]) (ys := [.non, .non]) (by simp) (by simp) rfl (by simp) (same_two (.non 0) (.non 0))) (by decide)) ?_
  simp -dsimp [X1, X2, I1, I2, J1, J2]
  refine V_of (p_same (n := 2) (.lst (n := 1) (xs := [oT (srch cs true 12 [] []), oT (srch cs false 12 [] []), .bl (srch cs true 12 [] []).isSome, .bl (srch cs false 12 [] []).isSome]) (ys := [oT (srch cs true 12 [] []), oT (srch cs false 12 [] []), .bl (srch cs true 12 [] []).isSome, .bl (srch cs false 12 [] []).isSome]) (by simp) (by simp) rfl (by simp) (same_self fun x hx => by
    simp only [List.mem_cons, List.not_mem_nil, or_false] at hx
    rcases hx with rfl | rfl | rfl | rfl
    · exact same_oT (hsh _)
    · exact same_oT (hsh _)
    · exact .bl _ _
    · exact .bl _ _)) (by decide)) ?_
  have hr4 : okR 0 4 = true := by decide
  have hr2 : okR 0 2 = true := by decide
  have hrn : okR 0 (cs.length : Int) = true := by simp [okR]; omega
  simp -dsimp [hr4]
  obtain ⟨D, hD⟩ : ∃ D, D = C ++ [DO.lst [DV.non, DV.non], DO.lst [DV.non, DV.non], DO.lst [oT (srch cs true 12 [] []), oT (srch cs false 12 [] []), DV.bl (srch cs true 12 [] []).isSome, DV.bl (srch cs false 12 [] []).isSome], DO.lst [oT (srch cs true 12 [] []), oT (srch cs false 12 [] []), DV.bl (srch cs true 12 [] []).isSome, DV.bl (srch cs false 12 [] []).isSome]] := ⟨_, rfl⟩
  rw [← hD]
  have dc : D[c]? = some (.lst (qs.map DV.int)) := by rw [hD]; exact app_old cc
  refine for_W (fun i e s => LpB ns cs ds a b c x4 x7 clock qs e s) ⟨p4, D, none, none, none, rfl, ok4, dc, rfl⟩ (fun _ _ _ _ => trivial) (fun i d e s hd hp => ?_) (fun e s hp => ?_)
  · obtain ⟨hi, rfl⟩ := rgD_get (n := 4) hd
    obtain ⟨p, G, x11, x12, x13, rfl, ok, gc, rfl⟩ := hp
    simp -dsimp [hrn]
    have hrg : rgD 0 (cs.length : Int) = ((List.range cs.length).map fun (k : Nat) => (k : Int)).map DV.int := by rw [rgD_map, List.map_map]; rfl
    refine shuf_V (l := G.length) (ns := (List.range cs.length).map fun (k : Nat) => (k : Int)) ok (by rw [app_get0, hrg]; rfl) (by simp; omega) fun ms p5 ok5 mperm => ?_
    simp -dsimp
    refine draw_V ok5 (by decide) (by decide) fun v p6 ok6 v0 v1 => ?_
    obtain ⟨m, hm⟩ := cut_take (xs := ms.map DV.int) ((cs.length : Int) - v)
    obtain ⟨o, ho1, ho2, ho3, ho4⟩ := nats_of mperm m
    have hcut : cutD (ms.map DV.int) none (some ((cs.length : Int) - v)) = o.map (fun (k : Nat) => DV.int k) := by rw [hm, ← List.map_take, ho1]
    have hG1 : ∀ u : Sto, (G ++ (DO.lst (rgD 0 (cs.length : Int)) :: DO.lst (ms.map DV.int) :: u))[G.length + 1]? = some (.lst (ms.map DV.int)) := fun u => by rw [app_get]; rfl
    simp -dsimp [hG1, hcut]
    obtain ⟨G2, hG2⟩ : ∃ G2, G2 = G ++ [DO.lst (rgD 0 (cs.length : Int)), DO.lst (ms.map DV.int), DO.lst (o.map (fun (k : Nat) => DV.int k))] := ⟨_, rfl⟩
    have hlast : ∀ u : Sto, (G ++ (DO.lst (rgD 0 (cs.length : Int)) :: DO.lst (ms.map DV.int) :: DO.lst (o.map (fun (k : Nat) => DV.int k)) :: u))[G.length + 2]? = some (.lst (o.map (fun (k : Nat) => DV.int k))) := fun u => by rw [app_get]; rfl

    rw [← hG2]
    have gc2 : G2[c]? = some (.lst (qs.map DV.int)) := by rw [hG2]; exact app_old gc
    refine for_W (fun i2 e s => LpC ns cs ds a b c x4 x7 clock qs o e s) ⟨p6, G2, _, _, rfl, ok6, gc2, rfl⟩ (fun _ _ _ _ => trivial) (fun i2 d e s hd hp => ?_) (fun e s hp => ?_)
    · obtain ⟨p, G, x11, x13, rfl, ok, gc, rfl⟩ := hp
      have hbt : ∃ bt, d = .bl bt := by
        match i2, hd with
        | 0, hd => cases hd; exact ⟨_, rfl⟩
        | 1, hd => cases hd; exact ⟨_, rfl⟩
      obtain ⟨bt, rfl⟩ := hbt
      have hO1 : ∀ st, G_order_fault [.tup (cs.map CR.d), nsD o, .bl bt] st = some (oF (ofV cs o bt), st) := fun st => p_order_fault C1 bt ho2 ho3 (by omega) st
      have hO2 : ∀ st, G_order_fault [.tup (ds.map CR.d), nsD o, .bl bt] st = some (oF (ofV cs o bt), st) := fun st => by
        rw [p_order_fault C2 bt ho2 (fun k hk => by rw [hlen]; exact ho3 k hk) (by omega), ofV_ren R]
      simp -dsimp [hO1, hO2]
      refine V_of (p_same (same_oF _) (by decide)) ?_
      simp -dsimp
      exact ⟨p, G, _, _, rfl, ok, gc, rfl⟩
    · obtain ⟨p, G, x11, x13, rfl, ok, gc, rfl⟩ := hp
      simp -dsimp
      exact ⟨p, G, _, _, _, rfl, ok, gc, rfl⟩
  obtain ⟨p, G, x11, x12, x13, rfl, ok, gc, rfl⟩ := hp
  simp -dsimp [hr2]
  refine for_W (fun i e s => LpD ns cs ds a b c x4 x7 clock qs e s) ⟨p, G, _, _, _, none, rfl, ok, gc, rfl⟩ (fun _ _ _ _ => trivial) (fun i d e s hd hp => ?_) (fun e s hp => ?_)
  · obtain ⟨hi, rfl⟩ := rgD_get (n := 2) hd
    obtain ⟨p, G, x11, x12, x13, x14, rfl, ok, gc, rfl⟩ := hp
    have hqi : qs[i]? = some (q i) := by have := qat (i : Int) (by omega) (by omega); rwa [Int.toNat_natCast] at this
    have hcnt : (ds.filter fun c => decide (c.thing = q i)).length = (cs.filter fun c => decide (c.thing = (i : Int))).length := by
      rw [hds, List.filter_map, List.length_map]
      congr 1
      refine List.filter_congr fun c hc => ?_
      obtain ⟨_, _, a3, a4, _⟩ := H.one c hc
      exact decide_eq_decide.mpr ⟨fun e => qi _ _ a3 (by omega) (by omega) (by omega) e, fun e => by show q c.thing = q i; rw [e]⟩
    simp -dsimp [gc, atI_ofNat, hqi, p_of_object, hcnt]
    exact ⟨p, G, _, _, _, _, rfl, ok, gc, rfl⟩
  · obtain ⟨p, G, x11, x12, x13, x14, rfl, ok, gc, rfl⟩ := hp
    simp -dsimp

theorem the_law (ns : List Int) (hn : ns.length ≤ 63) : ∃ st', G_law [.scr (ns.map DV.int)] [] = some (.bl true, st') := by
  obtain ⟨_, st', h, rfl⟩ := law_true ns hn
  exact ⟨st', h⟩

end Law
namespace Law
open PySem PySem.Spec PyProof.Rows L2 DL

theorem all_mk {w : World} {K : PySem.W.Frag} {h : Heap} {mg : Str → Option Value} {fa : Addr} (X : K.In h) (G : h.Ns mainGlobals mg) (hfa : mg "law" = some (.ref fa))
    {fa0 : Addr} {od0 an0 : Option Addr} {sl0 : Array (Option Value)} {oc0 kV0 dc0 pm0 cd0 ct0 : Value} (a0 : PySem.W.nsIn K mainGlobals "is_whole" = some (some (.ref fa0))) (l0 : K.lookup fa0 = some ⟨oc0, od0, .func (PySem.W.fnOf "is_whole" "is_whole" (defArgs (topS 3)) (defBody (topS 3)) (defScope (topS 3)) .none kV0 dc0 pm0 an0 cd0 ct0), sl0⟩) (c0 : PySem.W.codeIn K cd0 "is_whole" = true) (k0 : PySem.W.keepIn K (.ref fa0) = true)
    {fa1 : Addr} {od1 an1 : Option Addr} {sl1 : Array (Option Value)} {oc1 kV1 dc1 pm1 cd1 ct1 : Value} (a1 : PySem.W.nsIn K mainGlobals "is_from" = some (some (.ref fa1))) (l1 : K.lookup fa1 = some ⟨oc1, od1, .func (PySem.W.fnOf "is_from" "is_from" (defArgs (topS 4)) (defBody (topS 4)) (defScope (topS 4)) .none kV1 dc1 pm1 an1 cd1 ct1), sl1⟩) (c1 : PySem.W.codeIn K cd1 "is_from" = true) (k1 : PySem.W.keepIn K (.ref fa1) = true)
    {fa2 : Addr} {od2 an2 : Option Addr} {sl2 : Array (Option Value)} {oc2 kV2 dc2 pm2 cd2 ct2 : Value} (a2 : PySem.W.nsIn K mainGlobals "first_true" = some (some (.ref fa2))) (l2 : K.lookup fa2 = some ⟨oc2, od2, .func (PySem.W.fnOf "first_true" "first_true" (defArgs (topS 5)) (defBody (topS 5)) (defScope (topS 5)) .none kV2 dc2 pm2 an2 cd2 ct2), sl2⟩) (c2 : PySem.W.codeIn K cd2 "first_true" = true) (k2 : PySem.W.keepIn K (.ref fa2) = true)
    {fa3 : Addr} {od3 an3 : Option Addr} {sl3 : Array (Option Value)} {oc3 kV3 dc3 pm3 cd3 ct3 : Value} (a3 : PySem.W.nsIn K mainGlobals "is_call_of" = some (some (.ref fa3))) (l3 : K.lookup fa3 = some ⟨oc3, od3, .func (PySem.W.fnOf "is_call_of" "is_call_of" (defArgs (topS 9)) (defBody (topS 9)) (defScope (topS 9)) .none kV3 dc3 pm3 an3 cd3 ct3), sl3⟩) (c3 : PySem.W.codeIn K cd3 "is_call_of" = true) (k3 : PySem.W.keepIn K (.ref fa3) = true)
    {fa4 : Addr} {od4 an4 : Option Addr} {sl4 : Array (Option Value)} {oc4 kV4 dc4 pm4 cd4 ct4 : Value} (a4 : PySem.W.nsIn K mainGlobals "begin" = some (some (.ref fa4))) (l4 : K.lookup fa4 = some ⟨oc4, od4, .func (PySem.W.fnOf "begin" "begin" (defArgs (topS 10)) (defBody (topS 10)) (defScope (topS 10)) .none kV4 dc4 pm4 an4 cd4 ct4), sl4⟩) (c4 : PySem.W.codeIn K cd4 "begin" = true) (k4 : PySem.W.keepIn K (.ref fa4) = true)
    {fa5 : Addr} {od5 an5 : Option Addr} {sl5 : Array (Option Value)} {oc5 kV5 dc5 pm5 cd5 ct5 : Value} (a5 : PySem.W.nsIn K mainGlobals "cell_call" = some (some (.ref fa5))) (l5 : K.lookup fa5 = some ⟨oc5, od5, .func (PySem.W.fnOf "cell_call" "cell_call" (defArgs (topS 11)) (defBody (topS 11)) (defScope (topS 11)) .none kV5 dc5 pm5 an5 cd5 ct5), sl5⟩) (c5 : PySem.W.codeIn K cd5 "cell_call" = true) (k5 : PySem.W.keepIn K (.ref fa5) = true)
    {fa6 : Addr} {od6 an6 : Option Addr} {sl6 : Array (Option Value)} {oc6 kV6 dc6 pm6 cd6 ct6 : Value} (a6 : PySem.W.nsIn K mainGlobals "counter_call" = some (some (.ref fa6))) (l6 : K.lookup fa6 = some ⟨oc6, od6, .func (PySem.W.fnOf "counter_call" "counter_call" (defArgs (topS 12)) (defBody (topS 12)) (defScope (topS 12)) .none kV6 dc6 pm6 an6 cd6 ct6), sl6⟩) (c6 : PySem.W.codeIn K cd6 "counter_call" = true) (k6 : PySem.W.keepIn K (.ref fa6) = true)
    {fa7 : Addr} {od7 an7 : Option Addr} {sl7 : Array (Option Value)} {oc7 kV7 dc7 pm7 cd7 ct7 : Value} (a7 : PySem.W.nsIn K mainGlobals "line_call" = some (some (.ref fa7))) (l7 : K.lookup fa7 = some ⟨oc7, od7, .func (PySem.W.fnOf "line_call" "line_call" (defArgs (topS 13)) (defBody (topS 13)) (defScope (topS 13)) .none kV7 dc7 pm7 an7 cd7 ct7), sl7⟩) (c7 : PySem.W.codeIn K cd7 "line_call" = true) (k7 : PySem.W.keepIn K (.ref fa7) = true)
    {fa8 : Addr} {od8 an8 : Option Addr} {sl8 : Array (Option Value)} {oc8 kV8 dc8 pm8 cd8 ct8 : Value} (a8 : PySem.W.nsIn K mainGlobals "pile_call" = some (some (.ref fa8))) (l8 : K.lookup fa8 = some ⟨oc8, od8, .func (PySem.W.fnOf "pile_call" "pile_call" (defArgs (topS 14)) (defBody (topS 14)) (defScope (topS 14)) .none kV8 dc8 pm8 an8 cd8 ct8), sl8⟩) (c8 : PySem.W.codeIn K cd8 "pile_call" = true) (k8 : PySem.W.keepIn K (.ref fa8) = true)
    {fa9 : Addr} {od9 an9 : Option Addr} {sl9 : Array (Option Value)} {oc9 kV9 dc9 pm9 cd9 ct9 : Value} (a9 : PySem.W.nsIn K mainGlobals "set_call" = some (some (.ref fa9))) (l9 : K.lookup fa9 = some ⟨oc9, od9, .func (PySem.W.fnOf "set_call" "set_call" (defArgs (topS 15)) (defBody (topS 15)) (defScope (topS 15)) .none kV9 dc9 pm9 an9 cd9 ct9), sl9⟩) (c9 : PySem.W.codeIn K cd9 "set_call" = true) (k9 : PySem.W.keepIn K (.ref fa9) = true)
    {fa10 : Addr} {od10 an10 : Option Addr} {sl10 : Array (Option Value)} {oc10 kV10 dc10 pm10 cd10 ct10 : Value} (a10 : PySem.W.nsIn K mainGlobals "call" = some (some (.ref fa10))) (l10 : K.lookup fa10 = some ⟨oc10, od10, .func (PySem.W.fnOf "call" "call" (defArgs (topS 17)) (defBody (topS 17)) (defScope (topS 17)) .none kV10 dc10 pm10 an10 cd10 ct10), sl10⟩) (c10 : PySem.W.codeIn K cd10 "call" = true) (k10 : PySem.W.keepIn K (.ref fa10) = true)
    {fa11 : Addr} {od11 an11 : Option Addr} {sl11 : Array (Option Value)} {oc11 kV11 dc11 pm11 cd11 ct11 : Value} (a11 : PySem.W.nsIn K mainGlobals "is_call" = some (some (.ref fa11))) (l11 : K.lookup fa11 = some ⟨oc11, od11, .func (PySem.W.fnOf "is_call" "is_call" (defArgs (topS 20)) (defBody (topS 20)) (defScope (topS 20)) .none kV11 dc11 pm11 an11 cd11 ct11), sl11⟩) (c11 : PySem.W.codeIn K cd11 "is_call" = true) (k11 : PySem.W.keepIn K (.ref fa11) = true)
    {fa12 : Addr} {od12 an12 : Option Addr} {sl12 : Array (Option Value)} {oc12 kV12 dc12 pm12 cd12 ct12 : Value} (a12 : PySem.W.nsIn K mainGlobals "fault" = some (some (.ref fa12))) (l12 : K.lookup fa12 = some ⟨oc12, od12, .func (PySem.W.fnOf "fault" "fault" (defArgs (topS 21)) (defBody (topS 21)) (defScope (topS 21)) .none kV12 dc12 pm12 an12 cd12 ct12), sl12⟩) (c12 : PySem.W.codeIn K cd12 "fault" = true) (k12 : PySem.W.keepIn K (.ref fa12) = true)
    {fa13 : Addr} {od13 an13 : Option Addr} {sl13 : Array (Option Value)} {oc13 kV13 dc13 pm13 cd13 ct13 : Value} (a13 : PySem.W.nsIn K mainGlobals "must_come_first" = some (some (.ref fa13))) (l13 : K.lookup fa13 = some ⟨oc13, od13, .func (PySem.W.fnOf "must_come_first" "must_come_first" (defArgs (topS 22)) (defBody (topS 22)) (defScope (topS 22)) .none kV13 dc13 pm13 an13 cd13 ct13), sl13⟩) (c13 : PySem.W.codeIn K cd13 "must_come_first" = true) (k13 : PySem.W.keepIn K (.ref fa13) = true)
    {fa14 : Addr} {od14 an14 : Option Addr} {sl14 : Array (Option Value)} {oc14 kV14 dc14 pm14 cd14 ct14 : Value} (a14 : PySem.W.nsIn K mainGlobals "search" = some (some (.ref fa14))) (l14 : K.lookup fa14 = some ⟨oc14, od14, .func (PySem.W.fnOf "search" "search" (defArgs (topS 24)) (defBody (topS 24)) (defScope (topS 24)) .none kV14 dc14 pm14 an14 cd14 ct14), sl14⟩) (c14 : PySem.W.codeIn K cd14 "search" = true) (k14 : PySem.W.keepIn K (.ref fa14) = true)
    {fa15 : Addr} {od15 an15 : Option Addr} {sl15 : Array (Option Value)} {oc15 kV15 dc15 pm15 cd15 ct15 : Value} (a15 : PySem.W.nsIn K mainGlobals "explained" = some (some (.ref fa15))) (l15 : K.lookup fa15 = some ⟨oc15, od15, .func (PySem.W.fnOf "explained" "explained" (defArgs (topS 23)) (defBody (topS 23)) (defScope (topS 23)) .none kV15 dc15 pm15 an15 cd15 ct15), sl15⟩) (c15 : PySem.W.codeIn K cd15 "explained" = true) (k15 : PySem.W.keepIn K (.ref fa15) = true)
    {fa16 : Addr} {od16 an16 : Option Addr} {sl16 : Array (Option Value)} {oc16 kV16 dc16 pm16 cd16 ct16 : Value} (a16 : PySem.W.nsIn K mainGlobals "order_fault" = some (some (.ref fa16))) (l16 : K.lookup fa16 = some ⟨oc16, od16, .func (PySem.W.fnOf "order_fault" "order_fault" (defArgs (topS 25)) (defBody (topS 25)) (defScope (topS 25)) .none kV16 dc16 pm16 an16 cd16 ct16), sl16⟩) (c16 : PySem.W.codeIn K cd16 "order_fault" = true) (k16 : PySem.W.keepIn K (.ref fa16) = true)
    {fa17 : Addr} {od17 an17 : Option Addr} {sl17 : Array (Option Value)} {oc17 kV17 dc17 pm17 cd17 ct17 : Value} (a17 : PySem.W.nsIn K mainGlobals "of_object" = some (some (.ref fa17))) (l17 : K.lookup fa17 = some ⟨oc17, od17, .func (PySem.W.fnOf "of_object" "of_object" (defArgs (topS 26)) (defBody (topS 26)) (defScope (topS 26)) .none kV17 dc17 pm17 an17 cd17 ct17), sl17⟩) (c17 : PySem.W.codeIn K cd17 "of_object" = true) (k17 : PySem.W.keepIn K (.ref fa17) = true)
    {fa18 : Addr} {od18 an18 : Option Addr} {sl18 : Array (Option Value)} {oc18 kV18 dc18 pm18 cd18 ct18 : Value} (a18 : PySem.W.nsIn K mainGlobals "is_linear" = some (some (.ref fa18))) (l18 : K.lookup fa18 = some ⟨oc18, od18, .func (PySem.W.fnOf "is_linear" "is_linear" (defArgs (topS 27)) (defBody (topS 27)) (defScope (topS 27)) .none kV18 dc18 pm18 an18 cd18 ct18), sl18⟩) (c18 : PySem.W.codeIn K cd18 "is_linear" = true) (k18 : PySem.W.keepIn K (.ref fa18) = true)
    {fa19 : Addr} {od19 an19 : Option Addr} {sl19 : Array (Option Value)} {oc19 kV19 dc19 pm19 cd19 ct19 : Value} (a19 : PySem.W.nsIn K mainGlobals "is_in_turn" = some (some (.ref fa19))) (l19 : K.lookup fa19 = some ⟨oc19, od19, .func (PySem.W.fnOf "is_in_turn" "is_in_turn" (defArgs (topS 28)) (defBody (topS 28)) (defScope (topS 28)) .none kV19 dc19 pm19 an19 cd19 ct19), sl19⟩) (c19 : PySem.W.codeIn K cd19 "is_in_turn" = true) (k19 : PySem.W.keepIn K (.ref fa19) = true)
    {fa20 : Addr} {od20 an20 : Option Addr} {sl20 : Array (Option Value)} {oc20 kV20 dc20 pm20 cd20 ct20 : Value} (a20 : PySem.W.nsIn K mainGlobals "_law_same" = some (some (.ref fa20))) (l20 : K.lookup fa20 = some ⟨oc20, od20, .func (PySem.W.fnOf "_law_same" "_law_same" (defArgs (topS 30)) (defBody (topS 30)) (defScope (topS 30)) .none kV20 dc20 pm20 an20 cd20 ct20), sl20⟩) (c20 : PySem.W.codeIn K cd20 "_law_same" = true) (k20 : PySem.W.keepIn K (.ref fa20) = true)
    {fa21 : Addr} {od21 an21 : Option Addr} {sl21 : Array (Option Value)} {oc21 kV21 dc21 pm21 cd21 ct21 : Value} (a21 : PySem.W.nsIn K mainGlobals "_law_pool" = some (some (.ref fa21))) (l21 : K.lookup fa21 = some ⟨oc21, od21, .func (PySem.W.fnOf "_law_pool" "_law_pool" (defArgs (topS 31)) (defBody (topS 31)) (defScope (topS 31)) .none kV21 dc21 pm21 an21 cd21 ct21), sl21⟩) (c21 : PySem.W.codeIn K cd21 "_law_pool" = true) (k21 : PySem.W.keepIn K (.ref fa21) = true)
    {fa22 : Addr} {od22 an22 : Option Addr} {sl22 : Array (Option Value)} {oc22 kV22 dc22 pm22 cd22 ct22 : Value} (a22 : PySem.W.nsIn K mainGlobals "_law_spread" = some (some (.ref fa22))) (l22 : K.lookup fa22 = some ⟨oc22, od22, .func (PySem.W.fnOf "_law_spread" "_law_spread" (defArgs (topS 32)) (defBody (topS 32)) (defScope (topS 32)) .none kV22 dc22 pm22 an22 cd22 ct22), sl22⟩) (c22 : PySem.W.codeIn K cd22 "_law_spread" = true) (k22 : PySem.W.keepIn K (.ref fa22) = true)
    {fa23 : Addr} {od23 an23 : Option Addr} {sl23 : Array (Option Value)} {oc23 kV23 dc23 pm23 cd23 ct23 : Value} (a23 : PySem.W.nsIn K mainGlobals "_law_draw" = some (some (.ref fa23))) (l23 : K.lookup fa23 = some ⟨oc23, od23, .func (PySem.W.fnOf "_law_draw" "_law_draw" (defArgs (topS 33)) (defBody (topS 33)) (defScope (topS 33)) .none kV23 dc23 pm23 an23 cd23 ct23), sl23⟩) (c23 : PySem.W.codeIn K cd23 "_law_draw" = true) (k23 : PySem.W.keepIn K (.ref fa23) = true)
    {fa24 : Addr} {od24 an24 : Option Addr} {sl24 : Array (Option Value)} {oc24 kV24 dc24 pm24 cd24 ct24 : Value} (a24 : PySem.W.nsIn K mainGlobals "_law_pick" = some (some (.ref fa24))) (l24 : K.lookup fa24 = some ⟨oc24, od24, .func (PySem.W.fnOf "_law_pick" "_law_pick" (defArgs (topS 34)) (defBody (topS 34)) (defScope (topS 34)) .none kV24 dc24 pm24 an24 cd24 ct24), sl24⟩) (c24 : PySem.W.codeIn K cd24 "_law_pick" = true) (k24 : PySem.W.keepIn K (.ref fa24) = true)
    {fa25 : Addr} {od25 an25 : Option Addr} {sl25 : Array (Option Value)} {oc25 kV25 dc25 pm25 cd25 ct25 : Value} (a25 : PySem.W.nsIn K mainGlobals "_law_shuffled" = some (some (.ref fa25))) (l25 : K.lookup fa25 = some ⟨oc25, od25, .func (PySem.W.fnOf "_law_shuffled" "_law_shuffled" (defArgs (topS 35)) (defBody (topS 35)) (defScope (topS 35)) .none kV25 dc25 pm25 an25 cd25 ct25), sl25⟩) (c25 : PySem.W.codeIn K cd25 "_law_shuffled" = true) (k25 : PySem.W.keepIn K (.ref fa25) = true)
    {fa26 : Addr} {od26 an26 : Option Addr} {sl26 : Array (Option Value)} {oc26 kV26 dc26 pm26 cd26 ct26 : Value} (a26 : PySem.W.nsIn K mainGlobals "_law_call" = some (some (.ref fa26))) (l26 : K.lookup fa26 = some ⟨oc26, od26, .func (PySem.W.fnOf "_law_call" "_law_call" (defArgs (topS 36)) (defBody (topS 36)) (defScope (topS 36)) .none kV26 dc26 pm26 an26 cd26 ct26), sl26⟩) (c26 : PySem.W.codeIn K cd26 "_law_call" = true) (k26 : PySem.W.keepIn K (.ref fa26) = true)
    {fa27 : Addr} {od27 an27 : Option Addr} {sl27 : Array (Option Value)} {oc27 kV27 dc27 pm27 cd27 ct27 : Value} (a27 : PySem.W.nsIn K mainGlobals "_law_first_state" = some (some (.ref fa27))) (l27 : K.lookup fa27 = some ⟨oc27, od27, .func (PySem.W.fnOf "_law_first_state" "_law_first_state" (defArgs (topS 37)) (defBody (topS 37)) (defScope (topS 37)) .none kV27 dc27 pm27 an27 cd27 ct27), sl27⟩) (c27 : PySem.W.codeIn K cd27 "_law_first_state" = true) (k27 : PySem.W.keepIn K (.ref fa27) = true)
    {fa28 : Addr} {od28 an28 : Option Addr} {sl28 : Array (Option Value)} {oc28 kV28 dc28 pm28 cd28 ct28 : Value} (a28 : PySem.W.nsIn K mainGlobals "_law_words" = some (some (.ref fa28))) (l28 : K.lookup fa28 = some ⟨oc28, od28, .func (PySem.W.fnOf "_law_words" "_law_words" (defArgs (topS 38)) (defBody (topS 38)) (defScope (topS 38)) .none kV28 dc28 pm28 an28 cd28 ct28), sl28⟩) (c28 : PySem.W.codeIn K cd28 "_law_words" = true) (k28 : PySem.W.keepIn K (.ref fa28) = true)
    {fa29 : Addr} {od29 an29 : Option Addr} {sl29 : Array (Option Value)} {oc29 kV29 dc29 pm29 cd29 ct29 : Value} (a29 : PySem.W.nsIn K mainGlobals "_law_some_call" = some (some (.ref fa29))) (l29 : K.lookup fa29 = some ⟨oc29, od29, .func (PySem.W.fnOf "_law_some_call" "_law_some_call" (defArgs (topS 39)) (defBody (topS 39)) (defScope (topS 39)) .none kV29 dc29 pm29 an29 cd29 ct29), sl29⟩) (c29 : PySem.W.codeIn K cd29 "_law_some_call" = true) (k29 : PySem.W.keepIn K (.ref fa29) = true)
    {fa30 : Addr} {od30 an30 : Option Addr} {sl30 : Array (Option Value)} {oc30 kV30 dc30 pm30 cd30 ct30 : Value} (a30 : PySem.W.nsIn K mainGlobals "_law_calls" = some (some (.ref fa30))) (l30 : K.lookup fa30 = some ⟨oc30, od30, .func (PySem.W.fnOf "_law_calls" "_law_calls" (defArgs (topS 40)) (defBody (topS 40)) (defScope (topS 40)) .none kV30 dc30 pm30 an30 cd30 ct30), sl30⟩) (c30 : PySem.W.codeIn K cd30 "_law_calls" = true) (k30 : PySem.W.keepIn K (.ref fa30) = true)
    {fa31 : Addr} {od31 an31 : Option Addr} {sl31 : Array (Option Value)} {oc31 kV31 dc31 pm31 cd31 ct31 : Value} (a31 : PySem.W.nsIn K mainGlobals "law" = some (some (.ref fa31))) (l31 : K.lookup fa31 = some ⟨oc31, od31, .func (PySem.W.fnOf "law" "law" (defArgs (topS 41)) (defBody (topS 41)) (defScope (topS 41)) .none kV31 dc31 pm31 an31 cd31 ct31), sl31⟩) (c31 : PySem.W.codeIn K cd31 "law" = true) (k31 : PySem.W.keepIn K (.ref fa31) = true)
    (z_all : PySem.W.nsIn K mainGlobals "all" = some none)
    (z_any : PySem.W.nsIn K mainGlobals "any" = some none)
    (z_bool : PySem.W.nsIn K mainGlobals "bool" = some none)
    (z_dict : PySem.W.nsIn K mainGlobals "dict" = some none)
    (z_int : PySem.W.nsIn K mainGlobals "int" = some none)
    (z_isinstance : PySem.W.nsIn K mainGlobals "isinstance" = some none)
    (z_len : PySem.W.nsIn K mainGlobals "len" = some none)
    (z_list : PySem.W.nsIn K mainGlobals "list" = some none)
    (z_min : PySem.W.nsIn K mainGlobals "min" = some none)
    (z_range : PySem.W.nsIn K mainGlobals "range" = some none)
    (z_set : PySem.W.nsIn K mainGlobals "set" = some none)
    (z_sorted : PySem.W.nsIn K mainGlobals "sorted" = some none)
    (z_str : PySem.W.nsIn K mainGlobals "str" = some none)
    (z_tuple : PySem.W.nsIn K mainGlobals "tuple" = some none)
    {p_FORM : Addr} (g_FORM : PySem.W.nsIn K mainGlobals "FORM" = some (some (.ref p_FORM)))
    {tk0_0 tk0_1 : Tok} {dd0 : Option Addr} {nn0 : Nat} {ss0 : Array (Option Value)} (q0 : K.lookup p_FORM = some ⟨.type "tuple", dd0, .seq #[.str (Str.ofString "form") tk0_0, .int 0 tk0_1] nn0, ss0⟩)
    {tk_HANDS : Tok} (g_HANDS : PySem.W.nsIn K mainGlobals "HANDS" = some (some (.int 9 tk_HANDS)))
    {p_KINDS : Addr} (g_KINDS : PySem.W.nsIn K mainGlobals "KINDS" = some (some (.ref p_KINDS))) (n_KINDS : (p_KINDS == sysModules) = false) {es_KINDS : Array DictEntry} {nn_KINDS : Nat} (l_KINDS : K.lookup p_KINDS = some ⟨.type "dict", none, .dict es_KINDS nn_KINDS, #[]⟩) (lit_KINDS : PySem.W.KeysLit w.params es_KINDS.toList)
    {p_KINDS_cell : Addr} (e_KINDS_cell : PySem.W.nsIn K p_KINDS (Str.ofString "cell") = some (some (.ref p_KINDS_cell)))
    {tk1_0 tk1_1 : Tok} {dd1 : Option Addr} {nn1 : Nat} {ss1 : Array (Option Value)} (q1 : K.lookup p_KINDS_cell = some ⟨.type "tuple", dd1, .seq #[.str (Str.ofString "get") tk1_0, .str (Str.ofString "put") tk1_1] nn1, ss1⟩)
    {p_KINDS_counter : Addr} (e_KINDS_counter : PySem.W.nsIn K p_KINDS (Str.ofString "counter") = some (some (.ref p_KINDS_counter)))
    {tk2_0 tk2_1 : Tok} {dd2 : Option Addr} {nn2 : Nat} {ss2 : Array (Option Value)} (q2 : K.lookup p_KINDS_counter = some ⟨.type "tuple", dd2, .seq #[.str (Str.ofString "add") tk2_0, .str (Str.ofString "get") tk2_1] nn2, ss2⟩)
    {p_KINDS_line : Addr} (e_KINDS_line : PySem.W.nsIn K p_KINDS (Str.ofString "line") = some (some (.ref p_KINDS_line)))
    {tk3_0 tk3_1 : Tok} {dd3 : Option Addr} {nn3 : Nat} {ss3 : Array (Option Value)} (q3 : K.lookup p_KINDS_line = some ⟨.type "tuple", dd3, .seq #[.str (Str.ofString "put") tk3_0, .str (Str.ofString "take") tk3_1] nn3, ss3⟩)
    {p_KINDS_pile : Addr} (e_KINDS_pile : PySem.W.nsIn K p_KINDS (Str.ofString "pile") = some (some (.ref p_KINDS_pile)))
    {tk4_0 tk4_1 : Tok} {dd4 : Option Addr} {nn4 : Nat} {ss4 : Array (Option Value)} (q4 : K.lookup p_KINDS_pile = some ⟨.type "tuple", dd4, .seq #[.str (Str.ofString "put") tk4_0, .str (Str.ofString "take") tk4_1] nn4, ss4⟩)
    {p_KINDS_set : Addr} (e_KINDS_set : PySem.W.nsIn K p_KINDS (Str.ofString "set") = some (some (.ref p_KINDS_set)))
    {tk5_0 tk5_1 tk5_2 : Tok} {dd5 : Option Addr} {nn5 : Nat} {ss5 : Array (Option Value)} (q5 : K.lookup p_KINDS_set = some ⟨.type "tuple", dd5, .seq #[.str (Str.ofString "add") tk5_0, .str (Str.ofString "has") tk5_1, .str (Str.ofString "take") tk5_2] nn5, ss5⟩)
    {tk_MOST : Tok} (g_MOST : PySem.W.nsIn K mainGlobals "MOST" = some (some (.int 99 tk_MOST)))
    {p_CALLS : Addr} (g_CALLS : PySem.W.nsIn K mainGlobals "CALLS" = some (some (.ref p_CALLS))) (n_CALLS : (p_CALLS == sysModules) = false) {es_CALLS : Array DictEntry} {nn_CALLS : Nat} (l_CALLS : K.lookup p_CALLS = some ⟨.type "dict", none, .dict es_CALLS nn_CALLS, #[]⟩) (lit_CALLS : PySem.W.KeysLit w.params es_CALLS.toList)
    (e_CALLS_cell : PySem.W.nsIn K p_CALLS (Str.ofString "cell") = some (some (.ref fa5)))
    (e_CALLS_counter : PySem.W.nsIn K p_CALLS (Str.ofString "counter") = some (some (.ref fa6)))
    (e_CALLS_line : PySem.W.nsIn K p_CALLS (Str.ofString "line") = some (some (.ref fa7)))
    (e_CALLS_pile : PySem.W.nsIn K p_CALLS (Str.ofString "pile") = some (some (.ref fa8)))
    (e_CALLS_set : PySem.W.nsIn K p_CALLS (Str.ofString "set") = some (some (.ref fa9)))
    {tk_TIMES : Tok} (g_TIMES : PySem.W.nsIn K mainGlobals "TIMES" = some (some (.int 1000 tk_TIMES))) :
    ∃ fd : FuncData, (∀ (s : Shared) (v : Value), BindsTo s fd ⟨[v], []⟩ [("script", v)]) ∧ ∀ base : Heap, K.In base → base.Ns mainGlobals mg → FnOk PySem.Challenge.pw_everyhistory_k72_whole_calls_told_at_oth w K mg base CX0 18 fa fd ["script"] (spM K 1 G_law) := by
  have e := hfa.symm.trans (PySem.W.mg_of X G a31)
  cases e
  let T : Txt K w mg := {
    f_is_whole := fa0, fd_is_whole := _, F_is_whole := fun_mk l0 c0 k0, g_is_whole := PySem.W.mg_of X G a0, B_is_whole := (fun_mk (st := (topS 3)) l0 c0 k0).binds fun _ _ _ _ _ _ us hl => match us, hl with | [_], _ => rfl,
    f_is_from := fa1, fd_is_from := _, F_is_from := fun_mk l1 c1 k1, g_is_from := PySem.W.mg_of X G a1, B_is_from := (fun_mk (st := (topS 4)) l1 c1 k1).binds fun _ _ _ _ _ _ us hl => match us, hl with | [_, _, _], _ => rfl,
    f_first_true := fa2, fd_first_true := _, F_first_true := fun_mk l2 c2 k2, g_first_true := PySem.W.mg_of X G a2, B_first_true := (fun_mk (st := (topS 5)) l2 c2 k2).binds fun _ _ _ _ _ _ us hl => match us, hl with | [_], _ => rfl,
    f_is_call_of := fa3, fd_is_call_of := _, F_is_call_of := fun_mk l3 c3 k3, g_is_call_of := PySem.W.mg_of X G a3, B_is_call_of := (fun_mk (st := (topS 9)) l3 c3 k3).binds fun _ _ _ _ _ _ us hl => match us, hl with | [_, _, _], _ => rfl,
    f_begin := fa4, fd_begin := _, F_begin := fun_mk l4 c4 k4, g_begin := PySem.W.mg_of X G a4, B_begin := (fun_mk (st := (topS 10)) l4 c4 k4).binds fun _ _ _ _ _ _ us hl => match us, hl with | [_], _ => rfl,
    f_cell_call := fa5, fd_cell_call := _, F_cell_call := fun_mk l5 c5 k5, g_cell_call := PySem.W.mg_of X G a5, B_cell_call := (fun_mk (st := (topS 11)) l5 c5 k5).binds fun _ _ _ _ _ _ us hl => match us, hl with | [_, _, _], _ => rfl,
    f_counter_call := fa6, fd_counter_call := _, F_counter_call := fun_mk l6 c6 k6, g_counter_call := PySem.W.mg_of X G a6, B_counter_call := (fun_mk (st := (topS 12)) l6 c6 k6).binds fun _ _ _ _ _ _ us hl => match us, hl with | [_, _, _], _ => rfl,
    f_line_call := fa7, fd_line_call := _, F_line_call := fun_mk l7 c7 k7, g_line_call := PySem.W.mg_of X G a7, B_line_call := (fun_mk (st := (topS 13)) l7 c7 k7).binds fun _ _ _ _ _ _ us hl => match us, hl with | [_, _, _], _ => rfl,
    f_pile_call := fa8, fd_pile_call := _, F_pile_call := fun_mk l8 c8 k8, g_pile_call := PySem.W.mg_of X G a8, B_pile_call := (fun_mk (st := (topS 14)) l8 c8 k8).binds fun _ _ _ _ _ _ us hl => match us, hl with | [_, _, _], _ => rfl,
    f_set_call := fa9, fd_set_call := _, F_set_call := fun_mk l9 c9 k9, g_set_call := PySem.W.mg_of X G a9, B_set_call := (fun_mk (st := (topS 15)) l9 c9 k9).binds fun _ _ _ _ _ _ us hl => match us, hl with | [_, _, _], _ => rfl,
    f_call := fa10, fd_call := _, F_call := fun_mk l10 c10 k10, g_call := PySem.W.mg_of X G a10, B_call := (fun_mk (st := (topS 17)) l10 c10 k10).binds fun _ _ _ _ _ _ us hl => match us, hl with | [_, _, _, _], _ => rfl,
    f_is_call := fa11, fd_is_call := _, F_is_call := fun_mk l11 c11 k11, g_is_call := PySem.W.mg_of X G a11, B_is_call := (fun_mk (st := (topS 20)) l11 c11 k11).binds fun _ _ _ _ _ _ us hl => match us, hl with | [_], _ => rfl,
    f_fault := fa12, fd_fault := _, F_fault := fun_mk l12 c12 k12, g_fault := PySem.W.mg_of X G a12, B_fault := (fun_mk (st := (topS 21)) l12 c12 k12).binds fun _ _ _ _ _ _ us hl => match us, hl with | [_], _ => rfl,
    f_must_come_first := fa13, fd_must_come_first := _, F_must_come_first := fun_mk l13 c13 k13, g_must_come_first := PySem.W.mg_of X G a13, B_must_come_first := (fun_mk (st := (topS 22)) l13 c13 k13).binds fun _ _ _ _ _ _ us hl => match us, hl with | [_, _, _, _], _ => rfl,
    f_search := fa14, fd_search := _, F_search := fun_mk l14 c14 k14, g_search := PySem.W.mg_of X G a14, B_search := (fun_mk (st := (topS 24)) l14 c14 k14).binds fun _ _ _ _ _ _ us hl => match us, hl with | [_, _, _, _], _ => rfl,
    f_explained := fa15, fd_explained := _, F_explained := fun_mk l15 c15 k15, g_explained := PySem.W.mg_of X G a15, B_explained := (fun_mk (st := (topS 23)) l15 c15 k15).binds fun _ _ _ _ _ _ us hl => match us, hl with | [_, _], _ => rfl,
    f_order_fault := fa16, fd_order_fault := _, F_order_fault := fun_mk l16 c16 k16, g_order_fault := PySem.W.mg_of X G a16, B_order_fault := (fun_mk (st := (topS 25)) l16 c16 k16).binds fun _ _ _ _ _ _ us hl => match us, hl with | [_, _, _], _ => rfl,
    f_of_object := fa17, fd_of_object := _, F_of_object := fun_mk l17 c17 k17, g_of_object := PySem.W.mg_of X G a17, B_of_object := (fun_mk (st := (topS 26)) l17 c17 k17).binds fun _ _ _ _ _ _ us hl => match us, hl with | [_, _], _ => rfl,
    f_is_linear := fa18, fd_is_linear := _, F_is_linear := fun_mk l18 c18 k18, g_is_linear := PySem.W.mg_of X G a18, B_is_linear := (fun_mk (st := (topS 27)) l18 c18 k18).binds fun _ _ _ _ _ _ us hl => match us, hl with | [_], _ => rfl,
    f_is_in_turn := fa19, fd_is_in_turn := _, F_is_in_turn := fun_mk l19 c19 k19, g_is_in_turn := PySem.W.mg_of X G a19, B_is_in_turn := (fun_mk (st := (topS 28)) l19 c19 k19).binds fun _ _ _ _ _ _ us hl => match us, hl with | [_], _ => rfl,
    f__law_same := fa20, fd__law_same := _, F__law_same := fun_mk l20 c20 k20, g__law_same := PySem.W.mg_of X G a20, B__law_same := (fun_mk (st := (topS 30)) l20 c20 k20).binds fun _ _ _ _ _ _ us hl => match us, hl with | [_, _], _ => rfl,
    f__law_pool := fa21, fd__law_pool := _, F__law_pool := fun_mk l21 c21 k21, g__law_pool := PySem.W.mg_of X G a21, B__law_pool := (fun_mk (st := (topS 31)) l21 c21 k21).binds fun _ _ _ _ _ _ us hl => match us, hl with | [_], _ => rfl,
    f__law_spread := fa22, fd__law_spread := _, F__law_spread := fun_mk l22 c22 k22, g__law_spread := PySem.W.mg_of X G a22, B__law_spread := (fun_mk (st := (topS 32)) l22 c22 k22).binds fun _ _ _ _ _ _ us hl => match us, hl with | [_], _ => rfl,
    f__law_draw := fa23, fd__law_draw := _, F__law_draw := fun_mk l23 c23 k23, g__law_draw := PySem.W.mg_of X G a23, B__law_draw := (fun_mk (st := (topS 33)) l23 c23 k23).binds fun _ _ _ _ _ _ us hl => match us, hl with | [_, _], _ => rfl,
    f__law_pick := fa24, fd__law_pick := _, F__law_pick := fun_mk l24 c24 k24, g__law_pick := PySem.W.mg_of X G a24, B__law_pick := (fun_mk (st := (topS 34)) l24 c24 k24).binds fun _ _ _ _ _ _ us hl => match us, hl with | [_, _], _ => rfl,
    f__law_shuffled := fa25, fd__law_shuffled := _, F__law_shuffled := fun_mk l25 c25 k25, g__law_shuffled := PySem.W.mg_of X G a25, B__law_shuffled := (fun_mk (st := (topS 35)) l25 c25 k25).binds fun _ _ _ _ _ _ us hl => match us, hl with | [_, _], _ => rfl,
    f__law_call := fa26, fd__law_call := _, F__law_call := fun_mk l26 c26 k26, g__law_call := PySem.W.mg_of X G a26, B__law_call := (fun_mk (st := (topS 36)) l26 c26 k26).binds fun _ _ _ _ _ _ us hl => match us, hl with | [_, _, _, _], _ => rfl,
    f__law_first_state := fa27, fd__law_first_state := _, F__law_first_state := fun_mk l27 c27 k27, g__law_first_state := PySem.W.mg_of X G a27, B__law_first_state := (fun_mk (st := (topS 37)) l27 c27 k27).binds fun _ _ _ _ _ _ us hl => match us, hl with | [_], _ => rfl,
    f__law_words := fa28, fd__law_words := _, F__law_words := fun_mk l28 c28 k28, g__law_words := PySem.W.mg_of X G a28, B__law_words := (fun_mk (st := (topS 38)) l28 c28 k28).binds fun _ _ _ _ _ _ us hl => match us, hl with | [_], _ => rfl,
    f__law_some_call := fa29, fd__law_some_call := _, F__law_some_call := fun_mk l29 c29 k29, g__law_some_call := PySem.W.mg_of X G a29, B__law_some_call := (fun_mk (st := (topS 39)) l29 c29 k29).binds fun _ _ _ _ _ _ us hl => match us, hl with | [_, _], _ => rfl,
    f__law_calls := fa30, fd__law_calls := _, F__law_calls := fun_mk l30 c30 k30, g__law_calls := PySem.W.mg_of X G a30, B__law_calls := (fun_mk (st := (topS 40)) l30 c30 k30).binds fun _ _ _ _ _ _ us hl => match us, hl with | [_, _, _], _ => rfl,
    f_law := fa, fd_law := _, F_law := fun_mk l31 c31 k31, g_law := PySem.W.mg_of X G a31, B_law := (fun_mk (st := (topS 41)) l31 c31 k31).binds fun _ _ _ _ _ _ us hl => match us, hl with | [_], _ => rfl,
    b_all := PySem.W.mg_none_of X G z_all,
    b_any := PySem.W.mg_none_of X G z_any,
    b_bool := PySem.W.mg_none_of X G z_bool,
    b_dict := PySem.W.mg_none_of X G z_dict,
    b_int := PySem.W.mg_none_of X G z_int,
    b_isinstance := PySem.W.mg_none_of X G z_isinstance,
    b_len := PySem.W.mg_none_of X G z_len,
    b_list := PySem.W.mg_none_of X G z_list,
    b_min := PySem.W.mg_none_of X G z_min,
    b_range := PySem.W.mg_none_of X G z_range,
    b_set := PySem.W.mg_none_of X G z_set,
    b_sorted := PySem.W.mg_none_of X G z_sorted,
    b_str := PySem.W.mg_none_of X G z_str,
    b_tuple := PySem.W.mg_none_of X G z_tuple,
    a_FORM := .ref p_FORM, v_FORM := .ref p_FORM, g_FORM := PySem.W.mg_of X G g_FORM, r_FORM := rfl, d_FORM := (rv_ktup (vs := [.str (Str.ofString "form"), .int 0]) q0 rfl rfl (show (2 : Nat) ≤ sizeLine by decide) (Paired.cons ⟨_, rfl⟩ (Paired.cons ⟨_, rfl⟩ Paired.nil)) fun _ _ => (.cons (.str _) (.cons (.int _) .nil))),
    a_HANDS := .int 9 tk_HANDS, v_HANDS := .int 9, g_HANDS := PySem.W.mg_of X G g_HANDS, r_HANDS := ⟨_, rfl⟩, d_HANDS := fun _ _ => .int _,
    p_KINDS := p_KINDS, g_KINDS := PySem.W.mg_of X G g_KINDS, n_KINDS := n_KINDS,
    t_KINDS := (ktab_cons (v := .ref p_KINDS_cell) ⟨es_KINDS, nn_KINDS, _, l_KINDS, lit_KINDS, e_KINDS_cell, (rfl : RelV (V.ref p_KINDS_cell) (Value.ref p_KINDS_cell))⟩ (rv_ktup (vs := [.str (Str.ofString "get"), .str (Str.ofString "put")]) q1 rfl rfl (show (2 : Nat) ≤ sizeLine by decide) (Paired.cons ⟨_, rfl⟩ (Paired.cons ⟨_, rfl⟩ Paired.nil)) fun _ _ => (.cons (.str _) (.cons (.str _) .nil))) (ktab_cons (v := .ref p_KINDS_counter) ⟨es_KINDS, nn_KINDS, _, l_KINDS, lit_KINDS, e_KINDS_counter, (rfl : RelV (V.ref p_KINDS_counter) (Value.ref p_KINDS_counter))⟩ (rv_ktup (vs := [.str (Str.ofString "add"), .str (Str.ofString "get")]) q2 rfl rfl (show (2 : Nat) ≤ sizeLine by decide) (Paired.cons ⟨_, rfl⟩ (Paired.cons ⟨_, rfl⟩ Paired.nil)) fun _ _ => (.cons (.str _) (.cons (.str _) .nil))) (ktab_cons (v := .ref p_KINDS_line) ⟨es_KINDS, nn_KINDS, _, l_KINDS, lit_KINDS, e_KINDS_line, (rfl : RelV (V.ref p_KINDS_line) (Value.ref p_KINDS_line))⟩ (rv_ktup (vs := [.str (Str.ofString "put"), .str (Str.ofString "take")]) q3 rfl rfl (show (2 : Nat) ≤ sizeLine by decide) (Paired.cons ⟨_, rfl⟩ (Paired.cons ⟨_, rfl⟩ Paired.nil)) fun _ _ => (.cons (.str _) (.cons (.str _) .nil))) (ktab_cons (v := .ref p_KINDS_pile) ⟨es_KINDS, nn_KINDS, _, l_KINDS, lit_KINDS, e_KINDS_pile, (rfl : RelV (V.ref p_KINDS_pile) (Value.ref p_KINDS_pile))⟩ (rv_ktup (vs := [.str (Str.ofString "put"), .str (Str.ofString "take")]) q4 rfl rfl (show (2 : Nat) ≤ sizeLine by decide) (Paired.cons ⟨_, rfl⟩ (Paired.cons ⟨_, rfl⟩ Paired.nil)) fun _ _ => (.cons (.str _) (.cons (.str _) .nil))) (ktab_cons (v := .ref p_KINDS_set) ⟨es_KINDS, nn_KINDS, _, l_KINDS, lit_KINDS, e_KINDS_set, (rfl : RelV (V.ref p_KINDS_set) (Value.ref p_KINDS_set))⟩ (rv_ktup (vs := [.str (Str.ofString "add"), .str (Str.ofString "has"), .str (Str.ofString "take")]) q5 rfl rfl (show (3 : Nat) ≤ sizeLine by decide) (Paired.cons ⟨_, rfl⟩ (Paired.cons ⟨_, rfl⟩ (Paired.cons ⟨_, rfl⟩ Paired.nil))) fun _ _ => (.cons (.str _) (.cons (.str _) (.cons (.str _) .nil)))) ktab_nil))))),
    a_MOST := .int 99 tk_MOST, v_MOST := .int 99, g_MOST := PySem.W.mg_of X G g_MOST, r_MOST := ⟨_, rfl⟩, d_MOST := fun _ _ => .int _,
    p_CALLS := p_CALLS, g_CALLS := PySem.W.mg_of X G g_CALLS, n_CALLS := n_CALLS,
    k_CALLS_cell := ⟨es_CALLS, nn_CALLS, _, l_CALLS, lit_CALLS, e_CALLS_cell, (rfl : RelV (V.ref fa5) (Value.ref fa5))⟩,
    k_CALLS_counter := ⟨es_CALLS, nn_CALLS, _, l_CALLS, lit_CALLS, e_CALLS_counter, (rfl : RelV (V.ref fa6) (Value.ref fa6))⟩,
    k_CALLS_line := ⟨es_CALLS, nn_CALLS, _, l_CALLS, lit_CALLS, e_CALLS_line, (rfl : RelV (V.ref fa7) (Value.ref fa7))⟩,
    k_CALLS_pile := ⟨es_CALLS, nn_CALLS, _, l_CALLS, lit_CALLS, e_CALLS_pile, (rfl : RelV (V.ref fa8) (Value.ref fa8))⟩,
    k_CALLS_set := ⟨es_CALLS, nn_CALLS, _, l_CALLS, lit_CALLS, e_CALLS_set, (rfl : RelV (V.ref fa9) (Value.ref fa9))⟩,
    a_TIMES := .int 1000 tk_TIMES, v_TIMES := .int 1000, g_TIMES := PySem.W.mg_of X G g_TIMES, r_TIMES := ⟨_, rfl⟩, d_TIMES := fun _ _ => .int _ }
  exact ⟨_, fun s v => .of_eq rfl, fun base _ _ => ok_law T⟩

end Law

open PySem PySem.W PyProof.Rows
theorem PySem.Challenge.cw_everyhistory_k72_whole_calls_told_at_oth_holds : PySem.Challenge.rw_everyhistory_k72_whole_calls_told_at_oth.Holds := by
  w_on; o_law; k_head; (case hw => w_witness2)
  k_fill
  refine L2.walk_of (l := PySem.Challenge.rw_everyhistory_k72_whole_calls_told_at_oth) (n := 63) (k := 18) (x := "script") (CX := fun _ => L2.CX0) (sp := fun w => DL.spM _ 1 Law.G_law) rfl (by decide) rfl ⟨rfl, by decide, by decide⟩ (fun w h Y => PySem.W.kIn_of Y) ?F (fun _ H a ns hl hO hS => DL.hsp_of (by decide) Law.the_law H a ns hl hO hS) (fun _ _ _ _ _ h => h)
  case F =>
    intro w mg fa h KX G hmg
    refine' Law.all_mk KX G hmg ?a0 ?l0 ?c0 ?k0 ?a1 ?l1 ?c1 ?k1 ?a2 ?l2 ?c2 ?k2 ?a3 ?l3 ?c3 ?k3 ?a4 ?l4 ?c4 ?k4 ?a5 ?l5 ?c5 ?k5 ?a6 ?l6 ?c6 ?k6 ?a7 ?l7 ?c7 ?k7 ?a8 ?l8 ?c8 ?k8 ?a9 ?l9 ?c9 ?k9 ?a10 ?l10 ?c10 ?k10 ?a11 ?l11 ?c11 ?k11 ?a12 ?l12 ?c12 ?k12 ?a13 ?l13 ?c13 ?k13 ?a14 ?l14 ?c14 ?k14 ?a15 ?l15 ?c15 ?k15 ?a16 ?l16 ?c16 ?k16 ?a17 ?l17 ?c17 ?k17 ?a18 ?l18 ?c18 ?k18 ?a19 ?l19 ?c19 ?k19 ?a20 ?l20 ?c20 ?k20 ?a21 ?l21 ?c21 ?k21 ?a22 ?l22 ?c22 ?k22 ?a23 ?l23 ?c23 ?k23 ?a24 ?l24 ?c24 ?k24 ?a25 ?l25 ?c25 ?k25 ?a26 ?l26 ?c26 ?k26 ?a27 ?l27 ?c27 ?k27 ?a28 ?l28 ?c28 ?k28 ?a29 ?l29 ?c29 ?k29 ?a30 ?l30 ?c30 ?k30 ?a31 ?l31 ?c31 ?k31 ?z_all ?z_any ?z_bool ?z_dict ?z_int ?z_isinstance ?z_len ?z_list ?z_min ?z_range ?z_set ?z_sorted ?z_str ?z_tuple ?g_FORM ?q0 ?g_HANDS ?g_KINDS ?n_KINDS ?l_KINDS ?lit_KINDS ?e_KINDS_cell ?q1 ?e_KINDS_counter ?q2 ?e_KINDS_line ?q3 ?e_KINDS_pile ?q4 ?e_KINDS_set ?q5 ?g_MOST ?g_CALLS ?n_CALLS ?l_CALLS ?lit_CALLS ?e_CALLS_cell ?e_CALLS_counter ?e_CALLS_line ?e_CALLS_pile ?e_CALLS_set ?g_TIMES
    (case a0 => k_is)
    (case l0 => k_is)
    (case c0 => k_is)
    (case k0 => k_is)
    (case a1 => k_is)
    (case l1 => k_is)
    (case c1 => k_is)
    (case k1 => k_is)
    (case a2 => k_is)
    (case l2 => k_is)
    (case c2 => k_is)
    (case k2 => k_is)
    (case a3 => k_is)
    (case l3 => k_is)
    (case c3 => k_is)
    (case k3 => k_is)
    (case a4 => k_is)
    (case l4 => k_is)
    (case c4 => k_is)
    (case k4 => k_is)
    (case a5 => k_is)
    (case l5 => k_is)
    (case c5 => k_is)
    (case k5 => k_is)
    (case a6 => k_is)
    (case l6 => k_is)
    (case c6 => k_is)
    (case k6 => k_is)
    (case a7 => k_is)
    (case l7 => k_is)
    (case c7 => k_is)
    (case k7 => k_is)
    (case a8 => k_is)
    (case l8 => k_is)
    (case c8 => k_is)
    (case k8 => k_is)
    (case a9 => k_is)
    (case l9 => k_is)
    (case c9 => k_is)
    (case k9 => k_is)
    (case a10 => k_is)
    (case l10 => k_is)
    (case c10 => k_is)
    (case k10 => k_is)
    (case a11 => k_is)
    (case l11 => k_is)
    (case c11 => k_is)
    (case k11 => k_is)
    (case a12 => k_is)
    (case l12 => k_is)
    (case c12 => k_is)
    (case k12 => k_is)
    (case a13 => k_is)
    (case l13 => k_is)
    (case c13 => k_is)
    (case k13 => k_is)
    (case a14 => k_is)
    (case l14 => k_is)
    (case c14 => k_is)
    (case k14 => k_is)
    (case a15 => k_is)
    (case l15 => k_is)
    (case c15 => k_is)
    (case k15 => k_is)
    (case a16 => k_is)
    (case l16 => k_is)
    (case c16 => k_is)
    (case k16 => k_is)
    (case a17 => k_is)
    (case l17 => k_is)
    (case c17 => k_is)
    (case k17 => k_is)
    (case a18 => k_is)
    (case l18 => k_is)
    (case c18 => k_is)
    (case k18 => k_is)
    (case a19 => k_is)
    (case l19 => k_is)
    (case c19 => k_is)
    (case k19 => k_is)
    (case a20 => k_is)
    (case l20 => k_is)
    (case c20 => k_is)
    (case k20 => k_is)
    (case a21 => k_is)
    (case l21 => k_is)
    (case c21 => k_is)
    (case k21 => k_is)
    (case a22 => k_is)
    (case l22 => k_is)
    (case c22 => k_is)
    (case k22 => k_is)
    (case a23 => k_is)
    (case l23 => k_is)
    (case c23 => k_is)
    (case k23 => k_is)
    (case a24 => k_is)
    (case l24 => k_is)
    (case c24 => k_is)
    (case k24 => k_is)
    (case a25 => k_is)
    (case l25 => k_is)
    (case c25 => k_is)
    (case k25 => k_is)
    (case a26 => k_is)
    (case l26 => k_is)
    (case c26 => k_is)
    (case k26 => k_is)
    (case a27 => k_is)
    (case l27 => k_is)
    (case c27 => k_is)
    (case k27 => k_is)
    (case a28 => k_is)
    (case l28 => k_is)
    (case c28 => k_is)
    (case k28 => k_is)
    (case a29 => k_is)
    (case l29 => k_is)
    (case c29 => k_is)
    (case k29 => k_is)
    (case a30 => k_is)
    (case l30 => k_is)
    (case c30 => k_is)
    (case k30 => k_is)
    (case a31 => k_is)
    (case l31 => k_is)
    (case c31 => k_is)
    (case k31 => k_is)
    (case z_all => k_is)
    (case z_any => k_is)
    (case z_bool => k_is)
    (case z_dict => k_is)
    (case z_int => k_is)
    (case z_isinstance => k_is)
    (case z_len => k_is)
    (case z_list => k_is)
    (case z_min => k_is)
    (case z_range => k_is)
    (case z_set => k_is)
    (case z_sorted => k_is)
    (case z_str => k_is)
    (case z_tuple => k_is)
    (case g_FORM => k_is)
    (case q0 => k_is)
    (case g_HANDS => k_is)
    (case g_KINDS => k_is)
    (case n_KINDS => decide)
    (case l_KINDS => k_is)
    (case lit_KINDS => (repeat (first | exact trivial | refine ⟨⟨_, _, rfl, rfl⟩, ?_⟩)))
    (case e_KINDS_cell => k_is)
    (case q1 => k_is)
    (case e_KINDS_counter => k_is)
    (case q2 => k_is)
    (case e_KINDS_line => k_is)
    (case q3 => k_is)
    (case e_KINDS_pile => k_is)
    (case q4 => k_is)
    (case e_KINDS_set => k_is)
    (case q5 => k_is)
    (case g_MOST => k_is)
    (case g_CALLS => k_is)
    (case n_CALLS => decide)
    (case l_CALLS => k_is)
    (case lit_CALLS => (repeat (first | exact trivial | refine ⟨⟨_, _, rfl, rfl⟩, ?_⟩)))
    (case e_CALLS_cell => k_is)
    (case e_CALLS_counter => k_is)
    (case e_CALLS_line => k_is)
    (case e_CALLS_pile => k_is)
    (case e_CALLS_set => k_is)
    (case g_TIMES => k_is)

