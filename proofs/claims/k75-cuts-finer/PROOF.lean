import PyProof.Rows.All
import HandS.ForMost
import HandS.IsInst
import HandS.SortInts
import HandS.Flow
import HandS.Wide
import HandS.NoneIn
import HandS.TupAny
import HandS.Conv
import HandS.More
import HandS.SetFor
import HandS.TupMul
import HandS.SortOrd
import HandS.Zip
import HandS.TupSets
import PySem.Challenge.RW_everyhistory_k75_whole_cuts_made_finer
set_option Elab.async false
set_option linter.all false
set_option maxRecDepth 100000
set_option maxHeartbeats 4000000
/-! DL1: data, stores, and what a piece of syntax does to them: values, the relation to the tracked heap, expressions. -/
namespace DL
open PySem PySem.Spec PyProof.Rows L2

/-- a value as data: tuples are data, lists and dicts are cells of a store; scr: a list that nobody writes -/
inductive DV where
  | non | bl (b : Bool) | int (i : Int) | str (x : Str) | tup (xs : List DV) | ref (l : Nat) | scr (xs : List DV)
  deriving Inhabited
/-- a cell: a list, a dict, a dict that has None among its keys, behind the others -/
inductive DO where
  | lst (xs : List DV) | dct (kvs : List (Key × DV)) | dcn (kvs : List (Key × DV)) (d : DV)
abbrev Sto := List DO
abbrev Env := List (Option DV)
/-- an expression: it leaves the names as they are -/
abbrev ME (α : Type) := Env → Sto → Option (α × Sto)
def ME.pure {α : Type} (a : α) : ME α := fun _ s => some (a, s)
def ME.bind {α β : Type} (m : ME α) (f : α → ME β) : ME β := fun e s => match m e s with
  | none => none
  | some (a, s') => f a e s'

/-- a list that nobody writes -/
def SqR (K : PySem.W.Frag) (H : Hp) (a : Addr) (xs : List V) : Prop :=
  (∃ o, H a = some (.frz o (.lst xs))) ∨
    ∃ (o : Obj) (its : Array Value) (n : Nat), K.lookup a = some o ∧ o.cls = .type "list" ∧ o.dict = none ∧ o.data = .seq its n ∧ its.size ≤ sizeLine ∧ Vals xs its.toList
theorem SqR.sql {K : PySem.W.Frag} {H : Hp} {a : Addr} {xs : List V} (h : SqR K H a xs) : SqL K H a xs := by
  rcases h with ⟨o, h⟩ | h
  · exact .inl (.inr ⟨o, h⟩)
  · exact .inr h
section rel
variable (K : PySem.W.Frag) (H : Hp) (μ : List Addr)
mutual
inductive RV : DV → V → Prop
  | non : RV .non .non
  | bl (b : Bool) : RV (.bl b) (.bl b)
  | int (i : Int) : RV (.int i) (.int i)
  | str (x : Str) : RV (.str x) (.str x)
  | tup {a : Addr} {ds : List DV} {vs : List V} : SqT K H a vs → vs.length ≤ sizeLine → RVs ds vs → RV (.tup ds) (.ref a)
  | ref {l : Nat} {a : Addr} : μ[l]? = some a → RV (.ref l) (.ref a)
  | scr {a : Addr} {ds : List DV} {vs : List V} : SqR K H a vs → vs.length ≤ sizeLine → RVs ds vs → RV (.scr ds) (.ref a)
inductive RVs : List DV → List V → Prop
  | nil : RVs [] []
  | cons {d : DV} {v : V} {ds : List DV} {vs : List V} : RV d v → RVs ds vs → RVs (d :: ds) (v :: vs)
end
/-- a dict's entries -/
inductive RKs : List (Key × DV) → List (Key × V) → Prop
  | nil : RKs [] []
  | cons {k : Key} {d : DV} {v : V} {ds : List (Key × DV)} {vs : List (Key × V)} : RV K H μ d v → RKs ds vs → RKs ((k, d) :: ds) ((k, v) :: vs)
/-- a dict with None among its keys, at a -/
def NDict (a : Addr) (vs : List (Key × V)) (v : V) : Heap → Prop := fun h => (a == sysModules) = false ∧ ∃ us u, KV vs us ∧ RelV v u ∧ ∀ (P : Program) (w : World), h.DictOf (noneKind P w) a (us.map (fun p => (some p.1, p.2)) ++ [(none, u)])
/-- a cell and what stands at its address -/
inductive RO : DO → Addr → Prop
  | lst {ds : List DV} {vs : List V} {a : Addr} : H a = some (.lst vs) → vs.length ≤ sizeLine → RVs K H μ ds vs → RO (.lst ds) a
  | dct {ds : List (Key × DV)} {vs : List (Key × V)} {a : Addr} : H a = some (.dK vs) → vs.length ≤ sizeLine → RKs K H μ ds vs → RO (.dct ds) a
  | dcn {ds : List (Key × DV)} {vs : List (Key × V)} {d : DV} {v : V} {a : Addr} : H a = some (.ext (NDict a vs v)) → RKs K H μ ds vs → RV K H μ d v → RO (.dcn ds d) a
/-- the store -/
structure RS (st : Sto) : Prop where
  len : μ.length = st.length
  nd : μ.Nodup
  cell : ∀ (l : Nat) (a : Addr) (o : DO), μ[l]? = some a → st[l]? = some o → RO K H μ o a
/-- the names -/
structure RE (e : Env) (σ : L2.St) : Prop where
  len : e.length = σ.length
  val : ∀ (i : Nat) (d : DV), e[i]? = some (some d) → ∃ v, σ[i]? = some (some v) ∧ RV K H μ d v
end rel
/-- what stays -/
structure Ext (H : Hp) (μ : List Addr) (H' : Hp) (μ' : List Addr) : Prop where
  pre : ∃ t, μ' = μ ++ t ∧ ∀ a ∈ t, H a = none
  tup : ∀ a xs, H a = some (.tup xs) → H' a = some (.tup xs)
  frz : ∀ a o u, H a = some (.frz o u) → H' a = some (.frz o u)
  oth : ∀ a o, a ∉ μ → H a = some o → H' a = some o
  trk : ∀ a, H' a = none → H a = none

section
variable {K : PySem.W.Frag} {H H1 H2 : Hp} {μ μ1 μ2 : List Addr} {st st' : Sto}
theorem Ext.refl : Ext H μ H μ := ⟨⟨[], by simp, by simp⟩, fun _ _ h => h, fun _ _ _ h => h, fun _ _ _ h => h, fun _ h => h⟩
theorem Ext.trans (a : Ext H μ H1 μ1) (b : Ext H1 μ1 H2 μ2) : Ext H μ H2 μ2 := by
  obtain ⟨t, rfl, ht⟩ := a.pre
  obtain ⟨u, rfl, hu⟩ := b.pre
  refine ⟨⟨t ++ u, by simp, fun x hx => ?_⟩, fun x xs h => b.tup _ _ (a.tup _ _ h), fun x o u h => b.frz _ _ _ (a.frz _ _ _ h), fun x o hx h => ?_, fun x h => a.trk x (b.trk x h)⟩
  · rcases List.mem_append.mp hx with hx | hx
    · exact ht x hx
    · exact a.trk x (hu x hx)
  · refine b.oth x o (fun hm => ?_) (a.oth x o hx h)
    rcases List.mem_append.mp hm with hm | hm
    · exact hx hm
    · rw [ht x hm] at h; cases h
theorem Ext.rd {a : Addr} {xs : List V} (x : Ext H μ H1 μ1) (h : Rd H a (.tup xs)) : Rd H1 a (.tup xs) := by
  rcases h with h | ⟨o, h⟩
  · exact .inl (x.tup _ _ h)
  · exact .inr ⟨o, x.frz _ _ _ h⟩
theorem Ext.sqt {a : Addr} {xs : List V} (x : Ext H μ H1 μ1) (h : SqT K H a xs) : SqT K H1 a xs := by
  rcases h with h | h
  · exact .inl (x.rd h)
  · exact .inr h
theorem Ext.sqr {a : Addr} {xs : List V} (x : Ext H μ H1 μ1) (h : SqR K H a xs) : SqR K H1 a xs := by
  rcases h with ⟨o, h⟩ | h
  · exact .inl ⟨o, x.frz _ _ _ h⟩
  · exact .inr h
theorem Ext.at {l : Nat} {a : Addr} (x : Ext H μ H1 μ1) (h : μ[l]? = some a) : μ1[l]? = some a := by
  obtain ⟨t, rfl, _⟩ := x.pre
  obtain ⟨h1, _⟩ := List.getElem?_eq_some_iff.mp h
  rw [List.getElem?_append_left h1]; exact h
mutual
theorem RV.ext (x : Ext H μ H1 μ1) : ∀ {d : DV} {v : V}, RV K H μ d v → RV K H1 μ1 d v
  | _, _, .non => .non
  | _, _, .bl b => .bl b
  | _, _, .int b => .int b
  | _, _, .str b => .str b
  | _, _, .tup s z r => .tup (x.sqt s) z (RVs.ext x r)
  | _, _, .ref h => .ref (x.at h)
  | _, _, .scr s z r => .scr (x.sqr s) z (RVs.ext x r)
theorem RVs.ext (x : Ext H μ H1 μ1) : ∀ {d : List DV} {v : List V}, RVs K H μ d v → RVs K H1 μ1 d v
  | _, _, .nil => .nil
  | _, _, .cons r s => .cons (RV.ext x r) (RVs.ext x s)
end
theorem RKs.ext (x : Ext H μ H1 μ1) : ∀ {d : List (Key × DV)} {v : List (Key × V)}, RKs K H μ d v → RKs K H1 μ1 d v
  | _, _, .nil => .nil
  | _, _, .cons r s => .cons (RV.ext x r) (RKs.ext x s)
theorem RVs.length : ∀ {ds : List DV} {vs : List V}, RVs K H μ ds vs → ds.length = vs.length
  | _, _, .nil => rfl
  | _, _, .cons _ t => by rw [List.length_cons, List.length_cons, RVs.length t]
theorem RVs.get : ∀ {ds : List DV} {vs : List V} {i : Nat} {d : DV}, RVs K H μ ds vs → ds[i]? = some d → ∃ v, vs[i]? = some v ∧ RV K H μ d v
  | _, _, _, _, .nil, e => by simp at e
  | _, _, 0, _, .cons r _, e => by simp at e; subst e; exact ⟨_, rfl, r⟩
  | _, _, i + 1, x, .cons _ t, e => by
    obtain ⟨u, h1, h2⟩ := RVs.get (i := i) (d := x) t (by simpa using e)
    exact ⟨u, by simpa using h1, h2⟩
theorem RVs.get' : ∀ {ds : List DV} {vs : List V} {i : Nat} {v : V}, RVs K H μ ds vs → vs[i]? = some v → ∃ d, ds[i]? = some d ∧ RV K H μ d v
  | _, _, _, _, .nil, e => by simp at e
  | _, _, 0, _, .cons r _, e => by simp at e; subst e; exact ⟨_, rfl, r⟩
  | _, _, i + 1, x, .cons _ t, e => by
    obtain ⟨u, h1, h2⟩ := RVs.get' (i := i) (v := x) t (by simpa using e)
    exact ⟨u, by simpa using h1, h2⟩
theorem RVs.append : ∀ {ds es : List DV} {vs ws : List V}, RVs K H μ ds vs → RVs K H μ es ws → RVs K H μ (ds ++ es) (vs ++ ws)
  | _, _, _, _, .nil, s => s
  | _, _, _, _, .cons r t, s => .cons r (RVs.append t s)
theorem RVs.take : ∀ {ds : List DV} {vs : List V} (n : Nat), RVs K H μ ds vs → RVs K H μ (ds.take n) (vs.take n)
  | _, _, 0, _ => .nil
  | _, _, _ + 1, .nil => .nil
  | _, _, n + 1, .cons r t => .cons r (RVs.take n t)
theorem RVs.drop : ∀ {ds : List DV} {vs : List V} (n : Nat), RVs K H μ ds vs → RVs K H μ (ds.drop n) (vs.drop n)
  | _, _, 0, r => r
  | _, _, _ + 1, .nil => .nil
  | _, _, n + 1, .cons _ t => RVs.drop n t
theorem RVs.set {d : DV} {v : V} (r : RV K H μ d v) : ∀ {ds : List DV} {vs : List V} (i : Nat), RVs K H μ ds vs → RVs K H μ (ds.set i d) (vs.set i v)
  | _, _, _, .nil => .nil
  | _, _, 0, .cons _ t => .cons r t
  | _, _, i + 1, .cons q t => .cons q (RVs.set r i t)
theorem RE.ext {e : Env} {σ : L2.St} (x : Ext H μ H1 μ1) (r : RE K H μ e σ) : RE K H1 μ1 e σ := ⟨r.len, fun i d h => by
  obtain ⟨v, h1, h2⟩ := r.val i d h
  exact ⟨v, h1, h2.ext x⟩⟩
theorem RE.set {e : Env} {σ : L2.St} {d : DV} {v : V} (i : Nat) (r : RE K H μ e σ) (q : RV K H μ d v) : RE K H μ (e.set i (some d)) (σ.set i (some v)) := ⟨by simp [r.len], fun j c h => by
  by_cases hj : i = j
  · subst hj
    have hl : i < e.length := by
      by_cases hl : i < e.length
      · exact hl
      · rw [List.getElem?_eq_none (by simp; omega)] at h; cases h
    rw [List.getElem?_set_self hl] at h
    cases h
    exact ⟨v, List.getElem?_set_self (by rw [← r.len]; exact hl), q⟩
  · rw [List.getElem?_set_ne hj] at h
    obtain ⟨w, h1, h2⟩ := r.val j c h
    exact ⟨w, by rw [List.getElem?_set_ne hj]; exact h1, h2⟩⟩
theorem RE.unset {e : Env} {σ : L2.St} (i : Nat) (r : RE K H μ e σ) : RE K H μ (e.set i none) (σ.set i none) := ⟨by simp [r.len], fun j c h => by
  by_cases hj : i = j
  · subst hj
    by_cases hl : i < e.length
    · rw [List.getElem?_set_self hl] at h; cases h
    · rw [List.getElem?_eq_none (by simp; omega)] at h; cases h
  · rw [List.getElem?_set_ne hj] at h
    obtain ⟨w, h1, h2⟩ := r.val j c h
    exact ⟨w, by rw [List.getElem?_set_ne hj]; exact h1, h2⟩⟩
/-- a tracked thing that is no cell stays: the store too, under what leaves the cells as they are -/
theorem RO.ext {o : DO} {a : Addr} (x : Ext H μ H1 μ1) (ha : ∀ u, H a = some u → H1 a = some u) (r : RO K H μ o a) : RO K H1 μ1 o a := by
  cases r with
  | lst h z r => exact .lst (ha _ h) z (r.ext x)
  | dct h z r => exact .dct (ha _ h) z (r.ext x)
  | dcn h r q => exact .dcn (ha _ h) (r.ext x) (q.ext x)
/-- what is tracked anew: p is new -/
theorem ext_new {p : Addr} {o : HO} (hp : H p = none) : Ext H μ (upd H p o) μ := by
  refine ⟨⟨[], by simp, by simp⟩, fun a xs h => ?_, fun a ob u h => ?_, fun a ob _ h => ?_, fun a h => ?_⟩
  · rw [upd_ne (ne_of_none h hp)]; exact h
  · rw [upd_ne (ne_of_none h hp)]; exact h
  · rw [upd_ne (ne_of_none h hp)]; exact h
  · by_cases e : a = p
    · subst e; rw [upd_same] at h; cases h
    · rw [upd_ne e] at h; exact h
theorem RS.trk (r : RS K H μ st) {a : Addr} (h : a ∈ μ) : H a ≠ none := by
  obtain ⟨i, hi⟩ := List.mem_iff_getElem?.mp h
  have hl : i < st.length := by rw [← r.len]; exact (List.getElem?_eq_some_iff.mp hi).1
  generalize eo : st[i] = o
  have := r.cell i a o hi (by rw [List.getElem?_eq_getElem hl, eo])
  cases this with
  | lst h _ _ => rw [h]; simp
  | dct h _ _ => rw [h]; simp
  | dcn h _ _ => rw [h]; simp
theorem RS.new {p : Addr} {o : HO} (hp : H p = none) (r : RS K H μ st) : RS K (upd H p o) μ st := ⟨r.len, r.nd, fun l a ob h1 h2 =>
  (r.cell l a ob h1 h2).ext (ext_new hp) fun u hu => by rw [upd_ne (ne_of_none hu hp)]; exact hu⟩
/-- the new thing becomes a cell -/
theorem ext_adopt {p : Addr} (hp : H p = none) (x : Ext H μ H1 μ) : Ext H μ H1 (μ ++ [p]) :=
  ⟨⟨[p], rfl, fun a h => by rw [List.mem_singleton.mp h]; exact hp⟩, x.tup, x.frz, x.oth, x.trk⟩
theorem ext_mu {p : Addr} (hp : H p = none) (x : Ext H μ H1 μ1) (h1 : H p = none) : Ext H μ H1 (μ1 ++ [p]) := by
  obtain ⟨t, rfl, ht⟩ := x.pre
  refine ⟨⟨t ++ [p], by simp, fun a h => ?_⟩, x.tup, x.frz, x.oth, x.trk⟩
  rcases List.mem_append.mp h with h | h
  · exact ht a h
  · rw [List.mem_singleton.mp h]; exact hp
/-- μ alone grows -/
theorem ext_more (t : List Addr) : ∀ {d : DV} {v : V}, RV K H μ d v → RV K H (μ ++ t) d v := fun {d v} r => by
  have key : ∀ {l : Nat} {a : Addr}, μ[l]? = some a → (μ ++ t)[l]? = some a := fun {l a} h => by
    obtain ⟨h1, _⟩ := List.getElem?_eq_some_iff.mp h
    rw [List.getElem?_append_left h1]; exact h
  exact RV.rec (motive_1 := fun d v _ => RV K H (μ ++ t) d v) (motive_2 := fun d v _ => RVs K H (μ ++ t) d v) .non .bl .int .str (fun s z _ r => .tup s z r) (fun h => .ref (key h)) (fun s z _ r => .scr s z r) .nil (fun _ _ a b => .cons a b) r
theorem ext_mores (t : List Addr) : ∀ {d : List DV} {v : List V}, RVs K H μ d v → RVs K H (μ ++ t) d v
  | _, _, .nil => .nil
  | _, _, .cons r s => .cons (ext_more t r) (ext_mores t s)
theorem ext_morek (t : List Addr) : ∀ {d : List (Key × DV)} {v : List (Key × V)}, RKs K H μ d v → RKs K H (μ ++ t) d v
  | _, _, .nil => .nil
  | _, _, .cons r s => .cons (ext_more t r) (ext_morek t s)
theorem RO.more (t : List Addr) {o : DO} {a : Addr} (r : RO K H μ o a) : RO K H (μ ++ t) o a := by
  cases r with
  | lst h z r => exact .lst h z (ext_mores t r)
  | dct h z r => exact .dct h z (ext_morek t r)
  | dcn h r q => exact .dcn h (ext_morek t r) (ext_more t q)
/-- a tracked thing becomes a cell -/
theorem RS.adopt {p : Addr} {o : DO} (r : RS K H μ st) (hp : p ∉ μ) (q : RO K H μ o p) : RS K H (μ ++ [p]) (st ++ [o]) := by
  refine ⟨by simp [r.len], ?_, fun l a ob h1 h2 => ?_⟩
  · rw [List.nodup_append]
    exact ⟨r.nd, by simp, fun x hx y hy => by rw [List.mem_singleton.mp hy]; intro e; exact hp (e ▸ hx)⟩
  · by_cases hl : l < μ.length
    · rw [List.getElem?_append_left hl] at h1
      rw [List.getElem?_append_left (by rw [← r.len]; exact hl)] at h2
      exact (r.cell l a ob h1 h2).more _
    · have hl2 : l = μ.length := by
        have := (List.getElem?_eq_some_iff.mp h1).1
        simp at this; omega
      subst hl2
      rw [List.getElem?_append_right (Nat.le_refl _)] at h1
      rw [r.len, List.getElem?_append_right (Nat.le_refl _)] at h2
      simp at h1 h2
      subst h1 h2
      exact q.more _
/-- a cell is written -/
theorem nodup_at {l m : Nat} {a : Addr} (nd : μ.Nodup) (h : μ[l]? = some a) (h' : μ[m]? = some a) : l = m := by
  obtain ⟨h1, e1⟩ := List.getElem?_eq_some_iff.mp h
  obtain ⟨h2, e2⟩ := List.getElem?_eq_some_iff.mp h'
  exact (List.getElem_inj nd).mp (e1.trans e2.symm)
theorem ext_write {a : Addr} {o u : HO} (ha : H a = some u) (hm : a ∈ μ) (h1 : ∀ xs, u ≠ .tup xs) (h2 : ∀ ob w, u ≠ .frz ob w) : Ext H μ (upd H a o) μ := by
  refine ⟨⟨[], by simp, by simp⟩, fun b xs h => ?_, fun b ob w h => ?_, fun b ob hb h => ?_, fun b h => ?_⟩
  · rw [upd_ne (ne_of h ha (h1 xs).symm)]; exact h
  · rw [upd_ne (ne_of h ha (h2 ob w).symm)]; exact h
  · rw [upd_ne (fun e : b = a => hb (by rw [e]; exact hm))]; exact h
  · by_cases e : b = a
    · subst e; rw [upd_same] at h; cases h
    · rw [upd_ne e] at h; exact h
theorem RS.write {l : Nat} {a : Addr} {o : DO} {u u' : HO} (r : RS K H μ st) (hl : μ[l]? = some a) (ha : H a = some u) (h1 : ∀ xs, u ≠ .tup xs) (h2 : ∀ ob w, u ≠ .frz ob w) (q : RO K (upd H a u') μ o a) : RS K (upd H a u') μ (st.set l o) := by
  have x : Ext H μ (upd H a u') μ := ext_write ha (List.mem_of_getElem? hl) h1 h2
  refine ⟨by simp [r.len], r.nd, fun m b ob e1 e2 => ?_⟩
  by_cases hm : l = m
  · subst hm
    rw [hl] at e1; cases e1
    have hlt : l < st.length := by rw [← r.len]; exact (List.getElem?_eq_some_iff.mp hl).1
    rw [List.getElem?_set_self hlt] at e2
    cases e2
    exact q
  · rw [List.getElem?_set_ne hm] at e2
    refine (r.cell m b ob e1 e2).ext x fun w hw => ?_
    rw [upd_ne (fun e => hm ?_)]
    · exact hw
    · subst e; exact nodup_at r.nd hl e1
end
end DL

/-! DL2: judgements by data; expressions. -/
namespace DL
open PySem PySem.Spec PyProof.Rows L2

/-! ### readings -/
def tD (K : PySem.W.Frag) (m : ME DV) : TE := fun σ H Q => ∃ e st μ d st', RE K H μ e σ ∧ RS K H μ st ∧ m e st = some (d, st') ∧
  ∀ H' μ' v, Ext H μ H' μ' → RS K H' μ' st' → RV K H' μ' d v → Q v H'
def tTD (K : PySem.W.Frag) (m : ME Bool) : TT := fun σ H Q => ∃ e st μ d st', RE K H μ e σ ∧ RS K H μ st ∧ m e st = some (d, st') ∧
  ∀ H' μ', Ext H μ H' μ' → RS K H' μ' st' → Q d H'
def tAD (K : PySem.W.Frag) (m : ME (List DV)) : TA := fun σ H Q => ∃ e st μ ds st', RE K H μ e σ ∧ RS K H μ st ∧ m e st = some (ds, st') ∧
  ∀ H' μ' vs, Ext H μ H' μ' → RS K H' μ' st' → RVs K H' μ' ds vs → Q vs H'
/-- a sequence that is read -/
def tQD (K : PySem.W.Frag) (m : ME (List DV)) : TE := fun σ H Q => ∃ e st μ ds st', RE K H μ e σ ∧ RS K H μ st ∧ m e st = some (ds, st') ∧
  ∀ H' μ' a vs, Ext H μ H' μ' → RS K H' μ' st' → (SqL K H' a vs ∨ SqT K H' a vs) → vs.length ≤ sizeLine → RVs K H' μ' ds vs → Q (.ref a) H'
/-- a new list -/
def tFD (K : PySem.W.Frag) (m : ME (List DV)) : TE := fun σ H Q => ∃ e st μ ds st', RE K H μ e σ ∧ RS K H μ st ∧ m e st = some (ds, st') ∧
  ∀ H' μ' a vs, Ext H μ H' μ' → RS K H' μ' st' → H a = none → a ∉ μ' → H' a = some (.lst vs) → vs.length ≤ sizeLine → RVs K H' μ' ds vs → Q (.ref a) H'

def DE (X : Cx) (e : Expr) (m : ME DV) : Prop := PE X e (tD X.K m)
def DT (X : Cx) (e : Expr) (m : ME Bool) : Prop := PT X e (tTD X.K m)
def DW (X : Cx) (e : Expr) (m : ME Bool) : Prop := PW X e (tTD X.K m)
def DA (X : Cx) (es : List Expr) (m : ME (List DV)) : Prop := PA X es (tAD X.K m)
def DQ (X : Cx) (e : Expr) (m : ME (List DV)) : Prop := PE X e (tQD X.K m)
def DF (X : Cx) (e : Expr) (m : ME (List DV)) : Prop := PE X e (tFD X.K m)

theorem pe_imp {X : Cx} {e : Expr} {t t' : TE} (h : PE X e t) (i : ∀ σ H Q, t' σ H Q → t σ H Q) : PE X e t' := ⟨fun pins s σ H Q I q => h.run pins s σ H Q I (i _ _ _ q)⟩
theorem pt_imp {X : Cx} {e : Expr} {t t' : TT} (h : PT X e t) (i : ∀ σ H Q, t' σ H Q → t σ H Q) : PT X e t' := ⟨fun pins s σ H Q I q => h.run pins s σ H Q I (i _ _ _ q)⟩
theorem pw_imp {X : Cx} {e : Expr} {t t' : TT} (h : PW X e t) (i : ∀ σ H Q, t' σ H Q → t σ H Q) : PW X e t' := ⟨fun wh pins s σ H Q I q => h.run wh pins s σ H Q I (i _ _ _ q)⟩
theorem pa_imp {X : Cx} {e : List Expr} {t t' : TA} (h : PA X e t) (i : ∀ σ H Q, t' σ H Q → t σ H Q) : PA X e t' := ⟨fun pos pins s σ H Q I q => h.run pos pins s σ H Q I (i _ _ _ q)⟩
theorem ps_imp {X : Cx} {e : Stmt} {t t' : TS} (h : PS X e t) (i : ∀ D σ H, t' D σ H → t D σ H) : PS X e t' := ⟨fun pins s σ H Q I q => h.run pins s σ H Q I (i _ _ _ q)⟩
theorem pss_imp {X : Cx} {e : List Stmt} {t t' : TS} (h : PSs X e t) (i : ∀ D σ H, t' D σ H → t D σ H) : PSs X e t' := ⟨fun pins s σ H Q I q => h.run pins s σ H Q I (i _ _ _ q)⟩

/-! ### binds taken apart -/
theorem bind_some {α β : Type} {m : ME α} {f : α → ME β} {e : Env} {st : Sto} {r : β × Sto} (h : ME.bind m f e st = some r) : ∃ a st1, m e st = some (a, st1) ∧ f a e st1 = some r := by
  unfold ME.bind at h
  cases q : m e st with
  | none => rw [q] at h; cases h
  | some p => rw [q] at h; exact ⟨p.1, p.2, rfl, h⟩

/-! ### names, constants -/
def mVar (i : Nat) : ME DV := fun e s => match e[i]? with
  | some (some d) => some (d, s)
  | _ => none
def mC (d : DV) : ME DV := fun _ s => some (d, s)
section
variable {X : Cx} {a b c e : Expr} {es : List Expr} {ma mb mc : ME DV} {pos : Pos}
theorem de_var (i : Nat) {x : Str} (hN : X.N[i]? = some x := by rfl) (hv : Vis X.env.scope x := by first | exact Or.inl rfl | exact Or.inr (Or.inl rfl) | exact Or.inr (Or.inr rfl)) (hd : (x == ("__debug__" : Str)) = false := by decide)
    (hcd : (x == ("__classdict__" : Str)) = false := by decide) : DE X (.Name x pos) (mVar i) := by
  refine pe_imp (pe_var hN hv hd hcd) fun σ H Q ⟨e, st, μ, d, st', he, hs, hm, hq⟩ => ?_
  unfold mVar at hm
  split at hm
  · rename_i d' hd'
    cases hm
    obtain ⟨v, h1, h2⟩ := he.val i d hd'
    exact ⟨v, h1, hq H μ v Ext.refl hs h2⟩
  · cases hm
theorem de_c {e : Expr} {v : V} {d : DV} (h : PE X e (tC v)) (hd : ∀ H μ, RV X.K H μ d v) : DE X e (mC d) := by
  refine pe_imp h fun σ H Q ⟨e, st, μ, d', st', he, hs, hm, hq⟩ => ?_
  cases hm
  exact hq H μ v Ext.refl hs (hd H μ)
theorem de_int {i j pos} : DE X (.Constant (.int i) j pos) (mC (.int i)) := de_c pe_int fun _ _ => .int i
theorem de_bl {i j pos} : DE X (.Constant (.bool i) j pos) (mC (.bl i)) := de_c pe_bl fun _ _ => .bl i
theorem de_non {j pos} : DE X (.Constant .none j pos) (mC .non) := de_c pe_non fun _ _ => .non
theorem de_str {i j pos} : DE X (.Constant (.str i) j pos) (mC (.str i)) := de_c pe_str fun _ _ => .str i
theorem de_glob {x : Str} {v : V} {u : Value} {d : DV} (hg : Gl X x) (hm : X.mg x = some u) (r : RelV v u) (hd : ∀ H μ, RV X.K H μ d v) (hb : (x == ("__debug__" : Str)) = false := by decide) : DE X (.Name x pos) (mC d) :=
  de_c (pe_glob hg hm r hb) hd

/-! ### two values -/
abbrev G2 := DV → DV → Sto → Option (DV × Sto)
def rB (K : PySem.W.Frag) (g : G2) : R2 := fun x y H Q => ∃ st μ dx dy d st', RS K H μ st ∧ RV K H μ dx x ∧ RV K H μ dy y ∧ g dx dy st = some (d, st') ∧
  ∀ H' μ' v, Ext H μ H' μ' → RS K H' μ' st' → RV K H' μ' d v → Q v H'
def OpD (X : Cx) (f : Value → Value → Sem Value) (g : G2) : Prop := OpR X f (rB X.K g)
def mBin (g : G2) (ma mb : ME DV) : ME DV := ME.bind ma fun x => ME.bind mb fun y => fun _ s => g x y s
theorem bin_read {g : G2} : ∀ σ H Q, tD X.K (mBin g ma mb) σ H Q → tOp (rB X.K g) (tD X.K ma) (tD X.K mb) σ H Q := by
  intro σ H Q ⟨e, st, μ, d, st', he, hs, hm, hq⟩
  obtain ⟨x, st1, h1, hm⟩ := bind_some hm
  obtain ⟨y, st2, h2, hm⟩ := bind_some hm
  refine ⟨e, st, μ, x, st1, he, hs, h1, fun H1 μ1 v x1 hs1 rv => ?_⟩
  refine ⟨e, st1, μ1, y, st2, he.ext x1, hs1, h2, fun H2 μ2 w x2 hs2 rw' => ?_⟩
  exact ⟨st2, μ2, x, y, d, st', hs2, rv.ext x2, rw', hm, fun H3 μ3 z x3 hs3 rz => hq H3 μ3 z (x1.trans (x2.trans x3)) hs3 rz⟩
theorem de_bin {op : Operator} {g : G2} (ho : OpD X (binaryOp op) g) (ha : DE X a ma) (hb : DE X b mb) : DE X (.BinOp a op b pos) (mBin g ma mb) := pe_imp (pe_op ho ha hb) bin_read
theorem de_cmp {op : CmpOp} {g : G2} (ho : OpD X (compareOp op) g) (ha : DE X a ma) (hb : DE X b mb) (hm : behindInMarks op b = false := by first | exact nobehind _ (by decide) (by decide) | rfl) : DE X (.Compare a [op] [b] pos) (mBin g ma mb) := pe_imp (pe_cmpR ho ha hb hm) bin_read
/-- a bool, as a test -/
def mTst (m : ME DV) : ME Bool := ME.bind m fun d => fun _ s => match d with
  | .bl b => some (b, s)
  | _ => none
theorem tst_read {m : ME DV} {t : TE} (i : ∀ σ H Q, tD X.K m σ H Q → t σ H Q) : ∀ σ H Q, tTD X.K (mTst m) σ H Q → t σ H (fun x H1 => ∃ k, x = .bl k ∧ Q k H1) := by
  intro σ H Q ⟨e, st, μ, d, st', he, hs, hm, hq⟩
  obtain ⟨x, st1, h1, hm⟩ := bind_some hm
  refine i _ _ _ ⟨e, st, μ, x, st1, he, hs, h1, fun H1 μ1 v x1 hs1 rv => ?_⟩
  cases x with
  | bl b =>
    cases hm
    cases rv
    exact ⟨_, rfl, hq H1 μ1 x1 hs1⟩
  | _ => cases hm
theorem dt_cmp {op : CmpOp} {g : G2} (ho : OpD X (compareOp op) g) (ha : DE X a ma) (hb : DE X b mb) (hm : behindInMarks op b = false := by first | exact nobehind _ (by decide) (by decide) | rfl) : DT X (.Compare a [op] [b] pos) (mTst (mBin g ma mb)) :=
  pt_imp (pt_cmpR ho ha hb hm) (tst_read bin_read)
theorem dt_val {m : ME DV} (h : DE X e m) (he : ∀ whole, isTrue e X.env whole = (do let v ← whole; standAt e.pos; holding [v] (truthy v)) := by intro _; rfl) : DT X e (mTst m) :=
  pt_imp (pt_val h he) (tst_read fun _ _ _ h => h)
/-- a < b < c -/
def mChn (g g' : G2) (ma mb mc : ME DV) : ME DV := ME.bind ma fun x => ME.bind mb fun y => ME.bind (fun _ s => g x y s) fun z => match z with
  | .bl true => ME.bind mc fun w => fun _ s => g' y w s
  | .bl false => ME.pure (.bl false)
  | _ => fun _ _ => none
theorem chn_read {g g' : G2} : ∀ σ H Q, tD X.K (mChn g g' ma mb mc) σ H Q → tChain (rB X.K g) (rB X.K g') (tD X.K ma) (tD X.K mb) (tD X.K mc) σ H Q := by
  intro σ H Q ⟨e, st, μ, d, st', he, hs, hm, hq⟩
  obtain ⟨x, st1, h1, hm⟩ := bind_some hm
  obtain ⟨y, st2, h2, hm⟩ := bind_some hm
  obtain ⟨z, st3, h3, hm⟩ := bind_some hm
  refine ⟨e, st, μ, x, st1, he, hs, h1, fun H1 μ1 v x1 hs1 rv => ?_⟩
  refine ⟨e, st1, μ1, y, st2, he.ext x1, hs1, h2, fun H2 μ2 w x2 hs2 rw' => ?_⟩
  refine ⟨st2, μ2, x, y, z, st3, hs2, rv.ext x2, rw', h3, fun H3 μ3 zv x3 hs3 rz => ?_⟩
  cases z with
  | bl k =>
    cases rz
    refine ⟨k, rfl, ?_⟩
    cases k with
    | false =>
      cases hm
      rw [if_neg (by decide)]
      exact hq H3 μ3 _ (x1.trans (x2.trans x3)) hs3 (.bl _)
    | true =>
      obtain ⟨w4, st4, h4, hm⟩ := bind_some hm
      rw [if_pos rfl]
      refine ⟨e, st3, μ3, w4, st4, he.ext (x1.trans (x2.trans x3)), hs3, h4, fun H4 μ4 wv x4 hs4 rw4 => ?_⟩
      exact ⟨st4, μ4, y, w4, d, st', hs4, (rw'.ext x3).ext x4, rw4, hm, fun H5 μ5 z5 x5 hs5 rz5 => hq H5 μ5 z5 (x1.trans (x2.trans (x3.trans (x4.trans x5)))) hs5 rz5⟩
  | _ => cases hm
theorem de_chn {op op' : CmpOp} {g g' : G2} (ho : OpD X (compareOp op) g) (ho' : OpD X (compareOp op') g') (ha : DE X a ma) (hb : DE X b mb) (hc : DE X c mc)
    (hm : lastMarks [op, op'] [b, c] = false := by with_unfolding_all rfl) : DE X (.Compare a [op, op'] [b, c] pos) (mChn g g' ma mb mc) := pe_imp (pe_chain ho ho' ha hb hc hm) chn_read
theorem dt_chn {op op' : CmpOp} {g g' : G2} (ho : OpD X (compareOp op) g) (ho' : OpD X (compareOp op') g') (ha : DE X a ma) (hb : DE X b mb) (hc : DE X c mc)
    (hm : lastMarks [op, op'] [b, c] = false := by with_unfolding_all rfl) : DT X (.Compare a [op, op'] [b, c] pos) (mTst (mChn g g' ma mb mc)) := pt_imp (pt_chain ho ho' ha hb hc hm) (tst_read chn_read)

/-! ### and, or, not, if -/
variable {ta tb tc : ME Bool} {rest : List Expr}
def mAndT (s t : ME Bool) : ME Bool := ME.bind s fun b => match b with | true => t | false => ME.pure false
def mOrT (s t : ME Bool) : ME Bool := ME.bind s fun b => match b with | true => ME.pure true | false => t
def mNotT (s : ME Bool) : ME Bool := ME.bind s fun b => ME.pure (!b)
theorem dt_w (h : DW X e ta) : DT X e ta := h.pt
theorem dw_and1 (ha : DT X a ta) : DW X (.BoolOp .And [a] pos) ta := pw_and1 ha
theorem dw_or1 (ha : DT X a ta) : DW X (.BoolOp .Or [a] pos) ta := pw_or1 ha
theorem dw_and (ha : DT X a ta) (hb : DW X (.BoolOp .And (b :: rest) pos) tb) : DW X (.BoolOp .And (a :: b :: rest) pos) (mAndT ta tb) := by
  refine pw_imp (pw_and ha hb) fun σ H Q ⟨e, st, μ, d, st', he, hs, hm, hq⟩ => ?_
  obtain ⟨x, st1, h1, hm⟩ := bind_some hm
  refine ⟨e, st, μ, x, st1, he, hs, h1, fun H1 μ1 x1 hs1 => ?_⟩
  cases x with
  | true =>
    rw [if_pos rfl]
    exact ⟨e, st1, μ1, d, st', he.ext x1, hs1, hm, fun H2 μ2 x2 hs2 => hq H2 μ2 (x1.trans x2) hs2⟩
  | false =>
    cases hm
    rw [if_neg (by decide)]
    exact hq H1 μ1 x1 hs1
theorem dw_or (ha : DT X a ta) (hb : DW X (.BoolOp .Or (b :: rest) pos) tb) : DW X (.BoolOp .Or (a :: b :: rest) pos) (mOrT ta tb) := by
  refine pw_imp (pw_or ha hb) fun σ H Q ⟨e, st, μ, d, st', he, hs, hm, hq⟩ => ?_
  obtain ⟨x, st1, h1, hm⟩ := bind_some hm
  refine ⟨e, st, μ, x, st1, he, hs, h1, fun H1 μ1 x1 hs1 => ?_⟩
  cases x with
  | false =>
    rw [if_neg (by decide)]
    exact ⟨e, st1, μ1, d, st', he.ext x1, hs1, hm, fun H2 μ2 x2 hs2 => hq H2 μ2 (x1.trans x2) hs2⟩
  | true =>
    cases hm
    rw [if_pos rfl]
    exact hq H1 μ1 x1 hs1
theorem dt_not (ha : DT X a ta) : DT X (.UnaryOp .Not a pos) (mNotT ta) := by
  refine pt_imp (pt_not ha) fun σ H Q ⟨e, st, μ, d, st', he, hs, hm, hq⟩ => ?_
  obtain ⟨x, st1, h1, hm⟩ := bind_some hm
  cases hm
  exact ⟨e, st, μ, x, _, he, hs, h1, fun H1 μ1 x1 hs1 => hq H1 μ1 x1 hs1⟩
/-- as values: bools -/
def mAnd (s t : ME DV) : ME DV := ME.bind s fun b => match b with | .bl true => t | .bl false => ME.pure (.bl false) | _ => fun _ _ => none
def mOr (s t : ME DV) : ME DV := ME.bind s fun b => match b with | .bl true => ME.pure (.bl true) | .bl false => t | _ => fun _ _ => none
def mNot (s : ME DV) : ME DV := ME.bind s fun b => match b with | .bl b => ME.pure (.bl (!b)) | _ => fun _ _ => none
theorem de_one {op} (h : DE X a ma) : DE X (.BoolOp op [a] pos) ma := pe_one h
theorem de_and (ha : DE X a ma) (hb : DE X (.BoolOp .And (b :: rest) pos) mb) : DE X (.BoolOp .And (a :: b :: rest) pos) (mAnd ma mb) := by
  refine pe_imp (pe_and ha hb) fun σ H Q ⟨e, st, μ, d, st', he, hs, hm, hq⟩ => ?_
  obtain ⟨x, st1, h1, hm⟩ := bind_some hm
  refine ⟨e, st, μ, x, st1, he, hs, h1, fun H1 μ1 v x1 hs1 rv => ?_⟩
  cases x with
  | bl k =>
    cases rv
    refine ⟨k, rfl, ?_⟩
    cases k with
    | true =>
      rw [if_pos rfl]
      exact ⟨e, st1, μ1, d, st', he.ext x1, hs1, hm, fun H2 μ2 v x2 hs2 rv => hq H2 μ2 v (x1.trans x2) hs2 rv⟩
    | false =>
      cases hm
      rw [if_neg (by decide)]
      exact hq H1 μ1 _ x1 hs1 (.bl _)
  | _ => cases hm
theorem de_or (ha : DE X a ma) (hb : DE X (.BoolOp .Or (b :: rest) pos) mb) : DE X (.BoolOp .Or (a :: b :: rest) pos) (mOr ma mb) := by
  refine pe_imp (pe_or ha hb) fun σ H Q ⟨e, st, μ, d, st', he, hs, hm, hq⟩ => ?_
  obtain ⟨x, st1, h1, hm⟩ := bind_some hm
  refine ⟨e, st, μ, x, st1, he, hs, h1, fun H1 μ1 v x1 hs1 rv => ?_⟩
  cases x with
  | bl k =>
    cases rv
    refine ⟨k, rfl, ?_⟩
    cases k with
    | false =>
      rw [if_neg (by decide)]
      exact ⟨e, st1, μ1, d, st', he.ext x1, hs1, hm, fun H2 μ2 v x2 hs2 rv => hq H2 μ2 v (x1.trans x2) hs2 rv⟩
    | true =>
      cases hm
      rw [if_pos rfl]
      exact hq H1 μ1 _ x1 hs1 (.bl _)
  | _ => cases hm
theorem de_not (ha : DE X a ma) : DE X (.UnaryOp .Not a pos) (mNot ma) := by
  refine pe_imp (pe_not ha) fun σ H Q ⟨e, st, μ, d, st', he, hs, hm, hq⟩ => ?_
  obtain ⟨x, st1, h1, hm⟩ := bind_some hm
  refine ⟨e, st, μ, x, st1, he, hs, h1, fun H1 μ1 v x1 hs1 rv => ?_⟩
  cases x with
  | bl k =>
    cases rv
    cases hm
    exact ⟨k, rfl, hq H1 μ1 _ x1 hs1 (.bl _)⟩
  | _ => cases hm
def mIf {α : Type} (t : ME Bool) (x y : ME α) : ME α := ME.bind t fun b => match b with | true => x | false => y
theorem de_if {t : Expr} (ht : DT X t ta) (ha : DE X a ma) (hb : DE X b mb) : DE X (.IfExp t a b pos) (mIf ta ma mb) := by
  refine pe_imp (pe_ifExp ht ha hb) fun σ H Q ⟨e, st, μ, d, st', he, hs, hm, hq⟩ => ?_
  obtain ⟨x, st1, h1, hm⟩ := bind_some hm
  refine ⟨e, st, μ, x, st1, he, hs, h1, fun H1 μ1 x1 hs1 => ?_⟩
  cases x with
  | true =>
    rw [if_pos rfl]
    exact ⟨e, st1, μ1, d, st', he.ext x1, hs1, hm, fun H2 μ2 v x2 hs2 rv => hq H2 μ2 v (x1.trans x2) hs2 rv⟩
  | false =>
    rw [if_neg (by decide)]
    exact ⟨e, st1, μ1, d, st', he.ext x1, hs1, hm, fun H2 μ2 v x2 hs2 rv => hq H2 μ2 v (x1.trans x2) hs2 rv⟩

/-! ### arguments, tuples, lists -/
def mArgs : List (ME DV) → ME (List DV)
  | [] => ME.pure []
  | m :: ms => ME.bind m fun d => ME.bind (mArgs ms) fun ds => ME.pure (d :: ds)
theorem da_nil : DA X [] (mArgs []) := pa_imp pa_nil fun σ H Q ⟨e, st, μ, d, st', he, hs, hm, hq⟩ => by
  cases hm
  exact hq H μ [] Ext.refl hs .nil
theorem da_cons {m : ME DV} {ms : List (ME DV)} (ha : DE X e m) (hr : DA X es (mArgs ms)) (hs : starEach (e :: es) X.env = (false, eval e X.env) :: starEach es X.env := by rfl) : DA X (e :: es) (mArgs (m :: ms)) := by
  refine pa_imp (pa_cons ha hr hs) fun σ H Q ⟨e, st, μ, d, st', he, hs, hm, hq⟩ => ?_
  obtain ⟨x, st1, h1, hm⟩ := bind_some hm
  obtain ⟨xs, st2, h2, hm⟩ := bind_some hm
  cases hm
  refine ⟨e, st, μ, x, st1, he, hs, h1, fun H1 μ1 v x1 hs1 rv => ?_⟩
  exact ⟨e, st1, μ1, xs, _, he.ext x1, hs1, h2, fun H2 μ2 vs x2 hs2 rvs => hq H2 μ2 _ (x1.trans x2) hs2 (.cons (rv.ext x2) rvs)⟩
theorem args_len : ∀ (ms : List (ME DV)) (e : Env) (st : Sto) (ds : List DV) (st' : Sto), mArgs ms e st = some (ds, st') → ds.length = ms.length
  | [], e, st, ds, st', h => by cases h; rfl
  | m :: ms, e, st, ds, st', h => by
    obtain ⟨x, st1, h1, h⟩ := bind_some h
    obtain ⟨xs, st2, h2, h⟩ := bind_some h
    cases h
    rw [List.length_cons, List.length_cons, args_len ms _ _ _ _ h2]
def mTup (ms : List (ME DV)) : ME DV := ME.bind (mArgs ms) fun ds => ME.pure (.tup ds)
theorem de_tup {k : Nat} {ms : List (ME DV)} (h : DA X es (mArgs ms)) (hz : ms.length ≤ sizeLine := by decide) : DE X (.Tuple es k pos) (mTup ms) := by
  refine pe_imp (pe_tup h) fun σ H Q ⟨e, st, μ, d, st', he, hs, hm, hq⟩ => ?_
  obtain ⟨x, st1, h1, hm⟩ := bind_some hm
  cases hm
  refine ⟨e, st, μ, x, _, he, hs, h1, fun H1 μ1 vs x1 hs1 rvs => ?_⟩
  have hl : vs.length ≤ sizeLine := by rw [← rvs.length, args_len _ _ _ _ _ h1]; exact hz
  refine ⟨hl, fun p hp => hq _ μ1 _ (x1.trans (ext_new hp)) (hs1.new hp) (.tup (SqT.of upd_same) hl (rvs.ext (ext_new hp)))⟩
/-- what is new is tracked: p -/
theorem fresh_new {K : PySem.W.Frag} {H H1 : Hp} {μ μ1 : List Addr} {p : Addr} {st1 : Sto} (x1 : Ext H μ H1 μ1) (hs1 : RS K H1 μ1 st1) (hp : H1 p = none) : H p = none ∧ p ∉ μ1 := ⟨x1.trk p hp, fun h => hs1.trk h hp⟩
theorem df_lst {ms : List (ME DV)} (h : DA X es (mArgs ms)) (hz : ms.length ≤ sizeLine := by decide) : DF X (.List es pos) (mArgs ms) := by
  refine pe_imp (pe_lst h) fun σ H Q ⟨e, st, μ, d, st', he, hs, hm, hq⟩ => ?_
  refine ⟨e, st, μ, d, st', he, hs, hm, fun H1 μ1 vs x1 hs1 rvs => ?_⟩
  have hl : vs.length ≤ sizeLine := by rw [← rvs.length, args_len _ _ _ _ _ hm]; exact hz
  refine ⟨hl, fun p hp => ?_⟩
  obtain ⟨n1, n2⟩ := fresh_new x1 hs1 hp
  exact hq _ μ1 p vs (x1.trans (ext_new hp)) (hs1.new hp) n1 n2 upd_same hl (rvs.ext (ext_new hp))
/-- a new list becomes a cell -/
def mNew (m : ME (List DV)) : ME DV := ME.bind m fun ds => fun _ st => some (.ref st.length, st ++ [.lst ds])
theorem at_end {μ : List Addr} {p : Addr} {n : Nat} (h : μ.length = n) : (μ ++ [p])[n]? = some p := by
  subst h
  simp
theorem new_read {m : ME (List DV)} : ∀ σ H Q, tD X.K (mNew m) σ H Q → tFD X.K m σ H Q := by
  intro σ H Q ⟨e, st, μ, d, st', he, hs, hm, hq⟩
  obtain ⟨ds, st1, h1, hm⟩ := bind_some hm
  cases hm
  refine ⟨e, st, μ, ds, st1, he, hs, h1, fun H1 μ1 a vs x1 hs1 n1 n2 ha hl rvs => ?_⟩
  obtain ⟨t, et, ht⟩ := x1.pre
  refine hq H1 (μ1 ++ [a]) (.ref a) ⟨⟨t ++ [a], by rw [et, List.append_assoc], fun b hb => ?_⟩, x1.tup, x1.frz, x1.oth, x1.trk⟩ (hs1.adopt n2 (.lst ha hl rvs)) (.ref (at_end hs1.len))
  rcases List.mem_append.mp hb with hb | hb
  · exact ht b hb
  · rw [List.mem_singleton.mp hb]; exact n1
theorem df_new {m : ME (List DV)} (h : DF X e m) : DE X e (mNew m) := pe_imp h new_read
theorem df_q {m : ME (List DV)} (h : DF X e m) : DQ X e m := pe_imp h fun σ H Q ⟨e, st, μ, d, st', he, hs, hm, hq⟩ =>
  ⟨e, st, μ, d, st', he, hs, hm, fun H1 μ1 a vs x1 hs1 n1 n2 ha hl rvs => hq H1 μ1 a vs x1 hs1 (.inl (SqL.of ha)) hl rvs⟩
/-- the items of a value -/
def itemsOf (st : Sto) : DV → Option (List DV)
  | .tup ds => some ds
  | .scr ds => some ds
  | .ref l => match st[l]? with
    | some (.lst ds) => some ds
    | _ => none
  | _ => none
def mSeq (m : ME DV) : ME (List DV) := ME.bind m fun d => fun _ st => match itemsOf st d with
  | some ds => some (ds, st)
  | none => none
theorem items_read {K : PySem.W.Frag} {H : Hp} {μ : List Addr} {st : Sto} {d : DV} {ds : List DV} {v : V} (hs : RS K H μ st) (h : itemsOf st d = some ds) (r : RV K H μ d v) :
    ∃ a vs, v = .ref a ∧ (SqL K H a vs ∨ SqT K H a vs) ∧ vs.length ≤ sizeLine ∧ RVs K H μ ds vs := by
  cases r with
  | tup s z rs => cases h; exact ⟨_, _, rfl, .inr s, z, rs⟩
  | scr s z rs => cases h; exact ⟨_, _, rfl, .inl s.sql, z, rs⟩
  | @ref l a hl =>
    have h : (match st[l]? with
      | some (.lst ds) => some ds
      | _ => none) = some ds := h
    split at h
    · rename_i ds' e'
      injection h with h
      subst h
      have := hs.cell l a _ hl e'
      cases this with
      | lst h z rs => exact ⟨_, _, rfl, .inl (SqL.of h), z, rs⟩
    · exact nomatch h
  | non => exact nomatch h
  | bl b => exact nomatch h
  | int b => exact nomatch h
  | str b => exact nomatch h
theorem dq_val {m : ME DV} (h : DE X e m) : DQ X e (mSeq m) := pe_imp h fun σ H Q ⟨e, st, μ, d, st', he, hs, hm, hq⟩ => by
  obtain ⟨x, st1, h1, hm⟩ := bind_some hm
  refine ⟨e, st, μ, x, st1, he, hs, h1, fun H1 μ1 v x1 hs1 rv => ?_⟩
  cases q : itemsOf st1 x with
  | none => rw [q] at hm; cases hm
  | some ds =>
    rw [q] at hm
    cases hm
    obtain ⟨a, vs, rfl, hq', hl, rvs⟩ := items_read hs1 q rv
    exact hq H1 μ1 a vs x1 hs1 hq' hl rvs
end
end DL

/-! DL3: operators by data. -/
namespace DL
open PySem PySem.Spec PyProof.Rows L2

/-- sizes that are let -/
abbrev LIM : Nat := 10000000
theorem lim_ok {n : Nat} (h : n ≤ LIM) : n ≤ sizeLine := by rw [sizeLine_eq]; exact Nat.le_trans h (by decide)
theorem lim_lt {n : Nat} (h : n < LIM) : n < sizeLine := by rw [sizeLine_eq]; exact Nat.lt_of_lt_of_le h (by decide)

/-! ### sums -/
def gAdd : G2
  | .int i, .int j, st => some (.int (i + j), st)
  | .tup a, .tup b, st => if a.length + b.length ≤ LIM then some (.tup (a ++ b), st) else none
  | .ref l, .ref k, st => match st[l]?, st[k]? with
    | some (.lst a), some (.lst b) => if a.length + b.length ≤ LIM then some (.ref st.length, st ++ [.lst (a ++ b)]) else none
    | _, _ => none
  | .str a, .str b, st => if a.length + b.length ≤ LIM then some (.str (a ++ b), st) else none
  | _, _, _ => none
section
variable {X : Cx}
theorem cat_tup0 {prog : Program} {w : World} {A : Around} {E : Value → Shared → Prop} {s : Shared} {t b : Addr} {ws : List Value} {Q : Value → Shared → Prop} (ht : IsTup s.heap t (([] : List Value).toArray)) (hb : IsTup s.heap b ws.toArray)
    (hq : Q (.ref b) s) : wpAny (model prog w) A (binaryOp .Add (.ref t) (.ref b)) Q E s := by
  obtain ⟨⟨c1, d1, x1, sl1⟩, g1, k1, n1, y1⟩ := ht
  obtain ⟨⟨c2, d2, x2, sl2⟩, g2, k2, n2, y2⟩ := hb
  dsimp only at k1 y1 k2 y2
  subst k1; subst y1; subst k2; subst y2
  exact concat_meets ⟨_, g1, rfl⟩ ⟨_, g2, rfl⟩ noFill_tuple_add seq_tuple_add PySem.F.slot_tuple_add PySem.F.entry_tuple_add (PySem.F.args_tuple_add_2 _ _)
    (tuple_addW0 t b _ ws.toArray n1 n2 d1 d2 sl1 sl2 rfl) ⟨g1, g2, hq⟩
/-- t + () for the empty t -/
def rCat0 (K : PySem.W.Frag) : R2 := fun x y H Q => ∃ a b ys, x = .ref a ∧ y = .ref b ∧ SqT K H a [] ∧ SqT K H b ys ∧ Q (.ref b) H
theorem op_cat0 : OpR X (binaryOp .Add) (rCat0 X.K) := by
  intro pins s σ H x y v u Q I rx ry h
  obtain ⟨a, b, ys, rfl, rfl, ha, hb, q⟩ := h
  cases rx
  cases ry
  obtain ⟨its, r1, p1, _⟩ := I.tuple ha
  obtain ⟨its2, r2, p2, _⟩ := I.tuple hb
  cases r1
  exact cat_tup0 p1 p2 ⟨.ref b, H, I, rfl, q⟩
theorem od_add : OpD X (binaryOp .Add) gAdd := by
  intro pins s σ H x y v u Q I rx ry ⟨st, μ, dx, dy, d, st', hs, r1, r2, hg, hq⟩
  cases r1 with
  | int i =>
    cases r2 with
    | int j =>
      cases hg
      exact op_add pins s σ H _ _ v u Q I rx ry ⟨i, j, rfl, rfl, hq H μ _ Ext.refl hs (.int _)⟩
    | _ => exact nomatch hg
  | str i =>
    cases r2 with
    | str j =>
      have hg : (if i.length + j.length ≤ LIM then some (DV.str (i ++ j), st) else none) = some (d, st') := hg
      split at hg
      · cases hg
        rename_i hz
        exact op_add_str pins s σ H _ _ v u Q I rx ry ⟨i, j, rfl, rfl, lim_ok hz, hq H μ _ Ext.refl hs (.str _)⟩
      · exact nomatch hg
    | _ => exact nomatch hg
  | @tup a ds vs s1 z1 q1 =>
    cases r2 with
    | @tup b es ws s2 z2 q2 =>
      have hg : (if ds.length + es.length ≤ LIM then some (DV.tup (ds ++ es), st) else none) = some (d, st') := hg
      split at hg
      · cases hg
        rename_i hz
        have hz' : vs.length + ws.length ≤ sizeLine := by rw [← q1.length, ← q2.length]; exact lim_ok hz
        by_cases e1 : vs = []
        · subst e1
          cases q1
          exact op_cat0 pins s σ H _ _ v u Q I rx ry ⟨a, b, ws, rfl, rfl, s1, s2, hq H μ _ Ext.refl hs (.tup s2 z2 q2)⟩
        · refine op_catT pins s σ H _ _ v u Q I rx ry ⟨a, b, vs, ws, rfl, rfl, s1, s2, e1, hz', ?_, fun _ p hp => ?_⟩
          · intro e2
            subst e2
            cases q2
            refine hq H μ _ Ext.refl hs (.tup s1 z1 ?_)
            rw [List.append_nil]; exact q1
          · exact hq _ μ _ (ext_new hp) (hs.new hp) (.tup (SqT.of upd_same) (by rw [List.length_append]; exact hz') ((q1.append q2).ext (ext_new hp)))
      · exact nomatch hg
    | _ => exact nomatch hg
  | @ref l a hl =>
    cases r2 with
    | @ref k b hk =>
      have hg : (match st[l]?, st[k]? with
        | some (.lst a), some (.lst b) => if a.length + b.length ≤ LIM then some (DV.ref st.length, st ++ [.lst (a ++ b)]) else none
        | _, _ => none) = some (d, st') := hg
      split at hg
      · rename_i ds es e1 e2
        split at hg
        · cases hg
          rename_i hz
          have c1 := hs.cell l a _ hl e1
          have c2 := hs.cell k b _ hk e2
          cases c1 with
          | @lst _ vs _ h1 z1 q1 =>
            cases c2 with
            | @lst _ ws _ h2 z2 q2 =>
              have hz' : vs.length + ws.length ≤ sizeLine := by rw [← q1.length, ← q2.length]; exact lim_ok hz
              refine op_cat pins s σ H _ _ v u Q I rx ry ⟨a, b, vs, ws, rfl, rfl, h1, h2, hz', fun p hp => ?_⟩
              have hs' := hs.new (o := .lst (vs ++ ws)) hp
              have hpm : p ∉ μ := fun z => hs.trk z hp
              exact hq _ (μ ++ [p]) (.ref p) (ext_mu hp (ext_new hp) hp) (hs'.adopt hpm (.lst upd_same (by rw [List.length_append]; exact hz') ((q1.append q2).ext (ext_new hp)))) (.ref (at_end hs.len))
        · exact nomatch hg
      · exact nomatch hg
    | _ => exact nomatch hg
  | _ => cases r2 <;> exact nomatch hg

/-! ### ints -/
def gI (c : Int → Int → Bool) (f : Int → Int → DV) : G2
  | .int i, .int j, st => if c i j = true then some (f i j, st) else none
  | _, _, _ => none
theorem od_I {h : Value → Value → Sem Value} {C : Int → Int → Prop} {c : Int → Int → Bool} {g : Int → Int → V} {f : Int → Int → DV} (ho : OpR X h (rI C g)) (hc : ∀ i j, c i j = true → C i j)
    (hf : ∀ K H μ i j, RV K H μ (f i j) (g i j)) : OpD X h (gI c f) := by
  intro pins s σ H x y v u Q I rx ry ⟨st, μ, dx, dy, d, st', hs, r1, r2, hg, hq⟩
  cases r1 with
  | int i =>
    cases r2 with
    | int j =>
      have hg : (if c i j = true then some (f i j, st) else none) = some (d, st') := hg
      split at hg
      · cases hg
        rename_i hz
        exact ho pins s σ H _ _ v u Q I rx ry ⟨i, j, rfl, rfl, hc _ _ hz, hq H μ _ Ext.refl hs (hf _ _ _ _ _)⟩
      · exact nomatch hg
    | _ => exact nomatch hg
  | _ => cases r2 <;> exact nomatch hg
theorem rI_of {h : Value → Value → Sem Value} {g : Int → Int → V} (ho : OpR X h (rI0 g)) : OpR X h (rI (fun _ _ => True) g) := by
  intro pins s σ H x y v u Q I rx ry ⟨i, j, e1, e2, _, q⟩
  exact ho pins s σ H x y v u Q I rx ry ⟨i, j, e1, e2, q⟩
def yes2 : Int → Int → Bool := fun _ _ => true
def gSub : G2 := gI yes2 fun i j => .int (i - j)
def small (i : Int) : Bool := decide (-18446744073709551616 < i) && decide (i < 18446744073709551616)
def gMul : G2 := gI (fun i j => small i || small j) fun i j => .int (i * j)
def gMod : G2 := gI (fun _ j => decide (0 < j)) fun i j => .int (i % j)
def gDiv : G2 := gI (fun _ j => decide (0 < j) && decide (j < 1073741824)) fun i j => .int (i / j)
def gLt : G2 := gI yes2 fun i j => .bl (decide (i < j))
def gLe : G2 := gI yes2 fun i j => .bl (decide (i ≤ j))
def gGt : G2 := gI yes2 fun i j => .bl (decide (j < i))
def gGe : G2 := gI yes2 fun i j => .bl (decide (j ≤ i))
theorem od_sub : OpD X (binaryOp .Sub) gSub := od_I (rI_of op_sub) (fun _ _ _ => trivial) fun _ _ _ i j => .int _
theorem od_mul : OpD X (binaryOp .Mult) gMul := od_I op_mul (fun i j h => by
  simp only [small, Bool.or_eq_true, Bool.and_eq_true, decide_eq_true_eq] at h
  rcases h with h | h
  · exact .inl ⟨by have := h.1; omega, by have := h.2; omega⟩
  · exact .inr ⟨by have := h.1; omega, by have := h.2; omega⟩) fun _ _ _ i j => .int _
theorem od_mod : OpD X (binaryOp .Mod) gMod := od_I op_mod (fun i j h => by simpa using h) fun _ _ _ i j => .int _
theorem od_div : OpD X (binaryOp .FloorDiv) gDiv := od_I op_fdiv (fun i j h => by simpa [CDiv] using h) fun _ _ _ i j => .int _
theorem od_lt : OpD X (compareOp .Lt) gLt := od_I (rI_of op_lt) (fun _ _ _ => trivial) fun _ _ _ i j => .bl _
theorem od_le : OpD X (compareOp .LtE) gLe := od_I (rI_of op_le) (fun _ _ _ => trivial) fun _ _ _ i j => .bl _
theorem od_gt : OpD X (compareOp .Gt) gGt := od_I (rI_of op_gt) (fun _ _ _ => trivial) fun _ _ _ i j => .bl _
theorem od_ge : OpD X (compareOp .GtE) gGe := od_I (rI_of op_ge) (fun _ _ _ => trivial) fun _ _ _ i j => .bl _

/-! ### is None -/
def isN : DV → Bool
  | .non => true
  | _ => false
theorem isN_of {K : PySem.W.Frag} {H : Hp} {μ : List Addr} {d : DV} {v : V} (r : RV K H μ d v) : decide (v = .non) = isN d := by
  cases r <;> simp [isN]
def gIs : G2
  | x, .non, st => some (.bl (isN x), st)
  | _, _, _ => none
def gIsNot : G2
  | x, .non, st => some (.bl (!isN x), st)
  | _, _, _ => none
theorem od_is : OpD X (compareOp .Is) gIs := by
  intro pins s σ H x y v u Q I rx ry ⟨st, μ, dx, dy, d, st', hs, r1, r2, hg, hq⟩
  cases r2 with
  | non =>
    cases hg
    refine op_isN pins s σ H _ _ v u Q I rx ry ⟨rfl, ?_⟩
    rw [isN_of r1]
    exact hq H μ _ Ext.refl hs (.bl _)
  | _ => exact nomatch hg
theorem od_isnot : OpD X (compareOp .IsNot) gIsNot := by
  intro pins s σ H x y v u Q I rx ry ⟨st, μ, dx, dy, d, st', hs, r1, r2, hg, hq⟩
  cases r2 with
  | non =>
    cases hg
    refine op_notN pins s σ H _ _ v u Q I rx ry ⟨rfl, ?_⟩
    rw [isN_of r1]
    exact hq H μ _ Ext.refl hs (.bl _)
  | _ => exact nomatch hg

/-! ### == -/
mutual
def toP : DV → PyData
  | .non => .none
  | .bl b => .bool b
  | .int i => .int i
  | .str x => .str x
  | .tup xs => .tuple (toPs xs)
  | .ref _ => .none
  | .scr _ => .none
def toPs : List DV → List PyData
  | [] => []
  | x :: xs => toP x :: toPs xs
end
/-- data without cells, nested at most so deep -/
def okD : Nat → DV → Bool
  | _, .non => true
  | _, .bl _ => true
  | _, .int _ => true
  | _, .str x => PyData.strOk x
  | n + 1, .tup xs => xs.all (okD n)
  | _, _ => false
def toPS (st : Sto) : DV → Option PyData
  | .ref l => match st[l]? with
    | some (.lst ds) => if ds.all (okD 8) = true then some (.list (toPs ds)) else none
    | _ => none
  | d => if okD 8 d = true then some (toP d) else none
theorem dps_of {K : PySem.W.Frag} {H : Hp} {μ : List Addr} {n : Nat} (ih : ∀ {d : DV} {v : V}, RV K H μ d v → okD n d = true → Dp K H v (toP d) ∧ (toP d).canLay0 = true ∧ (toP d).depth ≤ n + 1) :
    ∀ {ds : List DV} {vs : List V}, RVs K H μ ds vs → ds.all (okD n) = true → DpAll K H vs (toPs ds) ∧ PyData.canLayAll0 (toPs ds) = true ∧ PyData.depthAll (toPs ds) ≤ n + 1
  | _, _, .nil, _ => ⟨.nil, rfl, Nat.zero_le _⟩
  | _, _, .cons r rs, h => by
    rw [List.all_cons, Bool.and_eq_true] at h
    obtain ⟨a1, a2, a3⟩ := ih r h.1
    obtain ⟨b1, b2, b3⟩ := dps_of ih rs h.2
    refine ⟨.cons a1 b1, ?_, ?_⟩
    · simp only [toPs, PyData.canLayAll0, a2, b2, Bool.and_self]
    · simp only [toPs, PyData.depthAll]
      omega
theorem dp_of {K : PySem.W.Frag} {H : Hp} {μ : List Addr} : ∀ (n : Nat) {d : DV} {v : V}, RV K H μ d v → okD n d = true → Dp K H v (toP d) ∧ (toP d).canLay0 = true ∧ (toP d).depth ≤ n + 1
  | n, _, _, .non, _ => ⟨.non, by simp [toP, PyData.canLay0], by simp [toP, PyData.depth]⟩
  | n, _, _, .bl b, _ => ⟨.bl b, by simp [toP, PyData.canLay0], by simp [toP, PyData.depth]⟩
  | n, _, _, .int b, _ => ⟨.int b, by simp [toP, PyData.canLay0], by simp [toP, PyData.depth]⟩
  | n, _, _, .str b, h => ⟨.str b, by cases n <;> simpa [toP, PyData.canLay0, okD] using h, by simp [toP, PyData.depth]⟩
  | 0, _, _, .tup s z rs, h => by simp [okD] at h
  | n + 1, _, _, .tup s z rs, h => by
    have h' := h
    simp only [okD] at h'
    obtain ⟨a1, a2, a3⟩ := dps_of (fun r q => dp_of n r q) rs h'
    exact ⟨.tup s a1, by simpa [toP, PyData.canLay0] using a2, by simp only [toP, PyData.depth]; omega⟩
  | n, _, _, .ref _, h => by cases n <;> simp [okD] at h
  | n, _, _, .scr _ _ _, h => by cases n <;> simp [okD] at h
theorem shaped_of {p : PyData} (h1 : p.canLay0 = true) (h2 : p.depth ≤ 20) : SeqAt.shaped p = true := by
  unfold SeqAt.shaped
  rw [h1, Bool.true_and]
  exact decide_eq_true (by omega)
theorem toPS_of {K : PySem.W.Frag} {H : Hp} {μ : List Addr} {st : Sto} {d : DV} {v : V} {p : PyData} (hs : RS K H μ st) (r : RV K H μ d v) (h : toPS st d = some p) : Dp K H v p ∧ SeqAt.shaped p = true := by
  have flat : ∀ {d : DV} {v : V}, RV K H μ d v → (if okD 8 d = true then some (toP d) else none) = some p → Dp K H v p ∧ SeqAt.shaped p = true := fun {d v} r h => by
    split at h
    · rename_i hk
      cases h
      obtain ⟨a1, a2, a3⟩ := dp_of 8 r hk
      exact ⟨a1, shaped_of a2 (by omega)⟩
    · exact nomatch h
  cases r with
  | @ref l a hl =>
    have h : (match st[l]? with
      | some (.lst ds) => if ds.all (okD 8) = true then some (PyData.list (toPs ds)) else none
      | _ => none) = some p := h
    split at h
    · rename_i ds e
      split at h
      · rename_i hk
        cases h
        have c := hs.cell l a _ hl e
        cases c with
        | lst h z rs =>
          obtain ⟨a1, a2, a3⟩ := dps_of (fun r q => dp_of 8 r q) rs hk
          exact ⟨.lst (SqL.of h) a1, shaped_of (by simpa [PyData.canLay0] using a2) (by simp only [PyData.depth]; omega)⟩
      · exact nomatch h
    · exact nomatch h
  | non => exact flat .non h
  | bl b => exact flat (.bl b) h
  | int b => exact flat (.int b) h
  | str b => exact flat (.str b) h
  | tup s z rs => exact flat (.tup s z rs) h
  | scr s z rs => exact flat (.scr s z rs) h
def gEq : G2 := fun x y st => match toPS st x, toPS st y with
  | some p, some q => some (.bl (PyData.eqv p q), st)
  | _, _ => none
def gNe : G2 := fun x y st => match toPS st x, toPS st y with
  | some p, some q => some (.bl (!PyData.eqv p q), st)
  | _, _ => none
theorem od_eq (hu : X.A.units + 64 < cLine) : OpD X (compareOp .Eq) gEq := by
  intro pins s σ H x y v u Q I rx ry ⟨st, μ, dx, dy, d, st', hs, r1, r2, hg, hq⟩
  unfold gEq at hg
  split at hg
  · rename_i p q e1 e2
    cases hg
    obtain ⟨a1, a2⟩ := toPS_of hs r1 e1
    obtain ⟨b1, b2⟩ := toPS_of hs r2 e2
    exact op_eqD hu pins s σ H _ _ v u Q I rx ry ⟨p, q, a1, b1, a2, b2, hq H μ _ Ext.refl hs (.bl _)⟩
  · exact nomatch hg
theorem od_ne (hu : X.A.units + 64 < cLine) : OpD X (compareOp .NotEq) gNe := by
  intro pins s σ H x y v u Q I rx ry ⟨st, μ, dx, dy, d, st', hs, r1, r2, hg, hq⟩
  unfold gNe at hg
  split at hg
  · rename_i p q e1 e2
    cases hg
    obtain ⟨a1, a2⟩ := toPS_of hs r1 e1
    obtain ⟨b1, b2⟩ := toPS_of hs r2 e2
    exact op_neD hu pins s σ H _ _ v u Q I rx ry ⟨p, q, a1, b1, a2, b2, hq H μ _ Ext.refl hs (.bl _)⟩
  · exact nomatch hg

/-! ### in -/
def flatD : DV → Bool
  | .non => true
  | .bl _ => true
  | .int _ => true
  | .str _ => true
  | _ => false
/-- == of flat data -/
def eqF : DV → DV → Bool
  | .non, .non => true
  | .bl a, .bl b => a == b
  | .bl a, .int b => (if a then 1 else 0) == b
  | .int a, .bl b => a == (if b then 1 else 0)
  | .int a, .int b => a == b
  | .str a, .str b => a == b
  | _, _ => false
theorem flat_of {K : PySem.W.Frag} {H : Hp} {μ : List Addr} {d : DV} {v : V} (r : RV K H μ d v) (h : flatD d = true) : flatV v = true := by
  cases r <;> first | rfl | (simp [flatD] at h; done)
theorem flats_of {K : PySem.W.Frag} {H : Hp} {μ : List Addr} : ∀ {ds : List DV} {vs : List V}, RVs K H μ ds vs → ds.all flatD = true → vs.all flatV = true
  | _, _, .nil, _ => rfl
  | _, _, .cons r rs, h => by
    rw [List.all_cons, Bool.and_eq_true] at h
    rw [List.all_cons, flat_of r h.1, flats_of rs h.2]; rfl
theorem eqF_of {K : PySem.W.Frag} {H : Hp} {μ : List Addr} {d c : DV} {v w : V} (r : RV K H μ d v) (q : RV K H μ c w) (h1 : flatD d = true) (h2 : flatD c = true) : eqV v w = eqF d c := by
  cases r <;> first | (simp [flatD] at h1; done) | (cases q <;> first | rfl | (simp [flatD] at h2; done))
def inD (x : DV) (ds : List DV) : Bool := ds.any fun y => eqF y x
theorem inD_of {K : PySem.W.Frag} {H : Hp} {μ : List Addr} {d : DV} {v : V} (r : RV K H μ d v) (h1 : flatD d = true) : ∀ {ds : List DV} {vs : List V}, RVs K H μ ds vs → ds.all flatD = true → inV v vs = inD d ds
  | _, _, .nil, _ => rfl
  | _, _, .cons q qs, h => by
    rw [List.all_cons, Bool.and_eq_true] at h
    have ih := inD_of r h1 qs h.2
    unfold inV inD at ih ⊢
    rw [List.any_cons, List.any_cons, ih, eqF_of q r h.1 h1]
/-- a dict's entry -/
def keyD : DV → Option Key
  | .int i => some (.inl i)
  | .str x => some (.inr x)
  | _ => none
def valD (kvs : List (Key × DV)) (k : Key) : Option DV := (kvs.find? fun kv => decide (kv.1 = k)).map (·.2)
theorem key_of {K : PySem.W.Frag} {H : Hp} {μ : List Addr} {d : DV} {v : V} {k : Key} (r : RV K H μ d v) (h : keyD d = some k) : v = kV k := by
  cases r <;> first | (cases h; rfl) | (simp [keyD] at h; done)
theorem val_of {K : PySem.W.Frag} {H : Hp} {μ : List Addr} (k : Key) : ∀ {ds : List (Key × DV)} {vs : List (Key × V)}, RKs K H μ ds vs → (valD ds k = none ∧ valV vs k = none) ∨ ∃ d v, valD ds k = some d ∧ valV vs k = some v ∧ RV K H μ d v
  | _, _, .nil => .inl ⟨rfl, rfl⟩
  | _, _, @RKs.cons _ _ _ k' d v ds vs r rs => by
    by_cases e : k' = k
    · subst e
      exact .inr ⟨d, v, by simp [valD], by simp [valV], r⟩
    · rcases val_of k rs with ⟨h1, h2⟩ | ⟨d', v', h1, h2, h3⟩
      · exact .inl ⟨by simpa [valD, List.find?_cons, e] using h1, by simpa [valV, List.find?_cons, e] using h2⟩
      · exact .inr ⟨d', v', by simpa [valD, List.find?_cons, e] using h1, by simpa [valV, List.find?_cons, e] using h2, h3⟩
def gInN (neg : Bool) : G2 := fun x y st => match itemsOf st y with
  | some ds => if flatD x = true ∧ ds.all flatD = true then some (.bl (if neg then !inD x ds else inD x ds), st) else none
  | none => match y with
    | .ref l => match st[l]?, keyD x with
      | some (.dct kvs), some k => some (.bl (if neg then !(valD kvs k).isSome else (valD kvs k).isSome), st)
      | _, _ => none
    | _ => none
theorem od_inN (neg : Bool) {op : CmpOp} (h1 : OpR X (compareOp op) (rIn X.K neg)) (h2 : ∀ (pins : List (Addr × Obj)) (s : Shared) (σ : L2.St) (H : Hp) (a : Addr) (y : V) (o : Option V) (u : Value) (Q : VK), Inv X pins σ H s → DGet H a y o → RelV y u →
      Q (.bl (if neg then !o.isSome else o.isSome)) H → wpAny (model X.prog X.w) X.A (compareOp op u (.ref a)) (EP X pins σ Q) X.xe s) : OpD X (compareOp op) (gInN neg) := by
  intro pins s σ H x y v u Q I rx ry ⟨st, μ, dx, dy, d, st', hs, r1, r2, hg, hq⟩
  unfold gInN at hg
  split at hg
  · rename_i ds e
    split at hg
    · rename_i hf
      cases hg
      obtain ⟨a, vs, rfl, hsq, hl, rs⟩ := items_read hs e r2
      refine h1 pins s σ H _ _ v u Q I rx ry ⟨a, vs, rfl, hsq, flat_of r1 hf.1, flats_of rs hf.2, ?_⟩
      rw [inD_of r1 hf.1 rs hf.2]
      exact hq H μ _ Ext.refl hs (.bl _)
    · exact nomatch hg
  · split at hg
    · rename_i lc _
      split at hg
      · rename_i kvs k e1 e2
        cases hg
        cases r2 with
        | @ref _ a hl =>
          have c := hs.cell lc a _ hl e1
          cases c with
          | dct h z rk =>
            cases ry
            have ek := key_of r1 e2
            subst ek
            refine h2 pins s σ H a _ _ v Q I (DGet.k h) rx ?_
            rcases val_of k rk with ⟨q1, q2⟩ | ⟨d', v', q1, q2, _⟩
            · rw [q2]; rw [q1] at hq; exact hq H μ _ Ext.refl hs (.bl _)
            · rw [q2]; rw [q1] at hq; exact hq H μ _ Ext.refl hs (.bl _)
      · exact nomatch hg
    · exact nomatch hg
def gIn : G2 := gInN false
def gNotIn : G2 := gInN true
theorem od_in (hu : X.A.units + 1 < cLine) : OpD X (compareOp .In) gIn := od_inN false op_in_seq fun pins s σ H a y o u Q I g r q => d_in hu I g r fun s' I' => ⟨.bl _, H, I', rfl, q⟩
theorem od_notin (hu : X.A.units + 1 < cLine) : OpD X (compareOp .NotIn) gNotIn := od_inN true op_notIn_seq fun pins s σ H a y o u Q I g r q => d_notIn hu I g r fun s' I' => ⟨.bl _, H, I', rfl, q⟩
/-! ### -n -/
def mNeg (m : ME DV) : ME DV := ME.bind m fun d => match d with | .int i => ME.pure (.int (-i)) | _ => fun _ _ => none
theorem de_neg {e : Expr} {m : ME DV} {pos : Pos} (h : DE X e m) : DE X (.UnaryOp .USub e pos) (mNeg m) := by
  refine pe_imp (pe_un un_neg h) fun σ H Q ⟨e, st, μ, d, st', he, hs, hm, hq⟩ => ?_
  obtain ⟨x, st1, h1, hm⟩ := bind_some hm
  refine ⟨e, st, μ, x, st1, he, hs, h1, fun H1 μ1 v x1 hs1 rv => ?_⟩
  cases x with
  | int k => cases rv; cases hm; exact ⟨k, rfl, hq H1 μ1 _ x1 hs1 (.int _)⟩
  | _ => cases hm
end
end DL

/-! DL4: subscripts, slices, calls by data. -/
namespace DL
open PySem PySem.Spec PyProof.Rows L2

section
variable {X : Cx} {a b c e : Expr} {es : List Expr} {ma mb mc : ME DV} {pos : Pos}
/-! ### subscripts -/
def gIx : G2 := fun x y st => match y with
  | .int i => match itemsOf st x with
    | some ds => (atI ds i).map (·, st)
    | none => none
  | _ => none
theorem ixr_imp {r r' : R2} (h : IxR X r) (i : ∀ x y H Q, r' x y H Q → r x y H Q) : IxR X r' := fun value slice pins s σ H x y v u Q I rx ry q => h value slice pins s σ H x y v u Q I rx ry (i _ _ _ _ q)
theorem atI_rel {K : PySem.W.Frag} {H : Hp} {μ : List Addr} {ds : List DV} {vs : List V} {i : Int} {d : DV} (r : RVs K H μ ds vs) (h : atI ds i = some d) : ∃ v, atI vs i = some v ∧ RV K H μ d v := by
  unfold atI at h ⊢
  rw [r.length] at h
  cases q : ixN vs.length i with
  | none => rw [q] at h; cases h
  | some j =>
    rw [q] at h
    exact r.get h
theorem id_seq : IxR X (rB X.K gIx) := by
  refine ixr_imp (ix_list.or ix_tup) fun x y H Q ⟨st, μ, dx, dy, d, st', hs, r1, r2, hg, hq⟩ => ?_
  unfold gIx at hg
  split at hg
  · split at hg
    · rename_i ds e
      cases q : atI ds _ with
      | none => rw [q] at hg; cases hg
      | some d0 =>
        rw [q] at hg
        cases hg
        cases r2
        obtain ⟨a, vs, rfl, hsq, hl, rs⟩ := items_read hs e r1
        obtain ⟨v, h1, h2⟩ := atI_rel rs q
        rcases hsq with hsq | hsq
        · exact .inl ⟨a, vs, _, v, rfl, rfl, hsq, h1, hq H μ v Ext.refl hs h2⟩
        · exact .inr ⟨a, vs, _, v, rfl, rfl, hsq, h1, hq H μ v Ext.refl hs h2⟩
    · cases hg
  · cases hg
theorem de_ix (ha : DE X a ma) (hb : DE X b mb) (hs : PlainIx b := by intro _ _; rfl) : DE X (.Subscript a b pos) (mBin gIx ma mb) := pe_imp (pe_ix id_seq ha hb hs) bin_read
/-- d[k] -/
def gDGet : G2 := fun x y st => match x with
  | .ref l => match st[l]?, keyD y with
    | some (.dct kvs), some k => (valD kvs k).map (·, st)
    | _, _ => none
  | _ => none
theorem dct_read {K : PySem.W.Frag} {H : Hp} {μ : List Addr} {st : Sto} {l : Nat} {a : Addr} {kvs : List (Key × DV)} (hs : RS K H μ st) (h : st[l]? = some (.dct kvs)) (hl : μ[l]? = some a) : ∃ ws, H a = some (.dK ws) ∧ ws.length ≤ sizeLine ∧ RKs K H μ kvs ws := by
  have c := hs.cell l a _ hl h
  cases c with
  | dct h z rk => exact ⟨_, h, z, rk⟩
theorem de_dget (hu : X.A.units + 1 < cLine) (ha : DE X a ma) (hb : DE X b mb) (hs : NoSl b := by intro _ _; rfl) : DE X (.Subscript a b pos) (mBin gDGet ma mb) := by
  refine pe_imp (pe_dget hu ha hb hs) fun σ H Q ⟨e, st, μ, d, st', he, hs, hm, hq⟩ => ?_
  obtain ⟨x, st1, h1, hm⟩ := bind_some hm
  obtain ⟨y, st2, h2, hm⟩ := bind_some hm
  refine ⟨e, st, μ, x, st1, he, hs, h1, fun H1 μ1 v x1 hs1 rv => ?_⟩
  refine ⟨e, st1, μ1, y, st2, he.ext x1, hs1, h2, fun H2 μ2 w x2 hs2 rw' => ?_⟩
  unfold gDGet at hm
  split at hm
  · rename_i l
    split at hm
    · rename_i kvs k e1 e2
      cases rv with
      | @ref _ ad hl =>
        obtain ⟨ws, h3, z, rk⟩ := dct_read hs2 e1 (x2.at hl)
        have ek := key_of rw' e2
        subst ek
        rcases val_of k rk with ⟨q1, q2⟩ | ⟨d', v', q1, q2, q3⟩
        · rw [q1] at hm; cases hm
        · rw [q1] at hm
          cases hm
          exact ⟨ad, v', rfl, by rw [← q2]; exact DGet.k h3, hq H2 μ2 v' (x1.trans x2) hs2 q3⟩
    · cases hm
  · cases hm
/-- d.get(k, x) -/
def mGet2 (md mk mx : ME DV) : ME DV := ME.bind md fun x => fun e st => match x with
  | .ref l => match st[l]? with
    | some (.dct _) => (ME.bind mk fun y => ME.bind mx fun z => fun _ st => match st[l]?, keyD y with
      | some (.dct kvs), some k => some ((valD kvs k).getD z, st)
      | _, _ => none) e st
    | _ => none
  | _ => none
theorem de_get2 {o f : Expr} {apos : Pos} (hu : X.A.units + 1 < cLine) (ho : DE X o ma) (he : DE X e mb) (hf : DE X f mc)
    (m : M2 X o "get" apos e f pos := by exact ⟨rfl, rfl, rfl, rfl⟩) : DE X (.Call (.Attribute o "get" apos) [e, f] [] pos) (mGet2 ma mb mc) := by
  refine pe_imp (pe_dget2 hu ho he hf m) fun σ H Q ⟨e, st, μ, d, st', he, hs, hm, hq⟩ => ?_
  obtain ⟨x, st1, h1, hm⟩ := bind_some hm
  refine ⟨e, st, μ, x, st1, he, hs, h1, fun H1 μ1 v x1 hs1 rv => ?_⟩
  split at hm
  · rename_i l
    split at hm
    · rename_i kvs0 e0
      obtain ⟨y, st2, h2, hm⟩ := bind_some hm
      obtain ⟨z, st3, h3, hm⟩ := bind_some hm
      cases rv with
      | @ref _ ad hl =>
        obtain ⟨ws0, h30, _, _⟩ := dct_read hs1 e0 hl
        refine ⟨ad, rfl, .inl ⟨_, .inl h30⟩, ?_⟩
        refine ⟨e, st1, μ1, y, st2, he.ext x1, hs1, h2, fun H2 μ2 w x2 hs2 rw' => ?_⟩
        refine ⟨e, st2, μ2, z, st3, he.ext (x1.trans x2), hs2, h3, fun H3 μ3 zv x3 hs3 rz => ?_⟩
        split at hm
        · rename_i kvs k e1 e2
          obtain ⟨ws, h4, z4, rk⟩ := dct_read hs3 e1 (x3.at (x2.at hl))
          have ek := key_of rw' e2
          subst ek
          cases hm
          refine ⟨valV ws k, DGet.k h4, ?_⟩
          rcases val_of k rk with ⟨q1, q2⟩ | ⟨d', v', q1, q2, q3⟩
          · rw [q2]
            rw [q1] at hq
            exact hq H3 μ3 zv (x1.trans (x2.trans x3)) hs3 rz
          · rw [q2]
            rw [q1] at hq
            exact hq H3 μ3 v' (x1.trans (x2.trans x3)) hs3 q3
        · cases hm
    · cases hm
  · cases hm

/-! ### written dicts of the top -/
/-- the dict at p holds at these texts these data -/
def lookS (tbl : List (Str × DV)) (z : Str) : Option DV := match tbl with
  | [] => none
  | (y, d) :: r => if y = z then some d else lookS r z
def KTab (K : PySem.W.Frag) (w : World) (p : Addr) (tbl : List (Str × DV)) : Prop := ∀ z d, lookS tbl z = some d → ∃ v, KDct K w p z v ∧ ∀ H μ, RV K H μ d v
theorem ktab_nil {K : PySem.W.Frag} {w : World} {p : Addr} : KTab K w p [] := fun z d h => by cases h
theorem ktab_cons {K : PySem.W.Frag} {w : World} {p : Addr} {y : Str} {d : DV} {v : V} {r : List (Str × DV)} (h : KDct K w p y v) (hd : ∀ H μ, RV K H μ d v) (hr : KTab K w p r) : KTab K w p ((y, d) :: r) := fun z d' e => by
  unfold lookS at e
  split at e
  · rename_i q
    subst q
    cases e
    exact ⟨v, h, hd⟩
  · exact hr z d' e
def mKix (tbl : List (Str × DV)) (m : ME DV) : ME DV := ME.bind m fun d => fun _ st => match d with
  | .str z => (lookS tbl z).map (·, st)
  | _ => none
theorem de_kix {x : Str} {p : Addr} {px : Pos} {tbl : List (Str × DV)} (hg : Gl X x) (hm : X.mg x = some (.ref p)) (ht : KTab X.K X.w p tbl) (hb : DE X b mb) (hs : PlainIx b := by intro _ _; rfl) (hd : (x == ("__debug__" : Str)) = false := by decide) : DE X (.Subscript (.Name x px) b pos) (mKix tbl mb) := by
  refine pe_imp (pe_ix ix_kdict (pe_glob hg hm (v := .ref p) rfl hd) hb hs) fun σ H Q ⟨e, st, μ, d, st', he, hs, hm, hq⟩ => ?_
  obtain ⟨y, st1, h1, hm⟩ := bind_some hm
  refine ⟨e, st, μ, y, st1, he, hs, h1, fun H1 μ1 w x1 hs1 rw' => ?_⟩
  cases y with
  | str z =>
    cases rw'
    have hm : (lookS tbl z).map (·, st1) = some (d, st') := hm
    cases q : lookS tbl z with
    | none => rw [q] at hm; cases hm
    | some d0 =>
      rw [q] at hm
      obtain ⟨v, h2, h3⟩ := ht z d0 q
      cases hm
      exact ⟨p, z, v, rfl, rfl, h2, hq H1 μ1 v x1 hs1 (h3 _ _)⟩
  | _ => cases hm
/-- x in D, x not in D where it is in -/
def gKin (neg : Bool) (tbl : List (Str × DV)) : DV → Sto → Option (DV × Sto) := fun d st => match d with
  | .str z => match lookS tbl z with
    | some _ => some (.bl (!neg), st)
    | none => none
  | _ => none
def mKin (neg : Bool) (tbl : List (Str × DV)) (m : ME DV) : ME DV := ME.bind m fun d => fun _ st => gKin neg tbl d st
def rKin (K : PySem.W.Frag) (w : World) (neg : Bool) : R2 := fun x y H Q => ∃ p z v, x = .str z ∧ y = .ref p ∧ (p == sysModules) = false ∧ KDct K w p z v ∧ Q (.bl (!neg)) H
theorem ok_in : OpR X (compareOp .In) (rKin X.K X.w false) := by
  intro pins s σ H x y v u Q I rx ry h
  obtain ⟨p, z, r, rfl, rfl, hp, ⟨es, n, u0, hl, hk, e, ru⟩, q⟩ := h
  obtain rfl : u = Value.ref p := ry
  obtain ⟨t, rfl⟩ := rx
  have hm := PySem.W.mapOf_K (prog := X.prog) (w := X.w) I.kIn hl hk
  refine wpAny_in_of (strKind_is X.prog X.w z t) hp hm ?_
  rw [PySem.W.find_K hl e]
  exact ⟨.bl true, H, I.tok _, rfl, q⟩
theorem ok_notin : OpR X (compareOp .NotIn) (rKin X.K X.w true) := by
  intro pins s σ H x y v u Q I rx ry h
  obtain ⟨p, z, r, rfl, rfl, hp, ⟨es, n, u0, hl, hk, e, ru⟩, q⟩ := h
  obtain rfl : u = Value.ref p := ry
  obtain ⟨t, rfl⟩ := rx
  have hm := PySem.W.mapOf_K (prog := X.prog) (w := X.w) I.kIn hl hk
  refine wpAny_notIn_of (strKind_is X.prog X.w z t) hp hm ?_
  rw [PySem.W.find_K hl e]
  exact ⟨.bl false, H, I.tok _, rfl, q⟩
theorem kin_read {neg : Bool} {p : Addr} {tbl : List (Str × DV)} (hp : (p == sysModules) = false) (ht : KTab X.K X.w p tbl) : ∀ σ H Q, tD X.K (mKin neg tbl ma) σ H Q → tOp (rKin X.K X.w neg) (tD X.K ma) (tC (.ref p)) σ H Q := by
  intro σ H Q ⟨e, st, μ, d, st', he, hs, hm, hq⟩
  obtain ⟨y, st1, h1, hm⟩ := bind_some hm
  refine ⟨e, st, μ, y, st1, he, hs, h1, fun H1 μ1 w x1 hs1 rw' => ?_⟩
  unfold gKin at hm
  split at hm
  · rename_i z
    split at hm
    · rename_i d0 q
      obtain ⟨v, h2, h3⟩ := ht z d0 q
      cases hm
      cases rw'
      exact ⟨p, z, v, rfl, rfl, hp, h2, hq H1 μ1 _ x1 hs1 (.bl _)⟩
    · cases hm
  · cases hm
theorem dt_kin {x : Str} {p : Addr} {px : Pos} {tbl : List (Str × DV)} (hg : Gl X x) (hm : X.mg x = some (.ref p)) (hp : (p == sysModules) = false) (ht : KTab X.K X.w p tbl) (ha : DE X a ma) (hd : (x == ("__debug__" : Str)) = false := by decide) : DT X (.Compare a [.In] [.Name x px] pos) (mTst (mKin false tbl ma)) :=
  pt_imp (pt_cmpR ok_in ha (pe_glob hg hm (v := .ref p) rfl hd) rfl) (tst_read (kin_read hp ht))
theorem dt_knotin {x : Str} {p : Addr} {px : Pos} {tbl : List (Str × DV)} (hg : Gl X x) (hm : X.mg x = some (.ref p)) (hp : (p == sysModules) = false) (ht : KTab X.K X.w p tbl) (ha : DE X a ma) (hd : (x == ("__debug__" : Str)) = false := by decide) : DT X (.Compare a [.NotIn] [.Name x px] pos) (mTst (mKin true tbl ma)) :=
  pt_imp (pt_cmpR ok_notin ha (pe_glob hg hm (v := .ref p) rfl hd) rfl) (tst_read (kin_read hp ht))

/-! ### slices -/
abbrev MO := ME (Option Int)
def tOD (K : PySem.W.Frag) (m : MO) : TO := fun σ H Q => ∃ e st μ o st', RE K H μ e σ ∧ RS K H μ st ∧ m e st = some (o, st') ∧
  ∀ H' μ', Ext H μ H' μ' → RS K H' μ' st' → Q o H'
def DO' (X : Cx) (e : Option Expr) (m : MO) : Prop := PO X e (tOD X.K m)
theorem do_none : DO' X none (ME.pure none) := ⟨fun pins s σ H Q I h => po_none.run pins s σ H Q I (by
  obtain ⟨e, st, μ, o, st', he, hs, hm, hq⟩ := h
  cases hm
  exact hq H μ Ext.refl hs)⟩
def mSome (m : ME DV) : MO := ME.bind m fun d => match d with | .int i => ME.pure (some i) | _ => fun _ _ => none
theorem do_some (h : DE X a ma) : DO' X (some a) (mSome ma) := ⟨fun pins s σ H Q I q => (po_some h).run pins s σ H Q I (by
  obtain ⟨e, st, μ, o, st', he, hs, hm, hq⟩ := q
  obtain ⟨x, st1, h1, hm⟩ := bind_some hm
  refine ⟨e, st, μ, x, st1, he, hs, h1, fun H1 μ1 v x1 hs1 rv => ?_⟩
  cases x with
  | int i => cases rv; cases hm; exact ⟨i, rfl, hq H1 μ1 x1 hs1⟩
  | _ => cases hm)⟩
def cutD {α : Type} (xs : List α) (lo hi : Option Int) : List α := (xs.drop (HT.sIx xs.length 0 lo)).take (HT.sIx xs.length xs.length hi - HT.sIx xs.length 0 lo)
theorem cut_rel {K : PySem.W.Frag} {H : Hp} {μ : List Addr} {ds : List DV} {vs : List V} (r : RVs K H μ ds vs) (lo hi : Option Int) : RVs K H μ (cutD ds lo hi) (cutV vs lo hi) := by
  unfold cutD cutV
  rw [r.length]
  exact (r.drop _).take _
/-- t[lo:hi] of a tuple; of a list: a new one -/
def gSl (x : DV) (lo hi : Option Int) (st : Sto) : Option (DV × Sto) := match x with
  | .tup ds => some (.tup (cutD ds lo hi), st)
  | d => match itemsOf st d with
    | some ds => some (.ref st.length, st ++ [.lst (cutD ds lo hi)])
    | none => none
def mSl (m : ME DV) (l h : MO) : ME DV := ME.bind m fun x => ME.bind l fun lo => ME.bind h fun hi => fun _ st => gSl x lo hi st
theorem cut_all {vs : List V} {lo hi : Option Int} (h : HT.sIx vs.length 0 lo = 0 ∧ HT.sIx vs.length vs.length hi = vs.length) : cutV vs lo hi = vs := by
  unfold cutV
  rw [h.1, h.2, List.drop_zero, Nat.sub_zero, List.take_length]
theorem lst_read {K : PySem.W.Frag} {H : Hp} {μ : List Addr} {st : Sto} {l : Nat} {a : Addr} {ds : List DV} (hs : RS K H μ st) (h : itemsOf st (.ref l) = some ds) (hl : μ[l]? = some a) : ∃ vs, H a = some (.lst vs) ∧ vs.length ≤ sizeLine ∧ RVs K H μ ds vs := by
  have h : (match st[l]? with
    | some (.lst ds) => some ds
    | _ => none) = some ds := h
  split at h
  · rename_i ds' e'
    injection h with h
    subst h
    have := hs.cell l a _ hl e'
    cases this with
    | lst h z rs => exact ⟨_, h, z, rs⟩
  · exact nomatch h
theorem de_sl {lo hi : Option Expr} {ml mh : MO} {p2 : Pos} (ha : DE X a ma) (hl : DO' X lo ml) (hh : DO' X hi mh) : DE X (.Subscript a (.Slice lo hi none p2) pos) (mSl ma ml mh) := by
  refine pe_imp (pe_slice (sl_tupA.or sl_list) ha hl hh) fun σ H Q ⟨e, st, μ, d, st', he, hs, hm, hq⟩ => ?_
  obtain ⟨x, st1, h1, hm⟩ := bind_some hm
  obtain ⟨lo', st2, h2, hm⟩ := bind_some hm
  obtain ⟨hi', st3, h3, hm⟩ := bind_some hm
  refine ⟨e, st, μ, x, st1, he, hs, h1, fun H1 μ1 v x1 hs1 rv => ?_⟩
  refine ⟨e, st1, μ1, lo', st2, he.ext x1, hs1, h2, fun H2 μ2 x2 hs2 => ?_⟩
  refine ⟨e, st2, μ2, hi', st3, he.ext (x1.trans x2), hs2, h3, fun H3 μ3 x3 hs3 => ?_⟩
  have rv3 := (rv.ext x2).ext x3
  have x123 := x1.trans (x2.trans x3)
  have lst : ∀ {ds : List DV} {ad : Addr} {vs : List V}, v = .ref ad → SqL X.K H3 ad vs → vs.length ≤ sizeLine → RVs X.K H3 μ3 ds vs → d = .ref st3.length → st' = st3 ++ [.lst (cutD ds lo' hi')] → rSlA X.K v lo' hi' H3 Q ∨ rSlL X.K v lo' hi' H3 Q := by
    intro ds ad vs ev sq z rs ed est
    subst ed est
    refine .inr ⟨ad, vs, ev, sq, fun p hp => ?_⟩
    have hs' := hs3.new (o := .lst (cutV vs lo' hi')) hp
    have hpm : p ∉ μ3 := fun z => hs3.trk z hp
    have z2 : (cutV vs lo' hi').length ≤ sizeLine := Nat.le_trans (cutV_length _ _ _) z
    exact hq _ (μ3 ++ [p]) (.ref p) (x123.trans (ext_mu hp (ext_new hp) hp)) (hs'.adopt hpm (.lst upd_same z2 ((cut_rel rs lo' hi').ext (ext_new hp)))) (.ref (at_end hs3.len))
  cases rv3 with
  | @tup ad ds vs sq z rs =>
    cases hm
    refine .inl ⟨ad, vs, rfl, sq, fun hw => ?_, fun hw p hp => ?_⟩
    · refine hq H3 μ3 _ x123 hs3 (.tup sq z ?_)
      have := cut_rel rs lo' hi'
      rw [cut_all hw] at this
      exact this
    · have z2 : (cutV vs lo' hi').length ≤ sizeLine := Nat.le_trans (cutV_length _ _ _) z
      exact hq _ μ3 _ (x123.trans (ext_new hp)) (hs3.new hp) (.tup (SqT.of upd_same) z2 ((cut_rel rs lo' hi').ext (ext_new hp)))
  | @scr ad ds vs sq z rs =>
    cases hm
    exact lst rfl sq.sql z rs rfl rfl
  | @ref l ad hl =>
    have hm : (match itemsOf st3 (.ref l) with
      | some ds => some (DV.ref st3.length, st3 ++ [DO.lst (cutD ds lo' hi')])
      | none => none) = some (d, st') := hm
    split at hm
    · rename_i ds e
      cases hm
      obtain ⟨vs, h, z, rs⟩ := lst_read hs3 e hl
      exact lst rfl (SqL.of h) z rs rfl rfl
    · cases hm
  | non => cases hm
  | bl b => cases hm
  | int b => cases hm
  | str b => cases hm
end
end DL

/-! DL5: calls by data. -/
namespace DL
open PySem PySem.Spec PyProof.Rows L2

section
variable {X : Cx} {a b c e o : Expr} {es : List Expr} {ma mb mc : ME DV} {mq : ME (List DV)} {pos p apos : Pos}
/-! ### built-ins of a sequence -/
def mLen (m : ME (List DV)) : ME DV := ME.bind m fun ds => ME.pure (.int ds.length)
theorem de_len (hm : X.mg "len" = none) (h : DQ X e mq) (hg : Gl X "len" := by rfl) (hs : starEach [e] X.env = (false, eval e X.env) :: starEach [] X.env := by rfl) (hpl : (backTo pos (starEach [] X.env)).any (·.1) = false := by rfl) : DE X (.Call (.Name "len" p) [e] [] pos) (mLen mq) := by
  refine pe_imp (pe_callB call_len_seq hg hm PySem.boot_len (pa_cons h pa_nil hs) (he := hs) (hpl := hpl)) fun σ H Q ⟨e, st, μ, d, st', he, hs, hm, hq⟩ => ?_
  obtain ⟨ds, st1, h1, hm⟩ := bind_some hm
  cases hm
  refine ⟨e, st, μ, ds, _, he, hs, h1, fun H1 μ1 a vs x1 hs1 sq z rs => ⟨a, vs, rfl, sq, ?_⟩⟩
  rw [← rs.length]
  exact hq H1 μ1 _ x1 hs1 (.int _)
def mTupOf (m : ME (List DV)) : ME DV := ME.bind m fun ds => ME.pure (.tup ds)
theorem de_tupOf (hm : X.mg "tuple" = none) (h : DQ X e mq) (hg : Gl X "tuple" := by rfl) (hs : starEach [e] X.env = (false, eval e X.env) :: starEach [] X.env := by rfl) (hpl : (backTo pos (starEach [] X.env)).any (·.1) = false := by rfl) : DE X (.Call (.Name "tuple" p) [e] [] pos) (mTupOf mq) := by
  refine pe_imp (pe_callTy call_tuple_of hg hm (by decide +kernel) (pa_cons h pa_nil hs) (he := hs) (hpl := hpl)) fun σ H Q ⟨e, st, μ, d, st', he, hs, hm, hq⟩ => ?_
  obtain ⟨ds, st1, h1, hm⟩ := bind_some hm
  cases hm
  refine ⟨e, st, μ, ds, _, he, hs, h1, fun H1 μ1 a vs x1 hs1 sq z rs => ⟨a, vs, rfl, ?_⟩⟩
  rcases sq with sq | sq
  · exact .inl ⟨sq, fun l hl => hq _ μ1 _ (x1.trans (ext_new hl)) (hs1.new hl) (.tup (SqT.of upd_same) z (rs.ext (ext_new hl)))⟩
  · exact .inr ⟨sq, hq H1 μ1 _ x1 hs1 (.tup sq z rs)⟩
theorem df_listOf (hm : X.mg "list" = none) (h : DQ X e mq) (hg : Gl X "list" := by rfl) (hs : starEach [e] X.env = (false, eval e X.env) :: starEach [] X.env := by rfl) (hpl : (backTo pos (starEach [] X.env)).any (·.1) = false := by rfl) : DF X (.Call (.Name "list" p) [e] [] pos) mq := by
  refine pe_imp (pe_callTy call_list_of hg hm (by decide +kernel) (pa_cons h pa_nil hs) (he := hs) (hpl := hpl)) fun σ H Q ⟨e, st, μ, d, st', he, hs, hm, hq⟩ => ?_
  refine ⟨e, st, μ, d, st', he, hs, hm, fun H1 μ1 a vs x1 hs1 sq z rs => ⟨a, vs, rfl, sq, fun l hl => ?_⟩⟩
  obtain ⟨n1, n2⟩ := fresh_new x1 hs1 hl
  exact hq _ μ1 l vs (x1.trans (ext_new hl)) (hs1.new hl) n1 n2 upd_same z (rs.ext (ext_new hl))
/-! ### all, any, sum of a new list -/
def toBls : List DV → Option (List Bool)
  | [] => some []
  | .bl b :: ds => (toBls ds).map (b :: ·)
  | _ :: _ => none
theorem bls_of {K : PySem.W.Frag} {H : Hp} {μ : List Addr} : ∀ {ds : List DV} {vs : List V} {bs : List Bool}, RVs K H μ ds vs → toBls ds = some bs → vs = bs.map V.bl
  | _, _, _, .nil, h => by cases h; rfl
  | d :: ds, _, bs, .cons r rs, h => by
    cases r with
    | bl b =>
      have h : (toBls ds).map (b :: ·) = some bs := h
      cases q : toBls ds with
      | none => rw [q] at h; cases h
      | some bs' =>
        rw [q] at h
        cases h
        rw [bls_of rs q, List.map_cons]
    | _ => cases h
def toIs : List DV → Option (List Int)
  | [] => some []
  | .int i :: ds => (toIs ds).map (i :: ·)
  | _ :: _ => none
theorem is_of {K : PySem.W.Frag} {H : Hp} {μ : List Addr} : ∀ {ds : List DV} {vs : List V} {bs : List Int}, RVs K H μ ds vs → toIs ds = some bs → vs = bs.map V.int
  | _, _, _, .nil, h => by cases h; rfl
  | d :: ds, _, bs, .cons r rs, h => by
    cases r with
    | int b =>
      have h : (toIs ds).map (b :: ·) = some bs := h
      cases q : toIs ds with
      | none => rw [q] at h; cases h
      | some bs' =>
        rw [q] at h
        cases h
        rw [is_of rs q, List.map_cons]
    | _ => cases h
theorem is_to {K : PySem.W.Frag} {H : Hp} {μ : List Addr} : ∀ (ns : List Int), RVs K H μ (ns.map DV.int) (ns.map V.int)
  | [] => .nil
  | n :: ns => .cons (.int n) (is_to ns)
def mAll (m : ME (List DV)) : ME DV := ME.bind m fun ds => fun _ st => match toBls ds with | some bs => some (.bl (bs.all id), st) | none => none
def mAny (m : ME (List DV)) : ME DV := ME.bind m fun ds => fun _ st => match toBls ds with | some bs => some (.bl (bs.any id), st) | none => none
def mSum (m : ME (List DV)) : ME DV := ME.bind m fun ds => fun _ st => match toIs ds with | some bs => some (.int bs.sum, st) | none => none
theorem de_all (hc : X.calm = true) (hm : X.mg "all" = none) (h : DF X e mq) (hg : Gl X "all" := by rfl) (hs : starEach [e] X.env = (false, eval e X.env) :: starEach [] X.env := by rfl) (hpl : (backTo pos (starEach [] X.env)).any (·.1) = false := by rfl) : DE X (.Call (.Name "all" p) [e] [] pos) (mAll mq) := by
  refine pe_imp (pe_callB (cr_all hc) hg hm (by decide +kernel) (pa_cons h pa_nil hs) (he := hs) (hpl := hpl)) fun σ H Q ⟨e, st, μ, d, st', he, hs, hm, hq⟩ => ?_
  obtain ⟨ds, st1, h1, hm⟩ := bind_some hm
  split at hm
  · rename_i bs eb
    cases hm
    refine ⟨e, st, μ, ds, _, he, hs, h1, fun H1 μ1 a vs x1 hs1 n1 n2 ha z rs => ⟨a, bs, rfl, ?_, hq H1 μ1 _ x1 hs1 (.bl _)⟩⟩
    rw [← bls_of rs eb]
    exact SqL.of ha
  · cases hm
theorem de_any (hc : X.calm = true) (hm : X.mg "any" = none) (h : DF X e mq) (hg : Gl X "any" := by rfl) (hs : starEach [e] X.env = (false, eval e X.env) :: starEach [] X.env := by rfl) (hpl : (backTo pos (starEach [] X.env)).any (·.1) = false := by rfl) : DE X (.Call (.Name "any" p) [e] [] pos) (mAny mq) := by
  refine pe_imp (pe_callB (cr_any hc) hg hm (by decide +kernel) (pa_cons h pa_nil hs) (he := hs) (hpl := hpl)) fun σ H Q ⟨e, st, μ, d, st', he, hs, hm, hq⟩ => ?_
  obtain ⟨ds, st1, h1, hm⟩ := bind_some hm
  split at hm
  · rename_i bs eb
    cases hm
    refine ⟨e, st, μ, ds, _, he, hs, h1, fun H1 μ1 a vs x1 hs1 n1 n2 ha z rs => ⟨a, bs, rfl, ?_, hq H1 μ1 _ x1 hs1 (.bl _)⟩⟩
    rw [← bls_of rs eb]
    exact SqL.of ha
  · cases hm
theorem de_sum (hc : X.calm = true) (hm : X.mg "sum" = none) (h : DF X e mq) (hg : Gl X "sum" := by rfl) (hs : starEach [e] X.env = (false, eval e X.env) :: starEach [] X.env := by rfl) (hpl : (backTo pos (starEach [] X.env)).any (·.1) = false := by rfl) : DE X (.Call (.Name "sum" p) [e] [] pos) (mSum mq) := by
  refine pe_imp (pe_callB (cr_sum hc) hg hm (by decide +kernel) (pa_cons h pa_nil hs) (he := hs) (hpl := hpl)) fun σ H Q ⟨e, st, μ, d, st', he, hs, hm, hq⟩ => ?_
  obtain ⟨ds, st1, h1, hm⟩ := bind_some hm
  split at hm
  · rename_i bs eb
    cases hm
    refine ⟨e, st, μ, ds, _, he, hs, h1, fun H1 μ1 a vs x1 hs1 n1 n2 ha z rs => ⟨a, bs, rfl, ?_, hq H1 μ1 _ x1 hs1 (.int _)⟩⟩
    rw [← is_of rs eb]
    exact SqL.of ha
  · cases hm
/-! ### int, min, max -/
def mInt (m : ME DV) : ME DV := ME.bind m fun d => match d with
  | .int i => ME.pure (.int i)
  | .bl b => ME.pure (.int (if b then 1 else 0))
  | _ => fun _ _ => none
theorem de_intOf (hm : X.mg "int" = none) (h : DE X e ma) (hg : Gl X "int" := by rfl) (hs : starEach [e] X.env = (false, eval e X.env) :: starEach [] X.env := by rfl) (hpl : (backTo pos (starEach [] X.env)).any (·.1) = false := by rfl) : DE X (.Call (.Name "int" p) [e] [] pos) (mInt ma) := by
  refine pe_imp (pe_callTy call_int1 hg hm (by decide +kernel) (pa_cons h pa_nil hs) (he := hs) (hpl := hpl)) fun σ H Q ⟨e, st, μ, d, st', he, hs, hm, hq⟩ => ?_
  obtain ⟨x, st1, h1, hm⟩ := bind_some hm
  refine ⟨e, st, μ, x, st1, he, hs, h1, fun H1 μ1 v x1 hs1 rv => ?_⟩
  cases x with
  | int i => cases rv; cases hm; exact .inl ⟨i, rfl, hq H1 μ1 _ x1 hs1 (.int _)⟩
  | bl i => cases rv; cases hm; exact .inr ⟨i, rfl, hq H1 μ1 _ x1 hs1 (.int _)⟩
  | _ => cases hm
def mMin2 (m n : ME DV) : ME DV := ME.bind m fun x => ME.bind n fun y => match x, y with
  | .int i, .int j => ME.pure (.int (if j < i then j else i))
  | _, _ => fun _ _ => none
def mMax2 (m n : ME DV) : ME DV := ME.bind m fun x => ME.bind n fun y => match x, y with
  | .int i, .int j => ME.pure (.int (if j > i then j else i))
  | _, _ => fun _ _ => none
theorem de_min2 (hc : X.calm = true) (hm : X.mg "min" = none) (h : DE X a ma) (h' : DE X b mb) (hg : Gl X "min" := by rfl) (hs : starEach [a, b] X.env = (false, eval a X.env) :: starEach [b] X.env := by rfl) (hs2 : starEach [b] X.env = (false, eval b X.env) :: starEach [] X.env := by rfl) (hpl : (backTo pos (starEach [b] X.env)).any (·.1) = false := by rfl) : DE X (.Call (.Name "min" p) [a, b] [] pos) (mMin2 ma mb) := by
  refine pe_imp (pe_callB (call_min2 hc) hg hm (by decide +kernel) (pa_cons h (pa_cons h' pa_nil hs2) hs) (he := hs) (hpl := hpl)) fun σ H Q ⟨e, st, μ, d, st', he, hs, hm, hq⟩ => ?_
  obtain ⟨x, st1, h1, hm⟩ := bind_some hm
  obtain ⟨y, st2, h2, hm⟩ := bind_some hm
  refine ⟨e, st, μ, x, st1, he, hs, h1, fun H1 μ1 v x1 hs1 rv => ⟨e, st1, μ1, y, st2, he.ext x1, hs1, h2, fun H2 μ2 w x2 hs2 rw' => ?_⟩⟩
  cases x with
  | int i =>
    cases y with
    | int j => cases rv; cases rw'; cases hm; exact ⟨i, j, rfl, hq H2 μ2 _ (x1.trans x2) hs2 (.int _)⟩
    | _ => cases hm
  | _ => cases hm
theorem de_max2 (hc : X.calm = true) (hm : X.mg "max" = none) (h : DE X a ma) (h' : DE X b mb) (hg : Gl X "max" := by rfl) (hs : starEach [a, b] X.env = (false, eval a X.env) :: starEach [b] X.env := by rfl) (hs2 : starEach [b] X.env = (false, eval b X.env) :: starEach [] X.env := by rfl) (hpl : (backTo pos (starEach [b] X.env)).any (·.1) = false := by rfl) : DE X (.Call (.Name "max" p) [a, b] [] pos) (mMax2 ma mb) := by
  refine pe_imp (pe_callB (call_max2 hc) hg hm (by decide +kernel) (pa_cons h (pa_cons h' pa_nil hs2) hs) (he := hs) (hpl := hpl)) fun σ H Q ⟨e, st, μ, d, st', he, hs, hm, hq⟩ => ?_
  obtain ⟨x, st1, h1, hm⟩ := bind_some hm
  obtain ⟨y, st2, h2, hm⟩ := bind_some hm
  refine ⟨e, st, μ, x, st1, he, hs, h1, fun H1 μ1 v x1 hs1 rv => ⟨e, st1, μ1, y, st2, he.ext x1, hs1, h2, fun H2 μ2 w x2 hs2 rw' => ?_⟩⟩
  cases x with
  | int i =>
    cases y with
    | int j => cases rv; cases rw'; cases hm; exact ⟨i, j, rfl, hq H2 μ2 _ (x1.trans x2) hs2 (.int _)⟩
    | _ => cases hm
  | _ => cases hm
/-! ### isinstance -/
def tyN (st : Sto) : DV → Option String
  | .non => some "NoneType"
  | .bl _ => some "bool"
  | .int _ => some "int"
  | .str _ => some "str"
  | .tup _ => some "tuple"
  | .scr _ => some "list"
  | .ref l => match st[l]? with
    | some (.lst _) => some "list"
    | some (.dct _) => some "dict"
    | _ => none
theorem ty_of {K : PySem.W.Frag} {H : Hp} {μ : List Addr} {st : Sto} {d : DV} {v : V} {t : String} (hs : RS K H μ st) (r : RV K H μ d v) (h : tyN st d = some t) : TyX K H v (.type t) := by
  cases r with
  | non => cases h; exact .base .non
  | bl b => cases h; exact .base (.bl b)
  | int b => cases h; exact .base (.int b)
  | str b => cases h; exact .base (.str b)
  | tup sq z rs =>
    cases h
    rcases sq with (sq | ⟨o, sq⟩) | ⟨o, its, n, h1, h2, _⟩
    · exact .base (.tup sq)
    · exact .fTuple sq
    · exact .kTuple h1 h2
  | scr sq z rs =>
    cases h
    rcases sq with ⟨o, sq⟩ | ⟨o, its, n, h1, h2, _⟩
    · exact .base (.frz sq)
    · exact .kList h1 h2
  | @ref l a hl =>
    have h : (match st[l]? with
      | some (.lst _) => some "list"
      | some (.dct _) => some "dict"
      | _ => none) = some t := h
    split at h
    · rename_i e
      cases h
      have c := hs.cell l a _ hl e
      cases c with
      | lst h _ _ => exact .base (.lst h)
    · rename_i e
      cases h
      have c := hs.cell l a _ hl e
      cases c with
      | dct h _ _ => exact .base (.dK h)
    · cases h
def isT (T t : String) : Bool := t == T || (T == "int" && t == "bool")
def mIsi (T : String) (m : ME DV) : ME DV := ME.bind m fun d => fun _ st => match tyN st d with
  | some t => some (.bl (isT T t), st)
  | none => none
theorem tyN_in {st : Sto} {d : DV} {t : String} (h : tyN st d = some t) : t = "NoneType" ∨ t = "bool" ∨ t = "int" ∨ t = "str" ∨ t = "tuple" ∨ t = "list" ∨ t = "dict" := by
  unfold tyN at h
  split at h
  · cases h; simp
  · cases h; simp
  · cases h; simp
  · cases h; simp
  · cases h; simp
  · cases h; simp
  · split at h <;> cases h <;> simp
theorem de_isi (T : String) (hm : X.mg "isinstance" = none) (hT : X.mg (Str.ofString T) = none) (hb : bootBuiltins (Str.ofString T) = some (.type T)) (hk : ∀ t, (t = "NoneType" ∨ t = "bool" ∨ t = "int" ∨ t = "str" ∨ t = "tuple" ∨ t = "list" ∨ t = "dict") → PySem.W.kitOne X.K (.type t) (.type T) = some (isT T t)) (h : DE X a ma) {q : Pos} {nT : Str}
    (hnT : nT = Str.ofString T) (gT : Gl X nT) (hnn : nT ≠ "__name__" := by decide) (hnd : (nT == ("__debug__" : Str)) = false := by decide)
    (hg : Gl X "isinstance" := by rfl) (hs : starEach [a, .Name nT q] X.env = (false, eval a X.env) :: starEach [.Name nT q] X.env := by rfl) (hs2 : starEach [.Name nT q] X.env = (false, eval (.Name nT q) X.env) :: starEach [] X.env := by rfl) (hpl : (backTo pos (starEach [.Name nT q] X.env)).any (·.1) = false := by rfl) :
    DE X (.Call (.Name "isinstance" p) [a, .Name nT q] [] pos) (mIsi T ma) := by
  subst hnT
  refine pe_imp (pe_callB call_isi hg hm (by decide +kernel) (pa_cons h (pa_cons (pe_bltn (v := .ty T) gT hT hb rfl hnn hnd) pa_nil hs2) hs) (he := hs) (hpl := hpl)) fun σ H Q ⟨e, st, μ, d, st', he, hs, hm, hq⟩ => ?_
  obtain ⟨x, st1, h1, hm⟩ := bind_some hm
  refine ⟨e, st, μ, x, st1, he, hs, h1, fun H1 μ1 v x1 hs1 rv => ?_⟩
  split at hm
  · rename_i t et
    cases hm
    exact ⟨v, .ty T, .type t, .type T, isT T t, rfl, .ty T, ty_of hs1 rv et, hk t (tyN_in et), hq H1 μ1 _ x1 hs1 (.bl _)⟩
  · cases hm
theorem kits {K : PySem.W.Frag} {T : String} (h1 : kitB "NoneType" T = some (isT T "NoneType")) (h2 : kitB "bool" T = some (isT T "bool")) (h3 : kitB "int" T = some (isT T "int")) (h4 : kitB "str" T = some (isT T "str")) (h5 : kitB "tuple" T = some (isT T "tuple")) (h6 : kitB "list" T = some (isT T "list")) (h7 : kitB "dict" T = some (isT T "dict")) :
    ∀ t, (t = "NoneType" ∨ t = "bool" ∨ t = "int" ∨ t = "str" ∨ t = "tuple" ∨ t = "list" ∨ t = "dict") → PySem.W.kitOne K (.type t) (.type T) = some (isT T t) := by
  rintro t (rfl | rfl | rfl | rfl | rfl | rfl | rfl)
  · exact kit_ty h1
  · exact kit_ty h2
  · exact kit_ty h3
  · exact kit_ty h4
  · exact kit_ty h5
  · exact kit_ty h6
  · exact kit_ty h7
theorem kit_tuple {K : PySem.W.Frag} : ∀ t, (t = "NoneType" ∨ t = "bool" ∨ t = "int" ∨ t = "str" ∨ t = "tuple" ∨ t = "list" ∨ t = "dict") → PySem.W.kitOne K (.type t) (.type "tuple") = some (isT "tuple" t) :=
  kits (by decide +kernel) (by decide +kernel) (by decide +kernel) (by decide +kernel) (by decide +kernel) (by decide +kernel) (by decide +kernel)
theorem kit_list {K : PySem.W.Frag} : ∀ t, (t = "NoneType" ∨ t = "bool" ∨ t = "int" ∨ t = "str" ∨ t = "tuple" ∨ t = "list" ∨ t = "dict") → PySem.W.kitOne K (.type t) (.type "list") = some (isT "list" t) :=
  kits (by decide +kernel) (by decide +kernel) (by decide +kernel) (by decide +kernel) (by decide +kernel) (by decide +kernel) (by decide +kernel)
theorem kit_int {K : PySem.W.Frag} : ∀ t, (t = "NoneType" ∨ t = "bool" ∨ t = "int" ∨ t = "str" ∨ t = "tuple" ∨ t = "list" ∨ t = "dict") → PySem.W.kitOne K (.type t) (.type "int") = some (isT "int" t) :=
  kits (by decide +kernel) (by decide +kernel) (by decide +kernel) (by decide +kernel) (by decide +kernel) (by decide +kernel) (by decide +kernel)
theorem kit_bool {K : PySem.W.Frag} : ∀ t, (t = "NoneType" ∨ t = "bool" ∨ t = "int" ∨ t = "str" ∨ t = "tuple" ∨ t = "list" ∨ t = "dict") → PySem.W.kitOne K (.type t) (.type "bool") = some (isT "bool" t) :=
  kits (by decide +kernel) (by decide +kernel) (by decide +kernel) (by decide +kernel) (by decide +kernel) (by decide +kernel) (by decide +kernel)
theorem kit_str {K : PySem.W.Frag} : ∀ t, (t = "NoneType" ∨ t = "bool" ∨ t = "int" ∨ t = "str" ∨ t = "tuple" ∨ t = "list" ∨ t = "dict") → PySem.W.kitOne K (.type t) (.type "str") = some (isT "str" t) :=
  kits (by decide +kernel) (by decide +kernel) (by decide +kernel) (by decide +kernel) (by decide +kernel) (by decide +kernel) (by decide +kernel)
theorem de_isTuple (hm : X.mg "isinstance" = none) (hT : X.mg "tuple" = none) (h : DE X a ma) {q : Pos} (gT : Gl X "tuple" := by rfl) (hg : Gl X "isinstance" := by rfl) (hs : starEach [a, .Name "tuple" q] X.env = (false, eval a X.env) :: starEach [.Name "tuple" q] X.env := by rfl) (hs2 : starEach [.Name "tuple" q] X.env = (false, eval (.Name "tuple" q) X.env) :: starEach [] X.env := by rfl) (hpl : (backTo pos (starEach [.Name "tuple" q] X.env)).any (·.1) = false := by rfl) :
    DE X (.Call (.Name "isinstance" p) [a, .Name "tuple" q] [] pos) (mIsi "tuple" ma) := de_isi "tuple" hm hT (by decide +kernel) kit_tuple h rfl gT (by decide) (by decide) hg hs hs2 hpl
theorem de_isList (hm : X.mg "isinstance" = none) (hT : X.mg "list" = none) (h : DE X a ma) {q : Pos} (gT : Gl X "list" := by rfl) (hg : Gl X "isinstance" := by rfl) (hs : starEach [a, .Name "list" q] X.env = (false, eval a X.env) :: starEach [.Name "list" q] X.env := by rfl) (hs2 : starEach [.Name "list" q] X.env = (false, eval (.Name "list" q) X.env) :: starEach [] X.env := by rfl) (hpl : (backTo pos (starEach [.Name "list" q] X.env)).any (·.1) = false := by rfl) :
    DE X (.Call (.Name "isinstance" p) [a, .Name "list" q] [] pos) (mIsi "list" ma) := de_isi "list" hm hT (by decide +kernel) kit_list h rfl gT (by decide) (by decide) hg hs hs2 hpl
theorem de_isInt (hm : X.mg "isinstance" = none) (hT : X.mg "int" = none) (h : DE X a ma) {q : Pos} (gT : Gl X "int" := by rfl) (hg : Gl X "isinstance" := by rfl) (hs : starEach [a, .Name "int" q] X.env = (false, eval a X.env) :: starEach [.Name "int" q] X.env := by rfl) (hs2 : starEach [.Name "int" q] X.env = (false, eval (.Name "int" q) X.env) :: starEach [] X.env := by rfl) (hpl : (backTo pos (starEach [.Name "int" q] X.env)).any (·.1) = false := by rfl) :
    DE X (.Call (.Name "isinstance" p) [a, .Name "int" q] [] pos) (mIsi "int" ma) := de_isi "int" hm hT (by decide +kernel) kit_int h rfl gT (by decide) (by decide) hg hs hs2 hpl
theorem de_isBool (hm : X.mg "isinstance" = none) (hT : X.mg "bool" = none) (h : DE X a ma) {q : Pos} (gT : Gl X "bool" := by rfl) (hg : Gl X "isinstance" := by rfl) (hs : starEach [a, .Name "bool" q] X.env = (false, eval a X.env) :: starEach [.Name "bool" q] X.env := by rfl) (hs2 : starEach [.Name "bool" q] X.env = (false, eval (.Name "bool" q) X.env) :: starEach [] X.env := by rfl) (hpl : (backTo pos (starEach [.Name "bool" q] X.env)).any (·.1) = false := by rfl) :
    DE X (.Call (.Name "isinstance" p) [a, .Name "bool" q] [] pos) (mIsi "bool" ma) := de_isi "bool" hm hT (by decide +kernel) kit_bool h rfl gT (by decide) (by decide) hg hs hs2 hpl
theorem de_isStr (hm : X.mg "isinstance" = none) (hT : X.mg "str" = none) (h : DE X a ma) {q : Pos} (gT : Gl X "str" := by rfl) (hg : Gl X "isinstance" := by rfl) (hs : starEach [a, .Name "str" q] X.env = (false, eval a X.env) :: starEach [.Name "str" q] X.env := by rfl) (hs2 : starEach [.Name "str" q] X.env = (false, eval (.Name "str" q) X.env) :: starEach [] X.env := by rfl) (hpl : (backTo pos (starEach [.Name "str" q] X.env)).any (·.1) = false := by rfl) :
    DE X (.Call (.Name "isinstance" p) [a, .Name "str" q] [] pos) (mIsi "str" ma) := de_isi "str" hm hT (by decide +kernel) kit_str h rfl gT (by decide) (by decide) hg hs hs2 hpl

/-! ### dicts -/
def mDNew : ME DV := fun _ st => some (.ref st.length, st ++ [.dct []])
theorem de_dnew : DE X (.Dict [] [] pos) mDNew := by
  refine pe_imp pe_dnewK fun σ H Q ⟨e, st, μ, d, st', he, hs, hm, hq⟩ p hp => ?_
  cases hm
  have hs' := hs.new (o := .dK []) hp
  have hpm : p ∉ μ := fun z => hs.trk z hp
  exact hq _ (μ ++ [p]) (.ref p) (ext_mu hp (ext_new hp) hp) (hs'.adopt hpm (.dct upd_same (Nat.zero_le _) .nil)) (.ref (at_end hs.len))
def mDictOf (m : ME DV) : ME DV := ME.bind m fun d => fun _ st => match d with
  | .ref l => match st[l]? with
    | some (.dct kvs) => some (.ref st.length, st ++ [.dct kvs])
    | _ => none
  | _ => none
theorem de_dictOf (hm : X.mg "dict" = none) (h : DE X e ma) (hg : Gl X "dict" := by rfl) (hs : starEach [e] X.env = (false, eval e X.env) :: starEach [] X.env := by rfl) (hpl : (backTo pos (starEach [] X.env)).any (·.1) = false := by rfl) : DE X (.Call (.Name "dict" p) [e] [] pos) (mDictOf ma) := by
  refine pe_imp (pe_callTy call_dictD hg hm (by decide +kernel) (pa_cons h pa_nil hs) (he := hs) (hpl := hpl)) fun σ H Q ⟨e, st, μ, d, st', he, hs, hm, hq⟩ => ?_
  obtain ⟨x, st1, h1, hm⟩ := bind_some hm
  refine ⟨e, st, μ, x, st1, he, hs, h1, fun H1 μ1 v x1 hs1 rv => ?_⟩
  split at hm
  · rename_i l
    split at hm
    · rename_i kvs ek
      cases hm
      cases rv with
      | @ref _ ad hl =>
        obtain ⟨ws, h3, z, rk⟩ := dct_read hs1 ek hl
        refine ⟨ad, ws, rfl, .inl h3, fun q hq' => ?_⟩
        have hs' := hs1.new (o := .dK ws) hq'
        have hpm : q ∉ μ1 := fun z => hs1.trk z hq'
        exact hq _ (μ1 ++ [q]) (.ref q) (x1.trans (ext_mu hq' (ext_new hq') hq')) (hs'.adopt hpm (.dct upd_same z (rk.ext (ext_new hq')))) (.ref (at_end hs1.len))
    · cases hm
  · cases hm
/-! ### list(range(..)), tuple(range(..)) -/
def rgD (i j : Int) : List DV := (List.range (j - i).toNat).map fun k => DV.int (i + (k : Nat))
def okR (i j : Int) : Bool := decide (-100000 ≤ i) && decide (i ≤ 100000) && decide (-100000 ≤ j) && decide (j ≤ 100000)
theorem rg_to {K : PySem.W.Frag} {H : Hp} {μ : List Addr} {f : Nat → Int} : ∀ (ns : List Nat), RVs K H μ (ns.map fun k => DV.int (f k)) (ns.map fun k => V.int (f k))
  | [] => .nil
  | n :: ns => .cons (.int _) (rg_to ns)
def mRg1 (m : ME DV) : ME (List DV) := ME.bind m fun x => fun _ st => match x with
  | .int n => if okR 0 n = true then some (rgD 0 n, st) else none
  | _ => none
def mRg2 (m n : ME DV) : ME (List DV) := ME.bind m fun x => ME.bind n fun y => fun _ st => match x, y with
  | .int i, .int j => if okR i j = true then some (rgD i j, st) else none
  | _, _ => none
def tRD (K : PySem.W.Frag) (m : ME (List DV)) : L2.St → Hp → (Int → Int → Hp → Prop) → Prop := fun σ H Q => ∃ e st μ ds st', RE K H μ e σ ∧ RS K H μ st ∧ m e st = some (ds, st') ∧
  ∀ H' μ' i j, Ext H μ H' μ' → RS K H' μ' st' → okR i j = true → ds = rgD i j → Q i j H'
/-- a range -/
def DR (X : Cx) (e : Expr) (m : ME (List DV)) : Prop := PRg X e (tRD X.K m)
theorem dr_1 (hm : X.mg "range" = none) (ha : DE X a ma) (hg : Gl X "range" := by rfl) (na : starEach [a] X.env = (false, eval a X.env) :: starEach [] X.env := by rfl) : DR X (.Call (.Name "range" p) [a] [] pos) (mRg1 ma) := by
  intro pins s σ H Q I h
  refine prg_1 hg hm ha na pins s σ H Q I ?_
  obtain ⟨e, st, μ, ds, st', he, hs, hm, hq⟩ := h
  obtain ⟨x, st1, h1, hm⟩ := bind_some hm
  refine ⟨e, st, μ, x, st1, he, hs, h1, fun H1 μ1 v x1 hs1 rv => ?_⟩
  cases x with
  | int n =>
    cases rv
    have hm : (if okR 0 n = true then some (rgD 0 n, st1) else none) = some (ds, st') := hm
    split at hm
    · rename_i hk
      cases hm
      exact ⟨n, rfl, hq H1 μ1 0 n x1 hs1 hk rfl⟩
    · cases hm
  | _ => cases hm
theorem dr_2 (hm : X.mg "range" = none) (ha : DE X a ma) (hb : DE X b mb) (hg : Gl X "range" := by rfl) (na : starEach [a, b] X.env = (false, eval a X.env) :: starEach [b] X.env := by rfl) (nb : starEach [b] X.env = (false, eval b X.env) :: starEach [] X.env := by rfl) (hpl : (backTo pos (starEach [b] X.env)).any (·.1) = false := by rfl) : DR X (.Call (.Name "range" p) [a, b] [] pos) (mRg2 ma mb) := by
  intro pins s σ H Q I h
  refine prg_2 hg hm ha hb na nb hpl pins s σ H Q I ?_
  obtain ⟨e, st, μ, ds, st', he, hs, hm, hq⟩ := h
  obtain ⟨x, st1, h1, hm⟩ := bind_some hm
  obtain ⟨y, st2, h2, hm⟩ := bind_some hm
  refine ⟨e, st, μ, x, st1, he, hs, h1, fun H1 μ1 v x1 hs1 rv => ⟨e, st1, μ1, y, st2, he.ext x1, hs1, h2, fun H2 μ2 w x2 hs2 rw' => ?_⟩⟩
  cases x with
  | int i =>
    cases y with
    | int j =>
      cases rv
      cases rw'
      have hm : (if okR i j = true then some (rgD i j, st2) else none) = some (ds, st') := hm
      split at hm
      · rename_i hk
        cases hm
        exact ⟨i, j, rfl, rfl, hq H2 μ2 i j (x1.trans x2) hs2 hk rfl⟩
      · cases hm
    | _ => cases hm
  | _ => cases hm
theorem okR_ok {i j : Int} (h : okR i j = true) : RgOk i j := by
  simp only [okR, Bool.and_eq_true, decide_eq_true_eq] at h
  exact ⟨by omega, by omega, by omega, by omega, by omega⟩
theorem rgV_len {i j : Int} (h : okR i j = true) : (rgV i j).length ≤ sizeLine := by
  rw [rgV_length]
  simp only [okR, Bool.and_eq_true, decide_eq_true_eq] at h
  rw [sizeLine_eq]
  omega
theorem df_listRg (hc : X.calm = true) (hm : X.mg "list" = none) (h : DR X e mq) (hg : Gl X "list" := by rfl) (na : starEach [e] X.env = (false, eval e X.env) :: starEach [] X.env := by rfl) : DF X (.Call (.Name "list" p) [e] [] pos) mq := by
  refine pe_imp (pe_listRg hc hg hm h na) fun σ H Q ⟨e, st, μ, ds, st', he, hs, hm, hq⟩ => ?_
  refine ⟨e, st, μ, ds, st', he, hs, hm, fun H1 μ1 i j x1 hs1 hk ed => ⟨okR_ok hk, fun l hl => ?_⟩⟩
  subst ed
  obtain ⟨n1, n2⟩ := fresh_new x1 hs1 hl
  exact hq _ μ1 l (rgV i j) (x1.trans (ext_new hl)) (hs1.new hl) n1 n2 upd_same (rgV_len hk) (rg_to _)
theorem de_tupRg (hc : X.calm = true) (hm : X.mg "tuple" = none) (h : DR X e mq) (hg : Gl X "tuple" := by rfl) (na : starEach [e] X.env = (false, eval e X.env) :: starEach [] X.env := by rfl) : DE X (.Call (.Name "tuple" p) [e] [] pos) (mTupOf mq) := by
  refine pe_imp (pe_tupRg hc hg hm h na) fun σ H Q ⟨e, st, μ, ds, st', he, hs, hm, hq⟩ => ?_
  obtain ⟨ds, st1, h1, hm⟩ := bind_some hm
  cases hm
  refine ⟨e, st, μ, ds, _, he, hs, h1, fun H1 μ1 i j x1 hs1 hk ed => ⟨okR_ok hk, fun l hl => ?_⟩⟩
  subst ed
  exact hq _ μ1 (.ref l) (x1.trans (ext_new hl)) (hs1.new hl) (.tup (SqT.of upd_same) (rgV_len hk) (rg_to _))
end
end DL

/-! DL6: targets, statements, loops by data. -/
namespace DL
open PySem PySem.Spec PyProof.Rows L2

/-- how a statement ends -/
inductive Fl where
  | nx | rt (d : DV) | bk | ct
abbrev MS := Env → Sto → Option (Fl × Env × Sto)
/-- a target -/
abbrev MG := DV → Env → Sto → Option (Env × Sto)
/-- what is wanted behind it -/
def Fin (K : PySem.W.Frag) (H : Hp) (μ : List Addr) (D : Ends) : Fl × Env × Sto → Prop
  | (.nx, e, st) => ∀ σ' H' μ', Ext H μ H' μ' → RE K H' μ' e σ' → RS K H' μ' st → D.nx σ' H'
  | (.bk, e, st) => ∀ σ' H' μ', Ext H μ H' μ' → RE K H' μ' e σ' → RS K H' μ' st → D.bk σ' H'
  | (.ct, e, st) => ∀ σ' H' μ', Ext H μ H' μ' → RE K H' μ' e σ' → RS K H' μ' st → D.ct σ' H'
  | (.rt d, _, st) => ∀ v H' μ', Ext H μ H' μ' → RS K H' μ' st → RV K H' μ' d v → D.rt v H'
theorem Fin.ext {K : PySem.W.Frag} {H H1 : Hp} {μ μ1 : List Addr} {D : Ends} {o : Fl × Env × Sto} (x : Ext H μ H1 μ1) (h : Fin K H μ D o) : Fin K H1 μ1 D o := by
  obtain ⟨f, e, st⟩ := o
  cases f with
  | nx => exact fun σ' H' μ' y => h σ' H' μ' (x.trans y)
  | bk => exact fun σ' H' μ' y => h σ' H' μ' (x.trans y)
  | ct => exact fun σ' H' μ' y => h σ' H' μ' (x.trans y)
  | rt d => exact fun v H' μ' y => h v H' μ' (x.trans y)
def tSD (K : PySem.W.Frag) (m : MS) : TS := fun D σ H => ∃ e st μ o, RE K H μ e σ ∧ RS K H μ st ∧ m e st = some o ∧ Fin K H μ D o
def DS (X : Cx) (s : Stmt) (m : MS) : Prop := PS X s (tSD X.K m)
def DSs (X : Cx) (s : List Stmt) (m : MS) : Prop := PSs X s (tSD X.K m)
def tGD (K : PySem.W.Frag) (g : MG) : TG := fun v σ H Q => ∃ e st μ d e' st', RE K H μ e σ ∧ RS K H μ st ∧ RV K H μ d v ∧ g d e st = some (e', st') ∧
  ∀ σ' H' μ', Ext H μ H' μ' → RE K H' μ' e' σ' → RS K H' μ' st' → Q σ' H'
def DG (X : Cx) (t : Expr) (g : MG) : Prop := PG X t (tGD X.K g)
theorem pg_imp {X : Cx} {e : Expr} {t t' : TG} (h : PG X e t) (i : ∀ v σ H Q, t' v σ H Q → t v σ H Q) : PG X e t' := ⟨fun pins s σ H v u Q I r q => h.run pins s σ H v u Q I r (i _ _ _ _ q)⟩

section
variable {X : Cx} {a b c e o : Expr} {es : List Expr} {ma mb mc : ME DV} {mq : ME (List DV)} {pos p apos : Pos} {s : Stmt} {ss : List Stmt} {m n : MS}
/-! ### targets -/
def tgN (i : Nat) : MG := fun d e st => some (e.set i (some d), st)
theorem dg_name {i : Nat} {x : Str} (hN : X.N.Nodup) (hi : X.N[i]? = some x := by rfl) (hx : Loc X.env.scope x := by first | exact Or.inl rfl | exact Or.inr rfl) (hf : X.fn x = true ∨ X.env.scope.names.lookup x = some .local := by first | exact .inl rfl | exact .inr rfl) : DG X (.Name x pos) (tgN i) :=
  pg_imp (pg_name hN hi hx hf) fun v σ H Q ⟨e, st, μ, d, e', st', he, hs, hv, hg, hq⟩ => by
    cases hg
    exact hq _ H μ Ext.refl (he.set i hv) hs
/-- several, one after another -/
def tgs : List MG → List DV → Env → Sto → Option (Env × Sto)
  | [], [], e, st => some (e, st)
  | g :: gs, d :: ds, e, st => match g d e st with
    | some (e1, st1) => tgs gs ds e1 st1
    | none => none
  | _, _, _, _ => none
def tGsD (K : PySem.W.Frag) (gs : List MG) : TGs := fun vs σ H Q => ∃ e st μ ds e' st', RE K H μ e σ ∧ RS K H μ st ∧ RVs K H μ ds vs ∧ tgs gs ds e st = some (e', st') ∧
  ∀ σ' H' μ', Ext H μ H' μ' → RE K H' μ' e' σ' → RS K H' μ' st' → Q σ' H'
def DGs (X : Cx) (ts : List Expr) (gs : List MG) : Prop := PGs X ts (tGsD X.K gs)
theorem pgs_imp {es : List Expr} {t t' : TGs} (h : PGs X es t) (i : ∀ v σ H Q, t' v σ H Q → t v σ H Q) : PGs X es t' := ⟨fun pins s σ H v u Q I r q => h.run pins s σ H v u Q I r (i _ _ _ _ q)⟩
theorem dgs_nil : DGs X [] [] := pgs_imp pgs_nil fun v σ H Q ⟨e, st, μ, ds, e', st', he, hs, hv, hg, hq⟩ => by
  cases ds with
  | nil =>
    cases hg
    cases hv
    exact ⟨rfl, hq _ H μ Ext.refl he hs⟩
  | cons d ds => cases hg
theorem dgs_cons {g : MG} {gs : List MG} (h1 : DG X e g) (h2 : DGs X es gs) (hs : (assignEach (e :: es) X.env).map (·.2) = assign e X.env :: (assignEach es X.env).map (·.2) := by rfl) : DGs X (e :: es) (g :: gs) :=
  pgs_imp (pgs_cons h1 h2 hs) fun v σ H Q ⟨e, st, μ, ds, e', st', he, hs, hv, hg, hq⟩ => by
    cases ds with
    | nil => cases hg
    | cons d ds =>
      cases hv with
      | cons r rs =>
        have hg : (match g d e st with
          | some (e1, st1) => tgs gs ds e1 st1
          | none => none) = some (e', st') := hg
        split at hg
        · rename_i e1 st1 q
          refine ⟨_, _, rfl, e, st, μ, d, e1, st1, he, hs, r, q, fun σ1 H1 μ1 x1 he1 hs1 => ?_⟩
          exact ⟨e1, st1, μ1, ds, e', st', he1, hs1, rs.ext x1, hg, fun σ2 H2 μ2 x2 he2 hs2 => hq σ2 H2 μ2 (x1.trans x2) he2 hs2⟩
        · cases hg
def tgT (gs : List MG) : MG := fun d e st => match d with
  | .tup ds => tgs gs ds e st
  | _ => none
theorem tgs_len : ∀ (gs : List MG) (ds : List DV) (e : Env) (st : Sto) (r : Env × Sto), tgs gs ds e st = some r → ds.length = gs.length
  | [], [], _, _, _, _ => rfl
  | [], _ :: _, _, _, _, h => by cases h
  | _ :: _, [], _, _, _, h => by cases h
  | g :: gs, d :: ds, e, st, r, h => by
    have h : (match g d e st with
      | some (e1, st1) => tgs gs ds e1 st1
      | none => none) = some r := h
    split at h
    · rw [List.length_cons, List.length_cons, tgs_len gs ds _ _ _ h]
    · cases h
theorem dg_tup {k : Nat} {gs : List MG} (hc : X.calm = true) (h : DGs X es gs) (hn : (assignEach es X.env).length = gs.length := by rfl) (hst : (assignEach es X.env).findIdx? (·.1) = none := by rfl) : DG X (.Tuple es k pos) (tgT gs) :=
  pg_imp (pg_tup hc h hn hst) fun v σ H Q ⟨e, st, μ, d, e', st', he, hs, hv, hg, hq⟩ => by
    unfold tgT at hg
    split at hg
    · rename_i ds
      cases hv with
      | @tup a _ vs sq z rs => exact ⟨a, vs, rfl, sq, by rw [← rs.length]; exact tgs_len _ _ _ _ _ hg, e, st, μ, ds, e', st', he, hs, rs, hg, hq⟩
    · cases hg
/-- xs[i] = v; d[k] = v -/
def putD (kvs : List (Key × DV)) (k : Key) (d : DV) : List (Key × DV) :=
  if (valD kvs k).isSome then kvs.map fun kv => if kv.1 = k then (kv.1, d) else kv else kvs ++ [(k, d)]
def gSet (x y d : DV) (st : Sto) : Option Sto := match x with
  | .ref l => match st[l]? with
    | some (.lst ds) => match y with
      | .int i => match ixN ds.length i with
        | some j => some (st.set l (.lst (ds.set j d)))
        | none => none
      | _ => none
    | some (.dct kvs) => match keyD y with
      | some k => if kvs.length < LIM then some (st.set l (.dct (putD kvs k d))) else none
      | none => none
    | _ => none
  | _ => none
def tgI (mx my : ME DV) : MG := fun d e st => match mx e st with
  | none => none
  | some (x, st1) => match my e st1 with
    | none => none
    | some (y, st2) => match gSet x y d st2 with
      | none => none
      | some st3 => some (e, st3)
theorem put_rel {K : PySem.W.Frag} {H : Hp} {μ : List Addr} {k : Key} {d : DV} {v : V} (r : RV K H μ d v) {ds : List (Key × DV)} {vs : List (Key × V)} (rs : RKs K H μ ds vs) : RKs K H μ (putD ds k d) (putK vs k v) := by
  have hmap : ∀ {ds : List (Key × DV)} {vs : List (Key × V)}, RKs K H μ ds vs → RKs K H μ (ds.map fun kv => if kv.1 = k then (kv.1, d) else kv) (vs.map fun kv => if kv.1 = k then (kv.1, v) else kv) := by
    intro ds vs rs
    induction rs with
    | nil => exact .nil
    | @cons k' d' v' ds vs r' rs ih =>
      rw [List.map_cons, List.map_cons]
      by_cases e : k' = k
      · simp only [e, if_pos]
        exact .cons r ih
      · simp only [if_neg e]
        exact .cons r' ih
  have happ : ∀ {ds : List (Key × DV)} {vs : List (Key × V)}, RKs K H μ ds vs → RKs K H μ (ds ++ [(k, d)]) (vs ++ [(k, v)]) := by
    intro ds vs rs
    induction rs with
    | nil => exact .cons r .nil
    | cons r' rs ih => exact .cons r' ih
  have ea : (vs.any fun kv => decide (kv.1 = k)) = (valD ds k).isSome := by
    rw [valV_any]
    rcases val_of k rs with ⟨h1, h2⟩ | ⟨d', v', h1, h2, _⟩
    · rw [h1, h2]; rfl
    · rw [h1, h2]; rfl
  unfold putD putK
  rw [ea]
  split
  · exact hmap rs
  · exact happ rs
theorem RKs.length {K : PySem.W.Frag} {H : Hp} {μ : List Addr} : ∀ {ds : List (Key × DV)} {vs : List (Key × V)}, RKs K H μ ds vs → ds.length = vs.length
  | _, _, .nil => rfl
  | _, _, .cons _ t => by rw [List.length_cons, List.length_cons, RKs.length t]
/-- a store at a place, by values -/
def tSetD (K : PySem.W.Frag) : TSet := fun o i v H Q => ∃ st μ x y d st', RS K H μ st ∧ RV K H μ x o ∧ RV K H μ y i ∧ RV K H μ d v ∧ gSet x y d st = some st' ∧ ∀ H', Ext H μ H' μ → RS K H' μ st' → Q H'
theorem putK_len {vs : List (Key × V)} {k : Key} {v : V} : (putK vs k v).length ≤ vs.length + 1 := by
  unfold putK
  split
  · rw [List.length_map]; omega
  · rw [List.length_append]; simp
theorem set_any (hu : X.A.units + 1 < cLine) : PSet X (tSetD X.K) := by
  intro pins s σ H o i v ov iv u Q I ro ri rv ⟨st, μ, x, y, d, st', hs, rx, ry, rd, hg, hq⟩
  unfold gSet at hg
  split at hg
  · rename_i l
    cases rx with
    | @ref _ ad hl =>
      split at hg
      · rename_i ds e1
        split at hg
        · rename_i i'
          split at hg
          · rename_i j ej
            cases hg
            cases ry
            have c := hs.cell l ad _ hl e1
            cases c with
            | @lst _ vs _ h z rs =>
              have n1 : ∀ xs, HO.lst vs ≠ .tup xs := fun xs q => by cases q
              have n2 : ∀ ob w, HO.lst vs ≠ .frz ob w := fun ob w q => by cases q
              have x1 : Ext H μ (upd H ad (.lst (vs.set j v))) μ := ext_write h (List.mem_of_getElem? hl) n1 n2
              refine set_list pins s σ H _ _ _ ov iv u Q I ro ri rv ⟨ad, vs, i', j, rfl, rfl, h, by rw [← rs.length]; exact ej, hq _ x1 ?_⟩
              exact hs.write hl h n1 n2 (.lst upd_same (by rw [List.length_set]; exact z) (RVs.set (rd.ext x1) j (rs.ext x1)))
          · cases hg
        · cases hg
      · rename_i kvs e1
        split at hg
        · rename_i k ek
          split at hg
          · rename_i hz
            cases hg
            have c := hs.cell l ad _ hl e1
            cases c with
            | @dct _ ws _ h z rk =>
              have n1 : ∀ xs, HO.dK ws ≠ .tup xs := fun xs q => by cases q
              have n2 : ∀ ob w, HO.dK ws ≠ .frz ob w := fun ob w q => by cases q
              have x1 : Ext H μ (upd H ad (.dK (putK ws k v))) μ := ext_write h (List.mem_of_getElem? hl) n1 n2
              have ek2 := key_of ry ek
              subst ek2
              cases ro
              have hz' : ws.length < sizeLine := by rw [← rk.length]; exact lim_lt hz
              refine d_setItem hu I (DPut.k h hz') ri rv fun s' I' => ⟨_, I', hq _ x1 ?_⟩
              exact hs.write hl h n1 n2 (.dct upd_same (Nat.le_trans putK_len hz') (put_rel (rd.ext x1) (rk.ext x1)))
          · cases hg
        · cases hg
      · cases hg
  · cases hg
theorem dg_sub (hu : X.A.units + 1 < cLine) (ho : DE X o ma) (hi : DE X a mb) (hs : ∀ v, assign (.Subscript o a pos) X.env v = (do
      let ov ← holding [v] (eval o X.env)
      let iv ← holding [v, ov] (eval a X.env)
      standAt pos
      holding [v, ov, iv] (setItem ov iv v)
      release [v, ov, iv] []) := by intro _; rfl) : DG X (.Subscript o a pos) (tgI ma mb) :=
  pg_imp (pg_sub ho hi (set_any hu) hs) fun v σ H Q ⟨e, st, μ, d, e', st', he, hs, hv, hg, hq⟩ => by
    unfold tgI at hg
    split at hg
    · cases hg
    · rename_i x st1 h1
      split at hg
      · cases hg
      · rename_i y st2 h2
        split at hg
        · cases hg
        · rename_i st3 h3
          cases hg
          refine ⟨e, st, μ, x, st1, he, hs, h1, fun H1 μ1 w x1 hs1 rw' => ⟨e, st1, μ1, y, st2, he.ext x1, hs1, h2, fun H2 μ2 w2 x2 hs2 rw2 => ?_⟩⟩
          exact ⟨st2, μ2, x, y, d, _, hs2, rw'.ext x2, rw2, (hv.ext x1).ext x2, h3, fun H3 x3 hs3 => hq σ H3 μ2 (x1.trans (x2.trans x3)) (he.ext (x1.trans (x2.trans x3))) hs3⟩

/-! ### statements -/
def sSkip : MS := fun e st => some (.nx, e, st)
theorem dss_nil : DSs X [] sSkip := pss_imp pss_nil fun D σ H ⟨e, st, μ, o, he, hs, hm, hq⟩ => by
  cases hm
  exact hq σ H μ Ext.refl he hs
def sSeq (m n : MS) : MS := fun e st => match m e st with
  | some (.nx, e1, st1) => n e1 st1
  | r => r
theorem dss_cons (h : DS X s m) (hr : DSs X ss n) : DSs X (s :: ss) (sSeq m n) := pss_imp (pss_cons h hr) fun D σ H ⟨e, st, μ, o, he, hs, hm, hq⟩ => by
  unfold sSeq at hm
  split at hm
  · rename_i e1 st1 h1
    refine ⟨e, st, μ, _, he, hs, h1, fun σ1 H1 μ1 x1 he1 hs1 => ?_⟩
    exact ⟨e1, st1, μ1, o, he1, hs1, hm, hq.ext x1⟩
  · rename_i h1 h2
    refine ⟨e, st, μ, o, he, hs, hm, ?_⟩
    obtain ⟨f, e1, st1⟩ := o
    cases f with
    | nx => exact absurd hm (h2 e1 st1)
    | rt d => exact hq
    | bk => exact hq
    | ct => exact hq
theorem dss_one (h : DS X s m) : DSs X [s] m := pss_one h
theorem ds_pass : DS X (.Pass pos) sSkip := ps_imp ps_pass fun D σ H ⟨e, st, μ, o, he, hs, hm, hq⟩ => by
  cases hm
  exact hq σ H μ Ext.refl he hs
theorem ds_break : DS X (.Break pos) (fun e st => some (.bk, e, st)) := ps_imp ps_break fun D σ H ⟨e, st, μ, o, he, hs, hm, hq⟩ => by
  cases hm
  exact hq σ H μ Ext.refl he hs
theorem ds_cont : DS X (.Continue pos) (fun e st => some (.ct, e, st)) := ps_imp ps_continue fun D σ H ⟨e, st, μ, o, he, hs, hm, hq⟩ => by
  cases hm
  exact hq σ H μ Ext.refl he hs
def sExpr (m : ME DV) : MS := fun e st => match m e st with
  | some (_, st1) => some (.nx, e, st1)
  | none => none
theorem ds_expr (h : DE X e ma) (hs : swapsWith e none pos.line X.env = pure false := by rfl) : DS X (.Expr e pos) (sExpr ma) := ps_imp (ps_expr h hs) fun D σ H ⟨e, st, μ, o, he, hs, hm, hq⟩ => by
  unfold sExpr at hm
  split at hm
  · rename_i d st1 h1
    cases hm
    exact ⟨e, st, μ, d, st1, he, hs, h1, fun H1 μ1 v x1 hs1 rv => hq σ H1 μ1 x1 (he.ext x1) hs1⟩
  · cases hm
def sRet (m : ME DV) : MS := fun e st => match m e st with
  | some (d, st1) => some (.rt d, e, st1)
  | none => none
theorem ds_ret (h : DE X e ma) : DS X (.Return (some e) pos) (sRet ma) := ps_imp (ps_ret h) fun D σ H ⟨e, st, μ, o, he, hs, hm, hq⟩ => by
  unfold sRet at hm
  split at hm
  · rename_i d st1 h1
    cases hm
    exact ⟨e, st, μ, d, st1, he, hs, h1, fun H1 μ1 v x1 hs1 rv => hq v H1 μ1 x1 hs1 rv⟩
  · cases hm
theorem ds_retN : DS X (.Return none pos) (sRet (mC .non)) := ps_imp ps_retN fun D σ H ⟨e, st, μ, o, he, hs, hm, hq⟩ => by
  cases hm
  exact hq .non H μ Ext.refl hs .non
def sIf (t : ME Bool) (m n : MS) : MS := fun e st => match t e st with
  | some (true, st1) => m e st1
  | some (false, st1) => n e st1
  | none => none
theorem ds_if {t : Expr} {mt : ME Bool} {tt : List Stmt} (ht : DT X t mt) (h : DSs X ss m) (h' : DSs X tt n) : DS X (.If t ss tt pos) (sIf mt m n) := ps_imp (ps_if ht h h') fun D σ H ⟨e, st, μ, o, he, hs, hm, hq⟩ => by
  unfold sIf at hm
  split at hm
  · rename_i st1 h1
    refine ⟨e, st, μ, true, st1, he, hs, h1, fun H1 μ1 x1 hs1 => ?_⟩
    refine iteT ?_
    exact ⟨e, st1, μ1, o, he.ext x1, hs1, hm, hq.ext x1⟩
  · rename_i st1 h1
    refine ⟨e, st, μ, false, st1, he, hs, h1, fun H1 μ1 x1 hs1 => ?_⟩
    refine iteF ?_
    exact ⟨e, st1, μ1, o, he.ext x1, hs1, hm, hq.ext x1⟩
  · cases hm
def sAsg (g : MG) (m : ME DV) : MS := fun e st => match m e st with
  | some (d, st1) => match g d e st1 with
    | some (e2, st2) => some (.nx, e2, st2)
    | none => none
  | none => none
theorem asg_read {g : MG} {te : TE} (i : ∀ σ H Q, tD X.K ma σ H Q → te σ H Q) : ∀ D σ H, tSD X.K (sAsg g ma) D σ H → tAsg te (tGD X.K g) D σ H := by
  intro D σ H ⟨e, st, μ, o, he, hs, hm, hq⟩
  unfold sAsg at hm
  split at hm
  · rename_i d st1 h1
    split at hm
    · rename_i e2 st2 h2
      cases hm
      refine i _ _ _ ⟨e, st, μ, d, st1, he, hs, h1, fun H1 μ1 v x1 hs1 rv => ?_⟩
      exact ⟨e, st1, μ1, d, e2, st2, he.ext x1, hs1, rv, h2, fun σ3 H3 μ3 x3 he3 hs3 => hq σ3 H3 μ3 (x1.trans x3) he3 hs3⟩
    · cases hm
  · cases hm
theorem ds_asg {t : Expr} {g : MG} (h : DE X e ma) (hg : DG X t g) (hs : swapsWithSole [t] e pos.line X.env = pure false := by rfl) (hw : swappedStores [t] e X.env = pure none := by rfl) (h1 : (assignEach [t] X.env).map (·.2) = [assign t X.env] := by rfl) : DS X (.Assign [t] e pos) (sAsg g ma) :=
  ps_imp (ps_asg h hg hs hw h1) (asg_read fun _ _ _ h => h)
def sSet (i : Nat) (m : ME DV) : MS := sAsg (tgN i) m
theorem set_read {i : Nat} {te : TE} (j : ∀ σ H Q, tD X.K ma σ H Q → te σ H Q) : ∀ D σ H, tSD X.K (sSet i ma) D σ H → tAsg te (gName i) D σ H := by
  intro D σ H ⟨e, st, μ, o, he, hs, hm, hq⟩
  unfold sSet sAsg at hm
  split at hm
  · rename_i d st1 h1
    cases hm
    exact j _ _ _ ⟨e, st, μ, d, st1, he, hs, h1, fun H1 μ1 v x1 hs1 rv => hq _ H1 μ1 x1 ((he.ext x1).set i rv) hs1⟩
  · cases hm
theorem ds_set {i : Nat} {x : Str} {p' : Pos} (hN : X.N.Nodup) (h : DE X e ma) (hi : X.N[i]? = some x := by rfl) (hx : Loc X.env.scope x := by first | exact Or.inl rfl | exact Or.inr rfl) (hs : swapsWith e (some (.Name x p')) pos.line X.env = pure false := by rfl) (hf : X.fn x = true ∨ X.env.scope.names.lookup x = some .local := by first | exact .inl rfl | exact .inr rfl) : DS X (.Assign [.Name x p'] e pos) (sSet i ma) :=
  ps_imp (ps_set hN hi hx h hs hf) (set_read fun _ _ _ h => h)
/-- a, b = x, y, two locals -/
def sPar (i j : Nat) (m n : ME DV) : MS := fun e st => match mArgs [m, n] e st with
  | some ([c, d], st1) => some (.nx, (e.set i (some c)).set j (some d), st1)
  | _ => none
theorem ds_par {i j : Nat} {x y : Str} {px py pt : Pos} {kt k2 : Nat} {pt2 : Pos} (hc : X.calm = true) (hN : X.N.Nodup) (hij : i ≠ j) (ha : DE X a ma) (hb : DE X b mb) (hi : X.N[i]? = some x := by rfl) (hj : X.N[j]? = some y := by rfl)
    (hx : X.env.scope.names.lookup x = some .local := by rfl) (hy : X.env.scope.names.lookup y = some .local := by rfl)
    (hw : swappedStores [.Tuple [.Name x px, .Name y py] kt pt] (.Tuple [a, b] k2 pt2) X.env = pure (some [x, y]) := by rfl)
    (hs : swapsWithSole [.Tuple [.Name x px, .Name y py] kt pt] (.Tuple [a, b] k2 pt2) pos.line X.env = pure false := by rfl)
    (e1 : starEach [a, b] X.env = (false, eval a X.env) :: starEach [b] X.env := by rfl) (e2 : starEach [b] X.env = (false, eval b X.env) :: starEach [] X.env := by rfl) :
    DS X (.Assign [.Tuple [.Name x px, .Name y py] kt pt] (.Tuple [a, b] k2 pt2) pos) (sPar i j ma mb) :=
  ps_imp (ps_par hc hN hi hj hij hx hy (da_cons ha (da_cons hb da_nil e2) e1) hw hs) fun D σ H ⟨e, st, μ, o, he, hs, hm, hq⟩ => by
    unfold sPar at hm
    split at hm
    · rename_i c d st1 h1
      cases hm
      refine ⟨e, st, μ, [c, d], st1, he, hs, h1, fun H1 μ1 vs x1 hs1 rvs => ?_⟩
      cases rvs with
      | cons r1 rr =>
        cases rr with
        | cons r2 rr =>
          cases rr
          exact ⟨_, _, rfl, hq _ H1 μ1 x1 (((he.ext x1).set i r1).set j r2) hs1⟩
    · cases hm
/-! ### name op= e -/
def sAug (i : Nat) (g : G2) (m : ME DV) : MS := fun e st => match mVar i e st with
  | some (x, _) => match m e st with
    | some (y, st1) => match g x y st1 with
      | some (z, st2) => some (.nx, e.set i (some z), st2)
      | none => none
    | none => none
  | none => none
def tIpD (K : PySem.W.Frag) (g : G2) : TIp := rB K g
theorem ip_of {op : Operator} {g : G2} (h : OpD X (inplaceOp op) g) : PIp X op (tIpD X.K g) := h
theorem ds_aug {i : Nat} {x : Str} {op : Operator} {g : G2} {p' : Pos} (hN : X.N.Nodup) (ho : OpD X (inplaceOp op) g) (h : DE X e ma) (hi : X.N[i]? = some x := by rfl) (hx : Loc X.env.scope x := by first | exact Or.inl rfl | exact Or.inr rfl) (hf : X.fn x = true ∨ X.env.scope.names.lookup x = some .local := by first | exact .inl rfl | exact .inr rfl) : DS X (.AugAssign (.Name x p') op e pos) (sAug i g ma) :=
  ps_imp (ps_aug hN hi hx h (ip_of ho) hf) fun D σ H ⟨e, st, μ, o, he, hs, hm, hq⟩ => by
    unfold sAug at hm
    split at hm
    · rename_i xd sx hx
      unfold mVar at hx
      split at hx
      · rename_i d' hd'
        cases hx
        obtain ⟨v, h1, h2⟩ := he.val i _ hd'
        split at hm
        · rename_i y st1 hy
          split at hm
          · rename_i z st2 hz
            cases hm
            refine ⟨v, h1, e, st, μ, y, st1, he, hs, hy, fun H1 μ1 w x1 hs1 rw' => ?_⟩
            exact ⟨st1, μ1, _, y, z, st2, hs1, h2.ext x1, rw', hz, fun H2 μ2 zv x2 hs2 rz => hq _ H2 μ2 (x1.trans x2) ((he.ext (x1.trans x2)).set i rz) hs2⟩
          · cases hm
        · cases hm
      · cases hx
    · cases hm
theorem od_iaddI : OpD X (inplaceOp .Add) (gI yes2 fun i j => .int (i + j)) := od_I (rI_of iop_add) (fun _ _ _ => trivial) fun _ _ _ i j => .int _

/-! ### while -/
def sWhile (t : ME Bool) (m : MS) : Nat → MS
  | 0, _, _ => none
  | k + 1, e, st => match t e st with
    | some (true, st1) => match m e st1 with
      | some (.nx, e2, st2) => sWhile t m k e2 st2
      | some (.ct, e2, st2) => sWhile t m k e2 st2
      | some (.bk, e2, st2) => some (.nx, e2, st2)
      | r => r
    | some (false, st1) => some (.nx, e, st1)
    | none => none
theorem ds_while (k : Nat) {t : Expr} {mt : ME Bool} (hp : PassesOwn (model X.prog X.w) X.A X.env X.xe) (ht : DT X t mt) (h : DSs X ss m) : DS X (.While t ss [] pos) (sWhile mt m k) :=
  ps_imp (ps_while hp ht h) fun D σ H ⟨e, st, μ, o, he, hs, hm, hq⟩ => by
    refine ⟨fun k σ H => ∃ e st μ o, RE X.K H μ e σ ∧ RS X.K H μ st ∧ sWhile mt m k e st = some o ∧ Fin X.K H μ { D with bk := fun _ _ => False, ct := fun _ _ => False } o, ⟨k, e, st, μ, o, he, hs, hm, ?_⟩, fun k σ H ⟨e, st, μ, o, he, hs, hm, hq⟩ => ?_⟩
    · have key : ∀ k e st o, sWhile mt m k e st = some o → (∃ e1 st1, o = (.nx, e1, st1)) ∨ ∃ d e1 st1, o = (.rt d, e1, st1) := by
        intro k
        induction k with
        | zero => intro e st o h; cases h
        | succ k ih =>
          intro e st o h
          unfold sWhile at h
          split at h
          · split at h
            · exact ih _ _ _ h
            · exact ih _ _ _ h
            · cases h; exact .inl ⟨_, _, rfl⟩
            · rename_i h1 h2 h3
              obtain ⟨f, e1, st1⟩ := o
              cases f with
              | nx => exact absurd h (h1 _ _)
              | ct => exact absurd h (h2 _ _)
              | bk => exact absurd h (h3 _ _)
              | rt d => exact .inr ⟨d, e1, st1, rfl⟩
          · cases h; exact .inl ⟨_, _, rfl⟩
          · cases h
      rcases key k e st o hm with ⟨e1, st1, rfl⟩ | ⟨d, e1, st1, rfl⟩
      · exact hq
      · exact hq
    · cases k with
      | zero => cases hm
      | succ k =>
        unfold sWhile at hm
        split at hm
        · rename_i st1 h1
          refine ⟨e, st, μ, true, st1, he, hs, h1, fun H1 μ1 x1 hs1 => ?_⟩
          refine iteT ?_
          refine ⟨fun σ H => ∃ e st μ o, RE X.K H μ e σ ∧ RS X.K H μ st ∧ sWhile mt m k e st = some o ∧ Fin X.K H μ { D with bk := fun _ _ => False, ct := fun _ _ => False } o, fun σ' H' n => ⟨k, Nat.lt_succ_self k, n⟩, ?_⟩
          split at hm
          · rename_i e2 st2 h2
            exact ⟨e, st1, μ1, _, he.ext x1, hs1, h2, fun σ2 H2 μ2 x2 he2 hs2 => ⟨e2, st2, μ2, o, he2, hs2, hm, hq.ext (x1.trans x2)⟩⟩
          · rename_i e2 st2 h2
            exact ⟨e, st1, μ1, _, he.ext x1, hs1, h2, fun σ2 H2 μ2 x2 he2 hs2 => ⟨e2, st2, μ2, o, he2, hs2, hm, hq.ext (x1.trans x2)⟩⟩
          · rename_i e2 st2 h2
            cases hm
            exact ⟨e, st1, μ1, _, he.ext x1, hs1, h2, fun σ2 H2 μ2 x2 he2 hs2 => hq σ2 H2 μ2 (x1.trans x2) he2 hs2⟩
          · rename_i n1 n2 n3
            refine ⟨e, st1, μ1, o, he.ext x1, hs1, hm, ?_⟩
            obtain ⟨f, e1, st1'⟩ := o
            cases f with
            | nx => exact absurd hm (n1 _ _)
            | ct => exact absurd hm (n2 _ _)
            | bk => exact absurd hm (n3 _ _)
            | rt d => exact hq.ext x1
        · rename_i st1 h1
          cases hm
          refine ⟨e, st, μ, false, st1, he, hs, h1, fun H1 μ1 x1 hs1 => ?_⟩
          refine iteF ?_
          exact hq σ H1 μ1 x1 (he.ext x1) hs1
        · cases hm
end
end DL

/-! DL7: what is walked; for, list comprehensions by data. -/
namespace DL
open PySem PySem.Spec PyProof.Rows L2

theorem bind_eq {α β : Type} {m : ME α} {f : α → ME β} {e : Env} {st st1 : Sto} {a : α} (h : m e st = some (a, st1)) : ME.bind m f e st = f a e st1 := by
  unfold ME.bind
  rw [h]
/-- the cell that is walked stays as it is -/
def stays (s : Option Nat) (ds : List DV) (st : Sto) : Prop := match s with
  | none => True
  | some l => st[l]? = some (.lst ds)
/-- items, and the cell that they stand in -/
abbrev MI := ME (Option Nat × List DV)
/-- what stays of what is new since Hs; all tuples -/
structure Ext2 (Hs H : Hp) (μ : List Addr) (H' : Hp) (μ' : List Addr) : Prop where
  pre : ∃ t, μ' = μ ++ t ∧ ∀ a ∈ t, H a = none
  tup : ∀ a xs, H a = some (.tup xs) → H' a = some (.tup xs)
  frz : ∀ a o u, H a = some (.frz o u) → H' a = some (.frz o u)
  oth : ∀ a o, Hs a = none → a ∉ μ → H a = some o → H' a = some o
  trk : ∀ a, H' a = none → H a = none
theorem Ext.two {Hs H H1 : Hp} {μ μ1 : List Addr} (x : Ext H μ H1 μ1) : Ext2 Hs H μ H1 μ1 := ⟨x.pre, x.tup, x.frz, fun a o _ h1 h2 => x.oth a o h1 h2, x.trk⟩
theorem Ext2.after {Hs H H1 H2 : Hp} {μ μ1 μ2 : List Addr} (x : Ext H μ H1 μ1) (y : Ext2 Hs H1 μ1 H2 μ2) : Ext2 Hs H μ H2 μ2 := by
  obtain ⟨t, rfl, ht⟩ := x.pre
  obtain ⟨u, rfl, hu⟩ := y.pre
  refine ⟨⟨t ++ u, by simp, fun a h => ?_⟩, fun a xs h => y.tup _ _ (x.tup _ _ h), fun a o w h => y.frz _ _ _ (x.frz _ _ _ h), fun a o h0 h1 h2 => y.oth a o h0 (fun z => ?_) (x.oth a o h1 h2), fun a h => x.trk a (y.trk a h)⟩
  · rcases List.mem_append.mp h with h | h
    · exact ht a h
    · exact x.trk a (hu a h)
  rcases List.mem_append.mp z with z | z
  · exact h1 z
  · rw [ht a z] at h2; cases h2
theorem Ext2.sqt {K : PySem.W.Frag} {Hs H H1 : Hp} {μ μ1 : List Addr} (x : Ext2 Hs H μ H1 μ1) {a : Addr} {xs : List V} (h : SqT K H a xs) : SqT K H1 a xs := by
  rcases h with (h | ⟨o, h⟩) | h
  · exact .inl (.inl (x.tup _ _ h))
  · exact .inl (.inr ⟨o, x.frz _ _ _ h⟩)
  · exact .inr h
theorem Ext2.sqr {K : PySem.W.Frag} {Hs H H1 : Hp} {μ μ1 : List Addr} (x : Ext2 Hs H μ H1 μ1) {a : Addr} {xs : List V} (h : SqR K H a xs) : SqR K H1 a xs := by
  rcases h with ⟨o, h⟩ | h
  · exact .inl ⟨o, x.frz _ _ _ h⟩
  · exact .inr h
theorem Ext2.at {Hs H H1 : Hp} {μ μ1 : List Addr} (x : Ext2 Hs H μ H1 μ1) {l : Nat} {a : Addr} (h : μ[l]? = some a) : μ1[l]? = some a := by
  obtain ⟨t, rfl, _⟩ := x.pre
  obtain ⟨h1, _⟩ := List.getElem?_eq_some_iff.mp h
  rw [List.getElem?_append_left h1]; exact h
theorem RVs.ext2 {K : PySem.W.Frag} {Hs H H1 : Hp} {μ μ1 : List Addr} (x : Ext2 Hs H μ H1 μ1) {d : List DV} {v : List V} (r : RVs K H μ d v) : RVs K H1 μ1 d v :=
  RVs.rec (motive_1 := fun d v _ => RV K H1 μ1 d v) (motive_2 := fun d v _ => RVs K H1 μ1 d v) .non .bl .int .str (fun s z _ r => .tup (x.sqt s) z r) (fun h => .ref (x.at h)) (fun s z _ r => .scr (x.sqr s) z r) .nil (fun _ _ a b => .cons a b) r
def ItD (K : PySem.W.Frag) (J : It) (s : Option Nat) (ds : List DV) (Hs H0 : Hp) (μ0 : List Addr) : Prop :=
  ds.length ≤ sizeLine ∧ ∀ H μ st i, Ext2 Hs H0 μ0 H μ → RS K H μ st → stays s ds st →
    (∀ d, ds[i]? = some d → J.go i H ∧ ∀ x H', J.yld i H x H' → Ext H μ H' μ ∧ RS K H' μ st ∧ RV K H' μ d x) ∧ (ds.length ≤ i → J.stop i H)
def tID (K : PySem.W.Frag) (m : MI) : TI := fun σ H R => ∃ e st μ s ds st', RE K H μ e σ ∧ RS K H μ st ∧ m e st = some ((s, ds), st') ∧
  ∀ H' μ' J, Ext H μ H' μ' → RS K H' μ' st' → ItD K J s ds H H' μ' → R J H'
def DI (X : Cx) (t e : Expr) (m : MI) : Prop := PI X t e (tID X.K m)
theorem pi_imp {X : Cx} {tg e : Expr} {t t' : TI} (h : PI X tg e t) (i : ∀ σ H Q, t' σ H Q → t σ H Q) : PI X tg e t' := ⟨fun pins s σ H Q I q => h.run pins s σ H Q I (i _ _ _ q)⟩
theorem it_tup {K : PySem.W.Frag} {Hs H : Hp} {μ : List Addr} {a : Addr} {ds : List DV} {vs : List V} (sq : SqT K H a vs) (z : vs.length ≤ sizeLine) (rs : RVs K H μ ds vs) : ItD K (Itt K a) none ds Hs H μ := by
  refine ⟨by rw [rs.length]; exact z, fun H1 μ1 st i x hs _ => ⟨fun d hd => ?_, fun hl => ⟨vs, x.sqt sq, by rw [← rs.length]; exact hl⟩⟩⟩
  obtain ⟨v, h1, h2⟩ := (rs.ext2 x).get hd
  refine ⟨⟨vs, v, x.sqt sq, h1⟩, fun y H' hy => ?_⟩
  obtain ⟨rfl, hy⟩ := hy
  have := hy vs (x.sqt sq)
  rw [h1] at this
  cases this
  exact ⟨Ext.refl, hs, h2⟩
/-- the list at a holds these values as long as it may be walked -/
theorem it_lst {K : PySem.W.Frag} {Hs H : Hp} {μ : List Addr} {a : Addr} {s : Option Nat} {ds : List DV} (z : ds.length ≤ sizeLine) (h : ∀ H1 μ1 st, Ext2 Hs H μ H1 μ1 → RS K H1 μ1 st → stays s ds st → ∃ vs, SqL K H1 a vs ∧ RVs K H1 μ1 ds vs ) : ItD K (Itl K a) s ds Hs H μ := by
  refine ⟨z, fun H1 μ1 st i x hs y => ?_⟩
  obtain ⟨vs, sq, rs⟩ := h H1 μ1 st x hs y
  refine ⟨fun d hd => ?_, fun hl => ⟨vs, sq, by rw [← rs.length]; exact hl⟩⟩
  obtain ⟨v, h1, h2⟩ := rs.get hd
  refine ⟨⟨vs, v, sq, h1⟩, fun y H' hy => ?_⟩
  obtain ⟨rfl, hy⟩ := hy
  have := hy vs sq
  rw [h1] at this
  cases this
  exact ⟨Ext.refl, hs, h2⟩
section
variable {X : Cx} {a b c e o tg : Expr} {es : List Expr} {ma mb mc : ME DV} {mq : ME (List DV)} {pos p apos : Pos} {s : Stmt} {ss : List Stmt} {m n : MS}
def srcOf : DV → Option Nat
  | .ref l => some l
  | _ => none
def itV (m : ME DV) : MI := ME.bind m fun d => fun _ st => match itemsOf st d with
  | some ds => some ((srcOf d, ds), st)
  | none => none
theorem di_val (h : DE X e ma) : DI X tg e (itV ma) := by
  refine ⟨fun pins s σ H R I hr => ?_⟩
  obtain ⟨en, st, μ, sr, ds, st', he, hs, hm, hq⟩ := hr
  obtain ⟨d, st1, h1, hm⟩ := bind_some hm
  cases q : itemsOf st1 d with
  | none => rw [q] at hm; cases hm
  | some ds0 =>
    rw [q] at hm
    cases hm
    cases d with
    | tup ds0 =>
      cases q
      refine (pi_tup h).run pins s σ H R I ⟨en, st, μ, _, _, he, hs, h1, fun H1 μ1 v x1 hs1 rv => ?_⟩
      cases rv with
      | tup sq z rs => exact ⟨_, rfl, ⟨_, sq⟩, hq H1 μ1 _ x1 hs1 (it_tup sq z rs)⟩
    | scr ds0 =>
      cases q
      refine (pi_list h).run pins s σ H R I ⟨en, st, μ, _, _, he, hs, h1, fun H1 μ1 v x1 hs1 rv => ?_⟩
      cases rv with
      | @scr a _ vs sq z rs =>
        refine ⟨_, rfl, ⟨_, sq.sql⟩, hq H1 μ1 _ x1 hs1 (it_lst (by rw [rs.length]; exact z) fun H2 μ2 st2 x2 hs2 _ => ⟨vs, (x2.sqr sq).sql, rs.ext2 x2⟩)⟩
    | ref l =>
      refine (pi_list h).run pins s σ H R I ⟨en, st, μ, _, _, he, hs, h1, fun H1 μ1 v x1 hs1 rv => ?_⟩
      cases rv with
      | @ref _ a hl =>
        obtain ⟨vs, ha, z, rs⟩ := lst_read hs1 q hl
        refine ⟨_, rfl, ⟨_, SqL.of ha⟩, hq H1 μ1 _ x1 hs1 (it_lst (by rw [rs.length]; exact z) fun H2 μ2 st2 x2 hs2 hst => ?_)⟩
        have q2 : itemsOf st2 (.ref l) = some ds := by
          show (match st2[l]? with
            | some (.lst ds) => some ds
            | _ => none) = some ds
          have hst : st2[l]? = some (.lst ds) := hst
          rw [hst]
        obtain ⟨vs2, ha2, z2, rs2⟩ := lst_read hs2 q2 (x2.at hl)
        exact ⟨vs2, SqL.of ha2, rs2⟩
    | _ => cases q
def itF (m : ME (List DV)) : MI := ME.bind m fun ds => ME.pure (none, ds)
theorem di_new (h : DF X e mq) : DI X tg e (itF mq) := pi_imp (pi_list h) fun σ H R ⟨en, st, μ, sr, ds, st', he, hs, hm, hq⟩ => by
  obtain ⟨d, st1, h1, hm⟩ := bind_some hm
  cases hm
  refine ⟨en, st, μ, _, _, he, hs, h1, fun H1 μ1 a vs x1 hs1 n1 n2 ha z rs => ⟨a, rfl, ⟨vs, SqL.of ha⟩, hq H1 μ1 _ x1 hs1 (it_lst (by rw [rs.length]; exact z) fun H2 μ2 st2 x2 hs2 _ => ?_)⟩⟩
  exact ⟨vs, SqL.of (x2.oth a _ n1 n2 ha), rs.ext2 x2⟩
theorem rgD_len {i j : Int} : (rgD i j).length = (j - i).toNat := by unfold rgD; rw [List.length_map, List.length_range]
theorem it_rng {K : PySem.W.Frag} {Hs H : Hp} {μ : List Addr} {i j : Int} (h : okR i j = true) : ItD K (Itr i (j - i).toNat) none (rgD i j) Hs H μ := by
  have hz : (rgD i j).length ≤ sizeLine := by
    have := rgV_len h
    rw [rgV_length] at this
    rw [rgD_len]; exact this
  refine ⟨hz, fun H1 μ1 st k x hs _ => ⟨fun d hd => ?_, fun hl => ?_⟩⟩
  · have hk : k < (j - i).toNat := by
      have := (List.getElem?_eq_some_iff.mp hd).1
      rw [rgD_len] at this; exact this
    have ed : d = .int (i + (k : Nat)) := by
      unfold rgD at hd
      rw [List.getElem?_map, List.getElem?_range hk] at hd
      exact (Option.some.inj hd).symm
    subst ed
    refine ⟨hk, fun y H' hy => ?_⟩
    obtain ⟨rfl, rfl⟩ := hy
    exact ⟨Ext.refl, hs, .int _⟩
  · rw [rgD_len] at hl; exact hl
theorem di_rg1 (hm : X.mg "range" = none) (ha : DE X a ma) (hg : Gl X "range" := by rfl) (hs : starEach [a] X.env = [(false, eval a X.env)] := by rfl) (hs2 : starEach [a] X.env = (false, eval a X.env) :: starEach [] X.env := by rfl) : DI X tg (.Call (.Name "range" p) [a] [] pos) (itF (mRg1 ma)) :=
  pi_imp (pi_range1 hg hm (da_cons ha da_nil hs2) hs) fun σ H R ⟨en, st, μ, sr, ds, st', he, hs, hm, hq⟩ => by
    obtain ⟨d, st1, h1, hm⟩ := bind_some hm
    cases hm
    obtain ⟨x, st2, h2, h1⟩ := bind_some h1
    cases x with
    | int n =>
      have h1 : (if okR 0 n = true then some (rgD 0 n, st2) else none) = some (_, _) := h1
      split at h1
      · rename_i hk
        cases h1
        refine ⟨en, st, μ, [.int n], st', he, hs, ?_, fun H1 μ1 vs x1 hs1 rs => ?_⟩
        · show ME.bind ma _ en st = _
          unfold ME.bind
          rw [h2]
          rfl
        · cases rs with
          | cons r rr =>
            cases rr
            cases r
            have b := okR_ok hk
            refine ⟨n, rfl, b.2.2.1, b.2.2.2.1, hq H1 μ1 _ x1 hs1 ?_⟩
            have := it_rng (K := X.K) (Hs := H) (H := H1) (μ := μ1) hk
            rw [Int.sub_zero] at this
            exact this
      · cases h1
    | _ => cases h1
theorem di_rg2 (hm : X.mg "range" = none) (ha : DE X a ma) (hb : DE X b mb) (hg : Gl X "range" := by rfl) (hs : starEach [a, b] X.env = [(false, eval a X.env), (false, eval b X.env)] := by rfl) (hs2 : starEach [b] X.env = [(false, eval b X.env)] := by rfl) (hs3 : starEach [a, b] X.env = (false, eval a X.env) :: starEach [b] X.env := by rfl) (hs4 : starEach [b] X.env = (false, eval b X.env) :: starEach [] X.env := by rfl) : DI X tg (.Call (.Name "range" p) [a, b] [] pos) (itF (mRg2 ma mb)) :=
  pi_imp (pi_range2 hg hm (da_cons ha (da_cons hb da_nil hs4) hs3) hs hs2) fun σ H R ⟨en, st, μ, sr, ds, st', he, hs, hm, hq⟩ => by
    obtain ⟨d, st1, h1, hm⟩ := bind_some hm
    cases hm
    obtain ⟨x, st2, h2, h1⟩ := bind_some h1
    obtain ⟨y, st3, h3, h1⟩ := bind_some h1
    cases x with
    | int i =>
      cases y with
      | int j =>
        have h1 : (if okR i j = true then some (rgD i j, st3) else none) = some (_, _) := h1
        split at h1
        · rename_i hk
          cases h1
          refine ⟨en, st, μ, [.int i, .int j], st', he, hs, ?_, fun H1 μ1 vs x1 hs1 rs => ?_⟩
          · have e3 : mArgs [mb] en st2 = some ([.int j], st') := (bind_eq h3).trans rfl
            exact (bind_eq h2).trans ((bind_eq e3).trans rfl)
          · cases rs with
            | cons r rr =>
              cases rr with
              | cons r2 rr =>
                cases rr
                cases r
                cases r2
                have b := okR_ok hk
                exact ⟨i, j, rfl, ⟨b.1, b.2.1, b.2.2.1, b.2.2.2.1⟩, hq H1 μ1 _ x1 hs1 (it_rng hk)⟩
        · cases h1
      | _ => cases h1
    | _ => cases h1

/-! ### for -/
open Classical in
noncomputable def forD (s : Option Nat) (all : List DV) (g : MG) (m : MS) : List DV → MS
  | [], e, st => if stays s all st then some (.nx, e, st) else none
  | d :: r, e, st => if stays s all st then (match g d e st with
    | some (e1, st1) => (match m e1 st1 with
      | some (.nx, e2, st2) => forD s all g m r e2 st2
      | some (.ct, e2, st2) => forD s all g m r e2 st2
      | some (.bk, e2, st2) => some (.nx, e2, st2)
      | r => r)
    | none => none) else none
noncomputable def sFor (mi : MI) (g : MG) (m : MS) : MS := fun e st => match mi e st with
  | some ((s, ds), st1) => forD s ds g m ds e st1
  | none => none
theorem forD_out {s : Option Nat} {all : List DV} {g : MG} {m : MS} : ∀ (r : List DV) (e : Env) (st : Sto) (o : Fl × Env × Sto), forD s all g m r e st = some o → (∃ e1 st1, o = (.nx, e1, st1)) ∨ ∃ d e1 st1, o = (.rt d, e1, st1)
  | [], e, st, o, h => by
    unfold forD at h
    split at h
    · cases h; exact .inl ⟨_, _, rfl⟩
    · cases h
  | d :: r, e, st, o, h => by
    unfold forD at h
    split at h
    · split at h
      · split at h
        · exact forD_out r _ _ _ h
        · exact forD_out r _ _ _ h
        · cases h; exact .inl ⟨_, _, rfl⟩
        · rename_i h1 h2 h3
          obtain ⟨f, e1, st1⟩ := o
          cases f with
          | nx => exact absurd h (h1 _ _)
          | ct => exact absurd h (h2 _ _)
          | bk => exact absurd h (h3 _ _)
          | rt d => exact .inr ⟨d, e1, st1, rfl⟩
      · cases h
    · cases h
theorem ds_for {iter : Expr} {mi : MI} {g : MG} (hp : PassesOwn (model X.prog X.w) X.A X.env X.xe) (hc : X.calm = true) (hi : DI X tg iter mi) (hg : DG X tg g) (hb : DSs X ss m) (hs : ∀ x, foldedSetIterable iter X.env x = pure x := by intro _; rfl) : DS X (.For tg iter ss [] pos) (sFor mi g m) :=
  ps_imp (ps_for hp hc hi hg hb hs) fun D σ H ⟨e, st, μ, o, he, hs, hm, hq⟩ => by
    unfold sFor at hm
    split at hm
    · rename_i sr ds st1 h1
      refine ⟨e, st, μ, sr, ds, st1, he, hs, h1, fun H1 μ1 J x1 hs1 it => ?_⟩
      have hq' : Fin X.K H μ { D with bk := fun _ _ => False, ct := fun _ _ => False } o := by
        rcases forD_out ds e st1 o hm with ⟨e1, st2, rfl⟩ | ⟨d, e1, st2, rfl⟩
        · exact hq
        · exact hq
      refine ⟨fun i k σ H2 => k = ds.length - i ∧ i ≤ ds.length ∧ ∃ e2 st2 μ2, Ext H1 μ1 H2 μ2 ∧ RE X.K H2 μ2 e2 σ ∧ RS X.K H2 μ2 st2 ∧ forD sr ds g m (ds.drop i) e2 st2 = some o ∧ Fin X.K H2 μ2 { D with bk := fun _ _ => False, ct := fun _ _ => False } o,
        ⟨ds.length, by simp, Nat.zero_le _, e, st1, μ1, Ext.refl, he.ext x1, hs1, by simpa using hm, hq'.ext x1⟩, ?_⟩
      rintro i k σ2 H2 ⟨rfl, hle, e2, st2, μ2, x2, he2, hs2, hm2, hq2⟩
      by_cases hlt : i < ds.length
      · have ed : ds.drop i = ds[i] :: ds.drop (i + 1) := List.drop_eq_getElem_cons hlt
        rw [ed] at hm2
        unfold forD at hm2
        split at hm2
        · rename_i hst
          split at hm2
          · rename_i e3 st3 h3
            obtain ⟨i1, _⟩ := it.2 H2 μ2 st2 i x2.two hs2 hst
            obtain ⟨hgo, hy⟩ := i1 ds[i] (List.getElem?_eq_getElem hlt)
            refine .inr ⟨hgo, fun σ' H' => ∃ e4 st4 μ4, Ext H1 μ1 H' μ4 ∧ RE X.K H' μ4 e4 σ' ∧ RS X.K H' μ4 st4 ∧ forD sr ds g m (ds.drop (i + 1)) e4 st4 = some o ∧ Fin X.K H' μ4 { D with bk := fun _ _ => False, ct := fun _ _ => False } o, fun σ' H' n => ⟨ds.length - (i + 1), by omega, rfl, hlt, n⟩, fun x H' yx => ?_⟩
            obtain ⟨x3, hs3, rx⟩ := hy x H' yx
            refine ⟨e2, st2, μ2, ds[i], e3, st3, he2.ext x3, hs3, rx, h3, fun σ4 H4 μ4 x4 he4 hs4 => ?_⟩
            have x24 := x3.trans x4
            split at hm2
            · rename_i e5 st5 h5
              exact ⟨e3, st3, μ4, _, he4, hs4, h5, fun σ6 H6 μ6 x6 he6 hs6 => ⟨e5, st5, μ6, x2.trans (x24.trans x6), he6, hs6, hm2, hq2.ext (x24.trans x6)⟩⟩
            · rename_i e5 st5 h5
              exact ⟨e3, st3, μ4, _, he4, hs4, h5, fun σ6 H6 μ6 x6 he6 hs6 => ⟨e5, st5, μ6, x2.trans (x24.trans x6), he6, hs6, hm2, hq2.ext (x24.trans x6)⟩⟩
            · rename_i e5 st5 h5
              cases hm2
              exact ⟨e3, st3, μ4, _, he4, hs4, h5, fun σ6 H6 μ6 x6 he6 hs6 => hq2 σ6 H6 μ6 (x24.trans x6) he6 hs6⟩
            · rename_i n1 n2 n3
              refine ⟨e3, st3, μ4, o, he4, hs4, hm2, ?_⟩
              obtain ⟨f, e6, st6⟩ := o
              cases f with
              | nx => exact absurd hm2 (n1 _ _)
              | ct => exact absurd hm2 (n2 _ _)
              | bk => exact absurd hm2 (n3 _ _)
              | rt d => exact fun v H6 μ6 x6 => hq2 v H6 μ6 (x24.trans x6)
          · cases hm2
        · cases hm2
      · have ei : i = ds.length := by omega
        subst ei
        rw [List.drop_length] at hm2
        unfold forD at hm2
        split at hm2
        · rename_i hst
          cases hm2
          obtain ⟨_, i2⟩ := it.2 H2 μ2 st2 ds.length x2.two hs2 hst
          exact .inl ⟨i2 (Nat.le_refl _), hq2 σ2 H2 μ2 Ext.refl he2 hs2⟩
        · cases hm2
    · cases hm

/-! ### list comprehensions -/
/-- a comprehension's target: a name, or several -/
inductive CT where
  | nm (i : Nat) | tp (is : List Nat)
def setAll : List Nat → List DV → Env → Option Env
  | [], [], e => some e
  | i :: is, d :: ds, e => setAll is ds (e.set i (some d))
  | _, _, _ => none
def ctD : CT → DV → Env → Option Env
  | .nm i, d, e => some (e.set i (some d))
  | .tp is, .tup ds, e => setAll is ds e
  | .tp _, _, _ => none
def gNames : List Nat → TGs
  | [] => gNil
  | i :: is => gCons (gName i) (gNames is)
def cG (K : PySem.W.Frag) : CT → TG
  | .nm i => gName i
  | .tp is => gTup K is.length (gNames is)
def CT.ix : CT → List Nat
  | .nm i => [i]
  | .tp is => is
def wipeE (e : Env) : List Nat → Env
  | [] => e
  | v :: vs => (wipeE e vs).set v none
theorem RE.wipe {K : PySem.W.Frag} {H : Hp} {μ : List Addr} {e : Env} {σ : L2.St} (r : RE K H μ e σ) : ∀ vs, RE K H μ (wipeE e vs) (wipe σ vs)
  | [] => r
  | v :: vs => (RE.wipe r vs).unset v
theorem wipe_set {i : Nat} {v : Option V} : ∀ {vs : List Nat} {σ : L2.St}, i ∈ vs → wipe (σ.set i v) vs = wipe σ vs
  | [], _, h => by simp at h
  | w :: vs, σ, h => by
    show (wipe (σ.set i v) vs).set w none = (wipe σ vs).set w none
    by_cases hm : i ∈ vs
    · rw [wipe_set hm]
    · have ew : i = w := by
        rcases List.mem_cons.mp h with h | h
        · exact h
        · exact absurd h hm
      subst ew
      have : ∀ {vs : List Nat} {σ : L2.St}, i ∉ vs → wipe (σ.set i v) vs = (wipe σ vs).set i v := by
        intro vs
        induction vs with
        | nil => intro σ _; rfl
        | cons w vs ih =>
          intro σ hn
          show (wipe (σ.set i v) vs).set w none = ((wipe σ vs).set w none).set i v
          rw [ih (fun z => hn (List.mem_cons_of_mem _ z)), List.set_comm]
          exact fun z => hn (by rw [z]; exact List.mem_cons_self)
      rw [this hm, List.set_set]
theorem wipe_wipe (σ : L2.St) : ∀ (us vs : List Nat), (∀ i ∈ us, i ∈ vs) → wipe (wipe σ us) vs = wipe σ vs
  | [], vs, _ => rfl
  | u :: us, vs, h => by
    show wipe ((wipe σ us).set u none) vs = wipe σ vs
    rw [wipe_set (h u List.mem_cons_self), wipe_wipe σ us vs fun i hi => h i (List.mem_cons_of_mem _ hi)]
theorem names_ok {K : PySem.W.Frag} {H : Hp} {μ : List Addr} {vs : List Nat} {τ : L2.St} {Q : L2.St → Hp → Prop} : ∀ {is : List Nat} {ds : List DV} {xs : List V} {e e' : Env} {σ : L2.St}, (∀ i ∈ is, i ∈ vs) → RVs K H μ ds xs → setAll is ds e = some e' → RE K H μ e σ → wipe σ vs = τ →
    (∀ σ', RE K H μ e' σ' → wipe σ' vs = τ → Q σ' H) → gNames is xs σ H Q
  | [], [], _, e, e', σ, _, r, h, he, hw, q => by
    cases h
    cases r
    exact ⟨rfl, q σ he hw⟩
  | [], _ :: _, _, _, _, _, _, _, h, _, _, _ => by cases h
  | _ :: _, [], _, _, _, _, _, _, h, _, _, _ => by cases h
  | i :: is, d :: ds, _, e, e', σ, hi, .cons r rs, h, he, hw, q => by
    refine ⟨_, _, rfl, ?_⟩
    exact names_ok (fun j hj => hi j (List.mem_cons_of_mem _ hj)) rs h (he.set i r) (by rw [wipe_set (hi i List.mem_cons_self)]; exact hw) q
theorem setAll_len : ∀ {is : List Nat} {ds : List DV} {e e' : Env}, setAll is ds e = some e' → ds.length = is.length
  | [], [], _, _, _ => rfl
  | [], _ :: _, _, _, h => by cases h
  | _ :: _, [], _, _, h => by cases h
  | _ :: is, _ :: ds, _, _, h => by rw [List.length_cons, List.length_cons, setAll_len (is := is) h]
theorem ct_ok {K : PySem.W.Frag} {H : Hp} {μ : List Addr} {vs : List Nat} {τ : L2.St} {Q : L2.St → Hp → Prop} {t : CT} {d : DV} {x : V} {e e' : Env} {σ : L2.St} (hi : ∀ i ∈ t.ix, i ∈ vs) (r : RV K H μ d x) (h : ctD t d e = some e') (he : RE K H μ e σ) (hw : wipe σ vs = τ)
    (q : ∀ σ', RE K H μ e' σ' → wipe σ' vs = τ → Q σ' H) : cG K t x σ H Q := by
  cases t with
  | nm i =>
    cases h
    exact q _ (he.set i r) (by rw [wipe_set (hi i (by simp [CT.ix]))]; exact hw)
  | tp is =>
    cases d with
    | tup ds =>
      cases r with
      | tup sq z rs => exact ⟨_, _, rfl, sq, by rw [← rs.length]; exact setAll_len h, names_ok hi rs h he hw q⟩
    | _ => cases h
def DPt (X : Cx) (ifs : List Expr) (m : ME Bool) : Prop := PTs X ifs (tTD X.K m)
theorem dpt_nil : DPt X [] (ME.pure true) := ⟨fun pins s σ H Q I h => pts_nil.run pins s σ H Q I (by
  obtain ⟨e, st, μ, d, st', he, hs, hm, hq⟩ := h
  cases hm
  exact hq H μ Ext.refl hs)⟩
theorem dpt_one {mt : ME Bool} (h : DT X e mt) : DPt X [e] mt := pts_one h
open Classical in
noncomputable def lcD (s : Option Nat) (all : List DV) (vs : List Nat) (t : CT) (mt : ME Bool) (me : ME DV) (e : Env) : List DV → Sto → Option (List DV × Sto)
  | [], st => if stays s all st then some ([], st) else none
  | d :: r, st => if stays s all st then (match ctD t d (wipeE e vs) with
    | some e1 => (match mt e1 st with
      | some (true, st1) => (match me e1 st1 with
        | some (y, st2) => (match lcD s all vs t mt me e r st2 with
          | some (ys, st3) => some (y :: ys, st3)
          | none => none)
        | none => none)
      | some (false, st1) => lcD s all vs t mt me e r st1
      | none => none)
    | none => none) else none
noncomputable def mLc (mi : MI) (vs : List Nat) (t : CT) (mt : ME Bool) (me : ME DV) : ME (List DV) := fun e st => match mi e st with
  | some ((s, ds), st1) => lcD s ds vs t mt me e ds st1
  | none => none
theorem lcD_len {s : Option Nat} {all : List DV} {vs : List Nat} {t : CT} {mt : ME Bool} {me : ME DV} {e : Env} : ∀ (r : List DV) (st : Sto) (ys : List DV) (st' : Sto), lcD s all vs t mt me e r st = some (ys, st') → ys.length ≤ r.length
  | [], st, ys, st', h => by
    unfold lcD at h
    split at h
    · cases h; exact Nat.le_refl _
    · cases h
  | d :: r, st, ys, st', h => by
    unfold lcD at h
    split at h
    · split at h
      · split at h
        · split at h
          · split at h
            · rename_i h5
              cases h
              have := lcD_len r _ _ _ h5
              simp only [List.length_cons]; omega
            · cases h
          · cases h
        · have := lcD_len r _ _ _ h
          simp only [List.length_cons]; omega
        · cases h
      · cases h
    · cases h
theorem app_ext {H : Hp} {μ : List Addr} {D : Addr} {acc acc' : List V} (hD : H D = some (.lst acc)) (hn : D ∉ μ) : Ext H μ (upd H D (.lst acc')) μ → True := fun _ => trivial
/-- the list that is being made grows: it is no cell -/
theorem grow_ext {H0 H : Hp} {μ0 μ : List Addr} {D : Addr} {acc acc' : List V} (x : Ext H0 μ0 H μ) (h0 : H0 D = none) (hD : H D = some (.lst acc)) : Ext H0 μ0 (upd H D (.lst acc')) μ := by
  refine ⟨x.pre, fun a xs h => ?_, fun a o u h => ?_, fun a o ha h => ?_, fun a h => ?_⟩
  · rw [upd_ne (fun z : a = D => by rw [z, h0] at h; cases h)]; exact x.tup _ _ h
  · rw [upd_ne (fun z : a = D => by rw [z, h0] at h; cases h)]; exact x.frz _ _ _ h
  · rw [upd_ne (fun z : a = D => by rw [z, h0] at h; cases h)]; exact x.oth _ _ ha h
  · by_cases e : a = D
    · subst e; exact h0
    · rw [upd_ne e] at h; exact x.trk _ h
theorem grow_rv {K : PySem.W.Frag} {H : Hp} {μ : List Addr} {D : Addr} {acc acc' : List V} (hD : H D = some (.lst acc)) : (∀ {d : DV} {v : V}, RV K H μ d v → RV K (upd H D (.lst acc')) μ d v) ∧ ∀ {d : List DV} {v : List V}, RVs K H μ d v → RVs K (upd H D (.lst acc')) μ d v := by
  have sqt : ∀ {a : Addr} {xs : List V}, SqT K H a xs → SqT K (upd H D (.lst acc')) a xs := fun {a xs} h => by
    rcases h with (h | ⟨o, h⟩) | h
    · exact .inl (.inl (by rw [upd_ne (ne_of h hD (by intro z; cases z))]; exact h))
    · exact .inl (.inr ⟨o, by rw [upd_ne (ne_of h hD (by intro z; cases z))]; exact h⟩)
    · exact .inr h
  have sqr : ∀ {a : Addr} {xs : List V}, SqR K H a xs → SqR K (upd H D (.lst acc')) a xs := fun {a xs} h => by
    rcases h with ⟨o, h⟩ | h
    · exact .inl ⟨o, by rw [upd_ne (ne_of h hD (by intro z; cases z))]; exact h⟩
    · exact .inr h
  have one : ∀ {d : DV} {v : V}, RV K H μ d v → RV K (upd H D (.lst acc')) μ d v := fun {d v} r =>
    RV.rec (motive_1 := fun d v _ => RV K (upd H D (.lst acc')) μ d v) (motive_2 := fun d v _ => RVs K (upd H D (.lst acc')) μ d v) .non .bl .int .str (fun s z _ r => .tup (sqt s) z r) (fun h => .ref h) (fun s z _ r => .scr (sqr s) z r) .nil (fun _ _ a b => .cons a b) r
  refine ⟨one, fun {d v} r => ?_⟩
  exact RVs.rec (motive_1 := fun d v _ => RV K (upd H D (.lst acc')) μ d v) (motive_2 := fun d v _ => RVs K (upd H D (.lst acc')) μ d v) .non .bl .int .str (fun s z _ r => .tup (sqt s) z r) (fun h => .ref h) (fun s z _ r => .scr (sqr s) z r) .nil (fun _ _ a b => .cons a b) r
theorem grow_rk {K : PySem.W.Frag} {H : Hp} {μ : List Addr} {D : Addr} {acc acc' : List V} (hD : H D = some (.lst acc)) : ∀ {d : List (Key × DV)} {v : List (Key × V)}, RKs K H μ d v → RKs K (upd H D (.lst acc')) μ d v
  | _, _, .nil => .nil
  | _, _, .cons r s => .cons ((grow_rv hD).1 r) (grow_rk hD s)
theorem grow_rs {K : PySem.W.Frag} {H : Hp} {μ : List Addr} {st : Sto} {D : Addr} {acc acc' : List V} (hs : RS K H μ st) (hD : H D = some (.lst acc)) (hn : D ∉ μ) : RS K (upd H D (.lst acc')) μ st := ⟨hs.len, hs.nd, fun l a o h1 h2 => by
  have c := hs.cell l a o h1 h2
  have ne : a ≠ D := fun z => hn (by rw [← z]; exact List.mem_of_getElem? h1)
  cases c with
  | lst h z r => exact .lst (by rw [upd_ne ne]; exact h) z ((grow_rv hD).2 r)
  | dct h z r => exact .dct (by rw [upd_ne ne]; exact h) z (grow_rk hD r)
  | dcn h r q => exact .dcn (by rw [upd_ne ne]; exact h) (grow_rk hD r) ((grow_rv hD).1 q)⟩
theorem grow_re {K : PySem.W.Frag} {H : Hp} {μ : List Addr} {e : Env} {σ : L2.St} {D : Addr} {acc acc' : List V} (he : RE K H μ e σ) (hD : H D = some (.lst acc)) : RE K (upd H D (.lst acc')) μ e σ := ⟨he.len, fun i d h => by
  obtain ⟨v, h1, h2⟩ := he.val i d h
  exact ⟨v, h1, (grow_rv hD).1 h2⟩⟩
theorem lc_read {K : PySem.W.Frag} {mi : MI} {vs : List Nat} {t : CT} {mt : ME Bool} {me : ME DV} (hv : ∀ i ∈ t.ix, i ∈ vs) : ∀ σ H Q, tFD K (mLc mi vs t mt me) σ H Q → tLc (tID K mi) (cG K t) (tTD K mt) (tD K me) vs σ H Q := by
  intro σ H Q ⟨e, st, μ, ds', st', he, hs, hm, hq⟩
  unfold mLc at hm
  split at hm
  · rename_i sr ds st1 h1
    refine ⟨e, st, μ, sr, ds, st1, he, hs, h1, fun H1 μ1 J x1 hs1 it D hD => ?_⟩
    obtain ⟨n1, n2⟩ := fresh_new x1 hs1 hD
    have xD : Ext H1 μ1 (upd H1 D (.lst [])) μ1 := ext_new hD
    refine ⟨fun i k H2 => k = ds.length - i ∧ i ≤ ds.length ∧ ∃ st2 μ2 ys acc ads, Ext H1 μ1 H2 μ2 ∧ RS K H2 μ2 st2 ∧ lcD sr ds vs t mt me e (ds.drop i) st2 = some (ys, st') ∧ ds' = ads ++ ys ∧ H2 D = some (.lst acc) ∧ RVs K H2 μ2 ads acc ∧ acc.length ≤ i ∧ D ∉ μ2,
      ⟨ds.length, by simp, Nat.zero_le _, st1, μ1, ds', [], [], xD, hs1.new hD, by simpa using hm, rfl, upd_same, .nil, Nat.zero_le _, n2⟩, ?_⟩
    rintro i k H2 ⟨rfl, hle, st2, μ2, ys, acc, ads, x2, hs2, hm2, e2, hD2, ra, hl2, nD2⟩
    by_cases hlt : i < ds.length
    · have ed : ds.drop i = ds[i] :: ds.drop (i + 1) := List.drop_eq_getElem_cons hlt
      rw [ed] at hm2
      unfold lcD at hm2
      split at hm2
      · rename_i hst
        split at hm2
        · rename_i e1 he1
          obtain ⟨i1, _⟩ := it.2 H2 μ2 st2 i x2.two hs2 hst
          obtain ⟨hgo, hy⟩ := i1 ds[i] (List.getElem?_eq_getElem hlt)
          refine .inr ⟨hgo, fun H' => ∃ st2 μ2 ys acc ads, Ext H1 μ1 H' μ2 ∧ RS K H' μ2 st2 ∧ lcD sr ds vs t mt me e (ds.drop (i + 1)) st2 = some (ys, st') ∧ ds' = ads ++ ys ∧ H' D = some (.lst acc) ∧ RVs K H' μ2 ads acc ∧ acc.length ≤ i + 1 ∧ D ∉ μ2,
            fun H' n => ⟨ds.length - (i + 1), by omega, rfl, hlt, n⟩, fun x H' yx => ?_⟩
          obtain ⟨x3, hs3, rx⟩ := hy x H' yx
          have hE : RE K H' μ2 (wipeE e vs) (wipe σ vs) := (he.ext (x1.trans (x2.trans x3))).wipe _
          refine ct_ok hv rx he1 hE (wipe_wipe σ _ _ fun _ h => h) fun σ' hE' hw => ⟨hw, ?_⟩
          have hD3 : H' D = some (.lst acc) := x3.oth D _ nD2 hD2
          split at hm2
          · rename_i st3 h3
            split at hm2
            · rename_i y st4 h4
              split at hm2
              · rename_i ys' st5 h5
                cases hm2
                refine ⟨e1, st2, μ2, true, st3, hE', hs3, h3, fun H4 μ4 x4 hs4 => iteT ?_⟩
                refine ⟨e1, st3, μ4, y, st4, hE'.ext x4, hs4, h4, fun H5 μ5 yv x5 hs5 ry => ?_⟩
                have nD4 : D ∉ μ4 := fun z => by
                  obtain ⟨u, eu, hu⟩ := x4.pre
                  rw [eu] at z
                  rcases List.mem_append.mp z with z | z
                  · exact nD2 z
                  · rw [hu D z] at hD3; cases hD3
                have hD4 : H4 D = some (.lst acc) := x4.oth D _ nD2 hD3
                have nD5 : D ∉ μ5 := fun z => by
                  obtain ⟨u, eu, hu⟩ := x5.pre
                  rw [eu] at z
                  rcases List.mem_append.mp z with z | z
                  · exact nD4 z
                  · rw [hu D z] at hD4; cases hD4
                have hD5 : H5 D = some (.lst acc) := x5.oth D _ nD4 hD4
                refine ⟨acc, hD5, Nat.lt_of_lt_of_le (Nat.lt_of_le_of_lt hl2 hlt) it.1, ?_⟩
                have ra5 : RVs K H5 μ5 (ads ++ [y]) (acc ++ [yv]) := (((ra.ext x3).ext x4).ext x5).append (.cons ry .nil)
                have x25 := x2.trans (x3.trans (x4.trans x5))
                refine ⟨st4, μ5, ys', acc ++ [yv], ads ++ [y], ?_, grow_rs hs5 hD5 nD5, h5, by rw [e2]; simp, upd_same, (grow_rv hD5).2 ra5, by rw [List.length_append]; simp; exact hl2, nD5⟩
                exact grow_ext x25 hD hD5
              · cases hm2
            · cases hm2
          · rename_i st3 h3
            refine ⟨e1, st2, μ2, false, st3, hE', hs3, h3, fun H4 μ4 x4 hs4 => iteF ?_⟩
            have nD4 : D ∉ μ4 := fun z => by
              obtain ⟨u, eu, hu⟩ := x4.pre
              rw [eu] at z
              rcases List.mem_append.mp z with z | z
              · exact nD2 z
              · rw [hu D z] at hD3; cases hD3
            exact ⟨st3, μ4, ys, acc, ads, x2.trans (x3.trans x4), hs4, hm2, e2, x4.oth D _ nD2 hD3, (ra.ext x3).ext x4, Nat.le_succ_of_le hl2, nD4⟩
          · cases hm2
        · cases hm2
      · cases hm2
    · have ei : i = ds.length := by omega
      subst ei
      rw [List.drop_length] at hm2
      unfold lcD at hm2
      split at hm2
      · rename_i hst
        cases hm2
        obtain ⟨_, i2⟩ := it.2 H2 μ2 _ ds.length x2.two hs2 hst
        refine .inl ⟨i2 (Nat.le_refl _), hq H2 μ2 D acc (x1.trans x2) hs2 n1 nD2 hD2 (Nat.le_trans hl2 it.1) ?_⟩
        rw [e2, List.append_nil]
        exact ra
      · cases hm2
  · cases hm
theorem df_lc {elt iter : Expr} {ifs : List Expr} {scope : Scope} {own : List (Str × Nat)} {mi : MI} {t : CT} {mt : ME Bool} {me : ME DV} (hc : X.calm = true) (hN : X.N.Nodup) (hi : DI X tg iter mi) (ok : BlkOk X.N X.env.scope scope own) (hv : ∀ i ∈ t.ix, i ∈ own.map (·.2))
    (hg : ∀ (s : Shared) (H : Hp) (C : Addr) (cl : List (Str × Addr)) (fp : List Addr), PG (X.blk s H scope (compEnvC scope cl C X.env) fp) tg (cG X.K t)) (ht : ∀ (s : Shared) (H : Hp) (C : Addr) (cl : List (Str × Addr)) (fp : List Addr), DPt (X.blk s H scope (compEnvC scope cl C X.env) fp) ifs mt)
    (he : ∀ (s : Shared) (H : Hp) (C : Addr) (cl : List (Str × Addr)) (fp : List Addr), DE (X.blk s H scope (compEnvC scope cl C X.env) fp) elt me) (hs : ∀ x, foldedSetIterable iter X.env x = pure x := by intro _; rfl) :
    DF X (.ListComp elt [⟨tg, iter, ifs, 0⟩] scope pos) (mLc mi (own.map (·.2)) t mt me) :=
  pe_imp (pe_lc (tt := tTD X.K mt) (te := tD X.K me) hc hN hi ok hg ht he hs) (lc_read hv)
theorem ds_setLc {elt iter : Expr} {ifs : List Expr} {scope : Scope} {own : List (Str × Nat)} {mi : MI} {t : CT} {mt : ME Bool} {me : ME DV} {i : Nat} {y : Str} {py : Pos} (hc : X.calm = true) (hN : X.N.Nodup) (hi : DI X tg iter mi) (ok : BlkOk X.N X.env.scope scope own) (hv : ∀ i ∈ t.ix, i ∈ own.map (·.2))
    (hg : ∀ (s : Shared) (H : Hp) (C : Addr) (cl : List (Str × Addr)) (fp : List Addr), PG (X.blk s H scope (compEnvC scope cl C X.env) fp) tg (cG X.K t)) (ht : ∀ (s : Shared) (H : Hp) (C : Addr) (cl : List (Str × Addr)) (fp : List Addr), DPt (X.blk s H scope (compEnvC scope cl C X.env) fp) ifs mt)
    (he : ∀ (s : Shared) (H : Hp) (C : Addr) (cl : List (Str × Addr)) (fp : List Addr), DE (X.blk s H scope (compEnvC scope cl C X.env) fp) elt me)
    (hsw : swapsWith (.ListComp elt [⟨tg, iter, ifs, 0⟩] scope p) (some (.Name y py)) pos.line X.env = pure true) (hy : X.N[i]? = some y := by rfl) (hyl : X.env.scope.names.lookup y = some .local := by rfl) (hs : ∀ x, foldedSetIterable iter X.env x = pure x := by intro _; rfl) :
    DS X (.Assign [.Name y py] (.ListComp elt [⟨tg, iter, ifs, 0⟩] scope p) pos) (sSet i (mNew (mLc mi (own.map (·.2)) t mt me))) :=
  ps_imp (ps_setLc (tt := tTD X.K mt) (te := tD X.K me) hc hN hy hyl hsw hi ok hg ht he hs) (set_read fun σ H Q h => lc_read hv σ H Q (new_read σ H Q h))
end
end DL

/-! DL8: comprehensions with two fors; methods; calls of defs; bodies. -/
namespace DL
open PySem PySem.Spec PyProof.Rows L2

open Classical in
noncomputable def lc2D (s : Option Nat) (all : List DV) (vs : List Nat) (t : CT) (mt : ME Bool) (mi1 : MI) (vs1 : List Nat) (t1 : CT) (mt1 : ME Bool) (me : ME DV) (e : Env) : List DV → Sto → Option (List DV × Sto)
  | [], st => if stays s all st then some ([], st) else none
  | d :: r, st => if stays s all st then (match ctD t d (wipeE e vs) with
    | some e1 => (match mt e1 st with
      | some (true, st1) => (match mi1 e1 st1 with
        | some ((s1, ds1), st2) => (match lcD s1 ds1 vs1 t1 mt1 me e1 ds1 st2 with
          | some (ys, st3) => (match lc2D s all vs t mt mi1 vs1 t1 mt1 me e r st3 with
            | some (zs, st4) => some (ys ++ zs, st4)
            | none => none)
          | none => none)
        | none => none)
      | some (false, st1) => lc2D s all vs t mt mi1 vs1 t1 mt1 me e r st1
      | none => none)
    | none => none) else none
noncomputable def mLc2 (mi : MI) (vs : List Nat) (t : CT) (mt : ME Bool) (mi1 : MI) (vs1 : List Nat) (t1 : CT) (mt1 : ME Bool) (me : ME DV) : ME (List DV) := fun e st => match mi e st with
  | some ((s, ds), st1) => match lc2D s ds vs t mt mi1 vs1 t1 mt1 me e ds st1 with
    | some (ys, st2) => if ys.length ≤ LIM then some (ys, st2) else none
    | none => none
  | none => none
theorem keep_D {H H' : Hp} {μ μ' : List Addr} {D : Addr} {acc : List V} (x : Ext H μ H' μ') (hD : H D = some (.lst acc)) (hn : D ∉ μ) : H' D = some (.lst acc) ∧ D ∉ μ' := by
  refine ⟨x.oth D _ hn hD, fun z => ?_⟩
  obtain ⟨u, eu, hu⟩ := x.pre
  rw [eu] at z
  rcases List.mem_append.mp z with z | z
  · exact hn z
  · rw [hu D z] at hD; cases hD
theorem Ext2.tr {Hs H H1 H2 : Hp} {μ μ1 μ2 : List Addr} (y : Ext2 Hs H μ H1 μ1) (x : Ext H1 μ1 H2 μ2) : Ext2 Hs H μ H2 μ2 := by
  obtain ⟨t, rfl, ht⟩ := y.pre
  obtain ⟨u, rfl, hu⟩ := x.pre
  refine ⟨⟨t ++ u, by simp, fun a h => ?_⟩, fun a xs h => x.tup _ _ (y.tup _ _ h), fun a o w h => x.frz _ _ _ (y.frz _ _ _ h), fun a o h0 h1 h2 => x.oth a o (fun z => ?_) (y.oth a o h0 h1 h2), fun a h => y.trk a (x.trk a h)⟩
  · rcases List.mem_append.mp h with h | h
    · exact ht a h
    · exact y.trk a (hu a h)
  · rcases List.mem_append.mp z with z | z
    · exact h1 z
    · rw [ht a z] at h2; cases h2
section
variable {X : Cx} {a b c e o tg tg1 : Expr} {es : List Expr} {ma mb mc : ME DV} {mq : ME (List DV)} {pos p apos : Pos} {s : Stmt} {ss : List Stmt} {m n : MS}
theorem lc2_read {K : PySem.W.Frag} {mi mi1 : MI} {vs vs1 : List Nat} {t t1 : CT} {mt mt1 : ME Bool} {me : ME DV} (hv : ∀ i ∈ t.ix, i ∈ vs) (hv1 : ∀ i ∈ t1.ix, i ∈ vs1) : ∀ σ H Q, tFD K (mLc2 mi vs t mt mi1 vs1 t1 mt1 me) σ H Q →
    tLc2 (tID K mi) (cG K t) (tTD K mt) (tID K mi1) (cG K t1) (tTD K mt1) (tD K me) vs vs1 σ H Q := by
  intro σ H Q ⟨e, st, μ, ds', st', he, hs, hm, hq⟩
  unfold mLc2 at hm
  split at hm
  case h_2 => cases hm
  rename_i sr ds st1 h1
  split at hm
  case h_2 => cases hm
  rename_i ys0 st0 hm0
  split at hm
  case isFalse => cases hm
  rename_i hlim
  cases hm
  have hm := hm0
  refine ⟨e, st, μ, sr, ds, st1, he, hs, h1, fun H1 μ1 J x1 hs1 it D hD => ?_⟩
  obtain ⟨n1, n2⟩ := fresh_new x1 hs1 hD
  have xD : Ext H1 μ1 (upd H1 D (.lst [])) μ1 := ext_new hD
  refine ⟨fun i k H2 => k = ds.length - i ∧ i ≤ ds.length ∧ ∃ st2 μ2 ys acc ads, Ext H1 μ1 H2 μ2 ∧ RS K H2 μ2 st2 ∧ lc2D sr ds vs t mt mi1 vs1 t1 mt1 me e (ds.drop i) st2 = some (ys, st') ∧ ds' = ads ++ ys ∧ H2 D = some (.lst acc) ∧ RVs K H2 μ2 ads acc ∧ D ∉ μ2,
    ⟨ds.length, by simp, Nat.zero_le _, st1, μ1, ds', [], [], xD, hs1.new hD, by simpa using hm, rfl, upd_same, .nil, n2⟩, ?_⟩
  rintro i k H2 ⟨rfl, hle, st2, μ2, ys, acc, ads, x2, hs2, hm2, e2, hD2, ra, nD2⟩
  by_cases hlt : i < ds.length
  · have ed : ds.drop i = ds[i] :: ds.drop (i + 1) := List.drop_eq_getElem_cons hlt
    rw [ed] at hm2
    unfold lc2D at hm2
    split at hm2
    case isFalse => cases hm2
    rename_i hst
    split at hm2
    case h_2 => cases hm2
    rename_i e1 he1
    obtain ⟨i1, _⟩ := it.2 H2 μ2 st2 i x2.two hs2 hst
    obtain ⟨hgo, hy⟩ := i1 ds[i] (List.getElem?_eq_getElem hlt)
    refine .inr ⟨hgo, fun H' => ∃ st2 μ2 ys acc ads, Ext H1 μ1 H' μ2 ∧ RS K H' μ2 st2 ∧ lc2D sr ds vs t mt mi1 vs1 t1 mt1 me e (ds.drop (i + 1)) st2 = some (ys, st') ∧ ds' = ads ++ ys ∧ H' D = some (.lst acc) ∧ RVs K H' μ2 ads acc ∧ D ∉ μ2,
      fun H' n => ⟨ds.length - (i + 1), by omega, rfl, hlt, n⟩, fun x H' yx => ?_⟩
    obtain ⟨x3, hs3, rx⟩ := hy x H' yx
    have hE : RE K H' μ2 (wipeE e vs) (wipe σ vs) := (he.ext (x1.trans (x2.trans x3))).wipe _
    refine ct_ok hv rx he1 hE (wipe_wipe σ _ _ fun _ h => h) fun σ' hE' hw => ⟨hw, ?_⟩
    have hD3 : H' D = some (.lst acc) := x3.oth D _ nD2 hD2
    split at hm2
    · rename_i st3 h3
      split at hm2
      case h_2 => cases hm2
      rename_i s4 ds4 st4 h4
      split at hm2
      case h_2 => cases hm2
      rename_i ys5 st5 h5
      split at hm2
      case h_2 => cases hm2
      rename_i zs6 st6 h6
      cases hm2
      refine ⟨e1, st2, μ2, true, st3, hE', hs3, h3, fun H4 μ4 x4 hs4 => iteT ?_⟩
      obtain ⟨hD4, nD4⟩ := keep_D x4 hD3 nD2
      have x24 := x2.trans (x3.trans x4)
      refine ⟨e1, st3, μ4, s4, ds4, st4, hE'.ext x4, hs4, h4, fun H5 μ5 J1 x5 hs5 it1 => ?_⟩
      obtain ⟨hD5, nD5⟩ := keep_D x5 hD4 nD4
      refine ⟨fun j k H6 => k = ds4.length - j ∧ j ≤ ds4.length ∧ ∃ st6 μ6 ys6 acc6 ads6, Ext H1 μ1 H6 μ6 ∧ Ext2 H4 H5 μ5 H6 μ6 ∧ RS K H6 μ6 st6 ∧ RE K H6 μ6 e1 σ' ∧ lcD s4 ds4 vs1 t1 mt1 me e1 (ds4.drop j) st6 = some (ys6, st5) ∧ ds' = ads6 ++ (ys6 ++ zs6) ∧ H6 D = some (.lst acc6) ∧ RVs K H6 μ6 ads6 acc6 ∧ D ∉ μ6,
        ⟨ds4.length, by simp, Nat.zero_le _, st4, μ5, ys5, acc, ads, x24.trans x5, Ext.refl.two, hs5, (hE'.ext x4).ext x5, by simpa using h5, e2, hD5, ((ra.ext x3).ext x4).ext x5, nD5⟩, ?_⟩
      rintro j k H6 ⟨rfl, hlej, st6', μ6, ys6, acc6, ads6, x6, x56, hs6, hE6, hm6, e6, hD6, ra6, nD6⟩
      by_cases hltj : j < ds4.length
      · have edj : ds4.drop j = ds4[j] :: ds4.drop (j + 1) := List.drop_eq_getElem_cons hltj
        rw [edj] at hm6
        unfold lcD at hm6
        split at hm6
        case isFalse => cases hm6
        rename_i hst6
        split at hm6
        case h_2 => cases hm6
        rename_i e7 he7
        obtain ⟨j1, _⟩ := it1.2 H6 μ6 st6' j x56 hs6 hst6
        obtain ⟨hgo1, hy1⟩ := j1 ds4[j] (List.getElem?_eq_getElem hltj)
        refine .inr ⟨hgo1, fun H' => ∃ st6 μ6 ys6 acc6 ads6, Ext H1 μ1 H' μ6 ∧ Ext2 H4 H5 μ5 H' μ6 ∧ RS K H' μ6 st6 ∧ RE K H' μ6 e1 σ' ∧ lcD s4 ds4 vs1 t1 mt1 me e1 (ds4.drop (j + 1)) st6 = some (ys6, st5) ∧ ds' = ads6 ++ (ys6 ++ zs6) ∧ H' D = some (.lst acc6) ∧ RVs K H' μ6 ads6 acc6 ∧ D ∉ μ6,
          fun H' n => ⟨ds4.length - (j + 1), by omega, rfl, hltj, n⟩, fun x7 H7 yx7 => ?_⟩
        obtain ⟨x8, hs8, rx8⟩ := hy1 x7 H7 yx7
        have hE8 : RE K H7 μ6 (wipeE e1 vs1) (wipe σ' vs1) := (hE6.ext x8).wipe _
        refine ct_ok hv1 rx8 he7 hE8 (wipe_wipe σ' _ _ fun _ h => h) fun σ9 hE9 hw9 => ⟨hw9, ?_⟩
        obtain ⟨hD7, _⟩ := keep_D x8 hD6 nD6
        split at hm6
        · rename_i st9 h9
          split at hm6
          case h_2 => cases hm6
          rename_i y10 st10 h10
          split at hm6
          case h_2 => cases hm6
          rename_i ys11 st11 h11
          cases hm6
          refine ⟨e7, st6', μ6, true, st9, hE9, hs8, h9, fun H10 μ10 x10 hs10 => iteT ?_⟩
          obtain ⟨hD10, nD10⟩ := keep_D x10 hD7 nD6
          refine ⟨e7, st9, μ10, y10, st10, hE9.ext x10, hs10, h10, fun H11 μ11 yv x11 hs11 ry => ?_⟩
          obtain ⟨hD11, nD11⟩ := keep_D x11 hD10 nD10
          have ra11 : RVs K H11 μ11 (ads6 ++ [y10]) (acc6 ++ [yv]) := (((ra6.ext x8).ext x10).ext x11).append (.cons ry .nil)
          have hl6 : acc6.length < sizeLine := by
            have h12 := ra6.length
            have h13 : ds'.length = ads6.length + (ys11.length + 1 + zs6.length) := by rw [e6]; simp <;> omega
            refine lim_lt ?_
            have : ds'.length ≤ LIM := hlim
            omega
          have x811 := x8.trans (x10.trans x11)
          refine ⟨acc6, hD11, hl6, st10, μ11, ys11, acc6 ++ [yv], ads6 ++ [y10], grow_ext (x6.trans x811) hD hD11, ?_, grow_rs hs11 hD11 nD11, grow_re (hE6.ext x811) hD11, h11, by rw [e6]; simp [Nat.add_assoc], upd_same, (grow_rv hD11).2 ra11, nD11⟩
          · have y := x56.tr x811
            refine ⟨y.pre, fun a xs h => ?_, fun a o u h => ?_, fun a o h0 ha h => ?_, fun a h => ?_⟩
            · rw [upd_ne (ne_of h hD5 (by intro z; cases z))]; exact y.tup _ _ h
            · rw [upd_ne (ne_of h hD5 (by intro z; cases z))]; exact y.frz _ _ _ h
            · rw [upd_ne (fun z : a = D => by rw [z, hD4] at h0; cases h0)]; exact y.oth _ _ h0 ha h
            · by_cases ea : a = D
              · subst ea; rw [upd_same] at h; cases h
              · rw [upd_ne ea] at h; exact y.trk _ h
        · rename_i st9 h9
          refine ⟨e7, st6', μ6, false, st9, hE9, hs8, h9, fun H10 μ10 x10 hs10 => iteF ?_⟩
          obtain ⟨hD10, nD10⟩ := keep_D x10 hD7 nD6
          have x810 := x8.trans x10
          exact ⟨st9, μ10, ys6, acc6, ads6, x6.trans x810, x56.tr x810, hs10, hE6.ext x810, hm6, e6, hD10, (ra6.ext x8).ext x10, nD10⟩
        · cases hm6
      · have ej : j = ds4.length := by omega
        subst ej
        rw [List.drop_length] at hm6
        unfold lcD at hm6
        split at hm6
        case isFalse => cases hm6
        rename_i hst6
        cases hm6
        obtain ⟨_, j2⟩ := it1.2 H6 μ6 _ ds4.length x56 hs6 hst6
        exact .inl ⟨j2 (Nat.le_refl _), _, μ6, zs6, acc6, ads6, x6, hs6, h6, by rw [e6]; simp, hD6, ra6, nD6⟩
    · rename_i st3 h3
      refine ⟨e1, st2, μ2, false, st3, hE', hs3, h3, fun H4 μ4 x4 hs4 => iteF ?_⟩
      obtain ⟨hD4, nD4⟩ := keep_D x4 hD3 nD2
      exact ⟨st3, μ4, ys, acc, ads, x2.trans (x3.trans x4), hs4, hm2, e2, hD4, (ra.ext x3).ext x4, nD4⟩
    · cases hm2
  · have ei : i = ds.length := by omega
    subst ei
    rw [List.drop_length] at hm2
    unfold lc2D at hm2
    split at hm2
    case isFalse => cases hm2
    rename_i hst
    cases hm2
    obtain ⟨_, i2⟩ := it.2 H2 μ2 _ ds.length x2.two hs2 hst
    have hz : acc.length ≤ sizeLine := by
      rw [← ra.length]
      have : ds'.length ≤ LIM := hlim
      rw [e2] at this
      simp at this
      exact lim_ok this
    refine .inl ⟨i2 (Nat.le_refl _), hq H2 μ2 D acc (x1.trans x2) hs2 n1 nD2 hD2 hz ?_⟩
    rw [e2, List.append_nil]
    exact ra
theorem df_lc2 {elt iter iter1 : Expr} {ifs ifs1 : List Expr} {scope : Scope} {own : List (Str × Nat)} {mi mi1 : MI} {t t1 : CT} {mt mt1 : ME Bool} {me : ME DV} (vs1 : List Nat) (hc : X.calm = true) (hN : X.N.Nodup) (hi : DI X tg iter mi) (ok : BlkOk X.N X.env.scope scope own) (hv : ∀ i ∈ t.ix, i ∈ own.map (·.2)) (hv1 : ∀ i ∈ t1.ix, i ∈ vs1) (hvv : ∀ i ∈ vs1, i ∈ own.map (·.2))
    (hg : ∀ (s : Shared) (H : Hp) (C : Addr) (cl : List (Str × Addr)) (fp : List Addr), PG (X.blk s H scope (compEnvC scope cl C X.env) fp) tg (cG X.K t)) (ht : ∀ (s : Shared) (H : Hp) (C : Addr) (cl : List (Str × Addr)) (fp : List Addr), DPt (X.blk s H scope (compEnvC scope cl C X.env) fp) ifs mt)
    (hi1 : ∀ (s : Shared) (H : Hp) (C : Addr) (cl : List (Str × Addr)) (fp : List Addr), DI (X.blk s H scope (compEnvC scope cl C X.env) fp) tg1 iter1 mi1)
    (hg1 : ∀ (s : Shared) (H : Hp) (C : Addr) (cl : List (Str × Addr)) (fp : List Addr), PG (X.blk s H scope (compEnvC scope cl C X.env) fp) tg1 (cG X.K t1)) (ht1 : ∀ (s : Shared) (H : Hp) (C : Addr) (cl : List (Str × Addr)) (fp : List Addr), DPt (X.blk s H scope (compEnvC scope cl C X.env) fp) ifs1 mt1)
    (he : ∀ (s : Shared) (H : Hp) (C : Addr) (cl : List (Str × Addr)) (fp : List Addr), DE (X.blk s H scope (compEnvC scope cl C X.env) fp) elt me) (hs : ∀ x, foldedSetIterable iter X.env x = pure x := by intro _; rfl) (hs1 : ∀ env x, foldedSetIterable iter1 env x = pure x := by intro _ _; rfl) :
    DF X (.ListComp elt [⟨tg, iter, ifs, 0⟩, ⟨tg1, iter1, ifs1, 0⟩] scope pos) (mLc2 mi (own.map (·.2)) t mt mi1 vs1 t1 mt1 me) :=
  pe_imp (pe_lc2 (tt := tTD X.K mt) (wi1 := tID X.K mi1) (tt1 := tTD X.K mt1) (te := tD X.K me) hc hN hi ok hvv hg ht hi1 hg1 ht1 he hs hs1) (lc2_read hv hv1)
theorem ds_setLc2 {elt iter iter1 : Expr} {ifs ifs1 : List Expr} {scope : Scope} {own : List (Str × Nat)} {mi mi1 : MI} {t t1 : CT} {mt mt1 : ME Bool} {me : ME DV} {i : Nat} {y : Str} {py : Pos} (vs1 : List Nat) (hc : X.calm = true) (hN : X.N.Nodup) (hi : DI X tg iter mi) (ok : BlkOk X.N X.env.scope scope own) (hv : ∀ i ∈ t.ix, i ∈ own.map (·.2)) (hv1 : ∀ i ∈ t1.ix, i ∈ vs1) (hvv : ∀ i ∈ vs1, i ∈ own.map (·.2))
    (hg : ∀ (s : Shared) (H : Hp) (C : Addr) (cl : List (Str × Addr)) (fp : List Addr), PG (X.blk s H scope (compEnvC scope cl C X.env) fp) tg (cG X.K t)) (ht : ∀ (s : Shared) (H : Hp) (C : Addr) (cl : List (Str × Addr)) (fp : List Addr), DPt (X.blk s H scope (compEnvC scope cl C X.env) fp) ifs mt)
    (hi1 : ∀ (s : Shared) (H : Hp) (C : Addr) (cl : List (Str × Addr)) (fp : List Addr), DI (X.blk s H scope (compEnvC scope cl C X.env) fp) tg1 iter1 mi1)
    (hg1 : ∀ (s : Shared) (H : Hp) (C : Addr) (cl : List (Str × Addr)) (fp : List Addr), PG (X.blk s H scope (compEnvC scope cl C X.env) fp) tg1 (cG X.K t1)) (ht1 : ∀ (s : Shared) (H : Hp) (C : Addr) (cl : List (Str × Addr)) (fp : List Addr), DPt (X.blk s H scope (compEnvC scope cl C X.env) fp) ifs1 mt1)
    (he : ∀ (s : Shared) (H : Hp) (C : Addr) (cl : List (Str × Addr)) (fp : List Addr), DE (X.blk s H scope (compEnvC scope cl C X.env) fp) elt me)
    (hsw : swapsWith (.ListComp elt [⟨tg, iter, ifs, 0⟩, ⟨tg1, iter1, ifs1, 0⟩] scope p) (some (.Name y py)) pos.line X.env = pure true) (hy : X.N[i]? = some y := by rfl) (hyl : X.env.scope.names.lookup y = some .local := by rfl) (hs : ∀ x, foldedSetIterable iter X.env x = pure x := by intro _; rfl) (hs1 : ∀ env x, foldedSetIterable iter1 env x = pure x := by intro _ _; rfl) :
    DS X (.Assign [.Name y py] (.ListComp elt [⟨tg, iter, ifs, 0⟩, ⟨tg1, iter1, ifs1, 0⟩] scope p) pos) (sSet i (mNew (mLc2 mi (own.map (·.2)) t mt mi1 vs1 t1 mt1 me))) :=
  ps_imp (ps_setLc2 (tt := tTD X.K mt) (wi1 := tID X.K mi1) (tt1 := tTD X.K mt1) (te := tD X.K me) hc hN hy hyl hsw hi ok hvv hg ht hi1 hg1 ht1 he hs hs1) (set_read fun σ H Q h => lc2_read hv hv1 σ H Q (new_read σ H Q h))

/-! ### methods of lists -/
def mApp (mo me : ME DV) : ME DV := ME.bind mo fun x => fun e st => match itemsOf st x with
  | some _ => (ME.bind me fun y => fun _ st1 => match x with
    | .ref l => match st1[l]? with
      | some (.lst ds) => if ds.length < LIM then some (.non, st1.set l (.lst (ds ++ [y]))) else none
      | _ => none
    | _ => none) e st
  | none => none
theorem bm_ty {K : PySem.W.Frag} {H : Hp} {a : Addr} {vs : List V} (h : H a = some (.lst vs)) : tyV K "list" (.ref a) H := Or.inl ⟨rfl, _, Or.inl (Or.inl h)⟩
theorem de_app (ho : DE X o ma) (he : DE X e mb) (hbase : attributeBase o "append" X.env (eval o X.env) = eval o X.env := by rfl)
    (hfew : ((backTo pos (starEach (e :: []) X.env)).all (fun x => !x.1) && (backToKw pos (keywordEach [] X.env)).all (fun x => x.1.isSome) && decide ((e :: []).length + ([] : List Keyword).length + (if ([] : List Keyword).isEmpty then 0 else 1) < 30)) = true := by rfl)
    (hline : (apos.endLine == pos.line) = true := by rfl) (hs : starEach (e :: []) X.env = (false, eval e X.env) :: starEach [] X.env := by rfl) (hplain : (backTo pos (starEach [] X.env)).any (·.1) = false := by rfl) : DE X (.Call (.Attribute o "append" apos) [e] [] pos) (mApp ma mb) := by
  refine pe_imp (pe_bm PySem.F.plainAttrs_list PySem.F.slot_list_append PySem.F.type_list_append mt_append ho (pa_cons he pa_nil hs) hbase hfew hline hs hplain) fun σ H Q ⟨e, st, μ, d, st', he, hs, hm, hq⟩ => ?_
  obtain ⟨x, st1, h1, hm⟩ := bind_some hm
  split at hm
  case h_2 => cases hm
  rename_i ds0 e0
  obtain ⟨y, st2, h2, hm⟩ := bind_some hm
  split at hm
  case h_2 => cases hm
  rename_i l _
  split at hm
  case h_2 => cases hm
  rename_i ds e1
  split at hm
  case isFalse => cases hm
  rename_i hz
  cases hm
  refine ⟨e, st, μ, _, st1, he, hs, h1, fun H1 μ1 v x1 hs1 rv => ?_⟩
  cases rv with
  | @ref _ ad hl =>
    obtain ⟨vs0, h0, _, _⟩ := lst_read hs1 e0 hl
    refine ⟨bm_ty h0, e, st1, μ1, y, st2, he.ext x1, hs1, h2, fun H2 μ2 w x2 hs2 rw' => ?_⟩
    have c := hs2.cell l ad _ (x2.at hl) e1
    cases c with
    | @lst _ vs _ h z rs =>
      have n1 : ∀ xs, HO.lst vs ≠ .tup xs := fun xs q => by cases q
      have n2 : ∀ ob w, HO.lst vs ≠ .frz ob w := fun ob w q => by cases q
      have x3 : Ext H2 μ2 (upd H2 ad (.lst (vs ++ [w]))) μ2 := ext_write h (List.mem_of_getElem? (x2.at hl)) n1 n2
      have hz' : vs.length < sizeLine := by rw [← rs.length]; exact lim_lt hz
      refine ⟨ad, vs, w, rfl, rfl, h, hz', hq _ μ2 .non (x1.trans (x2.trans x3)) (hs2.write (x2.at hl) h n1 n2 (.lst upd_same (by rw [List.length_append]; exact hz') ((rs.ext x3).append (.cons (rw'.ext x3) .nil)))) .non⟩
/-- xs.count(k), ints; k an int or None -/
def cntD (y : DV) (ns : List Int) : Option Int := match y with
  | .int k => some (ns.count k : Nat)
  | .non => some 0
  | _ => none
def mCnt (mo me : ME DV) : ME DV := ME.bind mo fun x => fun e st => match itemsOf st x with
  | some _ => (ME.bind me fun y => fun _ st1 => match x with
    | .ref l => match st1[l]? with
      | some (.lst ds) => match toIs ds with
        | some ns => match cntD y ns with
          | some i => some (.int i, st1)
          | none => none
        | none => none
      | _ => none
    | _ => none) e st
  | none => none
def rCntN (K : PySem.W.Frag) : V → List V → Hp → VK → Prop := fun x xs H Q => ∃ (p : Addr) (ns : List Int), x = .ref p ∧ SqL K H p (ns.map V.int) ∧ ((∃ k, xs = [.int k] ∧ Q (.int (ns.count k : Nat)) H) ∨ (xs = [.non] ∧ Q (.int 0) H))
theorem mt_lcountN : MtR X "list.count" (rCntN X.K) := by
  intro pins s σ H x xs v us Q I rx rxs h
  obtain ⟨p, ns, rfl, hs, h⟩ := h
  rcases h with ⟨k, rfl, q⟩ | ⟨rfl, q⟩
  · exact mt_lcount pins s σ H _ _ v us Q I rx rxs ⟨p, ns, k, rfl, rfl, hs, q⟩
  · cases rx
    obtain ⟨u, rfl, ru⟩ := rxs.one
    obtain rfl : u = Value.none := ru
    obtain ⟨its, rv, ⟨⟨cls, dd, data, sl⟩, n, ho, hc, hdn, hd⟩, hlen⟩ := I.list hs
    simp only at hc hd
    subst hc hd
    have hi := ints_of_vals rv
    have he : ∀ {us : List Value} {ns : List Int}, IntsAre us ns → ∀ y ∈ us, ∃ j t, y = Value.int j t := by
      intro us ns hi
      induction hi with
      | nil => intro y hy; cases hy
      | cons n t _ ih =>
        intro y hy
        rcases List.mem_cons.mp hy with e | e
        · exact ⟨n, t, e⟩
        · exact ih y e
    refine call_meets PySem.F.slot_list_count ⟨_, ho, rfl⟩ PySem.F.entry_list_count (PySem.F.args_list_count_2 _ _)
      (SeqAt.list_countAt p its.toArray n dd sl .none (fun _ => false)) ⟨ho, fun y hy => ?_, ?_⟩
    · obtain ⟨j, t, rfl⟩ := he hi y (by simpa using hy)
      exact SeqAt.EqAt.int_none j t
    have ec : its.toArray.toList.countP (fun _ => false) = 0 := by simp
    refine ⟨.int 0, H, I.tok _, ⟨s.toks, ?_⟩, q⟩
    show Value.int ((its.toArray.toList.countP (fun _ => false) : Nat) : Int) s.toks = Value.int 0 s.toks
    rw [ec]
    rfl
theorem de_cnt (ho : DE X o ma) (he : DE X e mb) (hbase : attributeBase o "count" X.env (eval o X.env) = eval o X.env := by rfl)
    (hfew : ((backTo pos (starEach (e :: []) X.env)).all (fun x => !x.1) && (backToKw pos (keywordEach [] X.env)).all (fun x => x.1.isSome) && decide ((e :: []).length + ([] : List Keyword).length + (if ([] : List Keyword).isEmpty then 0 else 1) < 30)) = true := by rfl)
    (hline : (apos.endLine == pos.line) = true := by rfl) (hs : starEach (e :: []) X.env = (false, eval e X.env) :: starEach [] X.env := by rfl) (hplain : (backTo pos (starEach [] X.env)).any (·.1) = false := by rfl) : DE X (.Call (.Attribute o "count" apos) [e] [] pos) (mCnt ma mb) := by
  refine pe_imp (pe_bm PySem.F.plainAttrs_list PySem.F.slot_list_count PySem.F.type_list_count mt_lcountN ho (pa_cons he pa_nil hs) hbase hfew hline hs hplain) fun σ H Q ⟨e, st, μ, d, st', he, hs, hm, hq⟩ => ?_
  obtain ⟨x, st1, h1, hm⟩ := bind_some hm
  split at hm
  case h_2 => cases hm
  rename_i ds0 e0
  obtain ⟨y, st2, h2, hm⟩ := bind_some hm
  split at hm
  case h_2 => cases hm
  rename_i l _
  split at hm
  case h_2 => cases hm
  rename_i ds e1
  split at hm
  case h_2 => cases hm
  rename_i ns en
  split at hm
  case h_2 => cases hm
  rename_i i ei
  cases hm
  refine ⟨e, st, μ, _, st1, he, hs, h1, fun H1 μ1 v x1 hs1 rv => ?_⟩
  cases rv with
  | @ref _ ad hl =>
    obtain ⟨vs0, h0, _, _⟩ := lst_read hs1 e0 hl
    refine ⟨bm_ty h0, e, st1, μ1, _, _, he.ext x1, hs1, h2, fun H2 μ2 w x2 hs2 rw' => ?_⟩
    have c := hs2.cell l ad _ (x2.at hl) e1
    cases c with
    | @lst _ vs _ h z rs =>
      have hsq : SqL X.K H2 ad (ns.map V.int) := by
        rw [← is_of rs en]
        exact SqL.of h
      refine ⟨ad, ns, rfl, hsq, ?_⟩
      unfold cntD at ei
      split at ei
      · cases ei
        cases rw'
        exact .inl ⟨_, rfl, hq H2 μ2 _ (x1.trans x2) hs2 (.int _)⟩
      · cases ei
        cases rw'
        exact .inr ⟨rfl, hq H2 μ2 _ (x1.trans x2) hs2 (.int _)⟩
      · cases ei
/-- xs.pop(i) -/
def mPopAt (mo me : ME DV) : ME DV := ME.bind mo fun x => fun e st => match itemsOf st x with
  | some _ => (ME.bind me fun y => fun _ st1 => match x, y with
    | .ref l, .int i => match st1[l]? with
      | some (.lst ds) => if 0 ≤ i ∧ i < ds.length ∧ ds.length ≤ LIM then (match ds[i.toNat]? with
        | some d => some (d, st1.set l (.lst (ds.eraseIdx i.toNat)))
        | none => none) else none
      | _ => none
    | _, _ => none) e st
  | none => none
theorem RVs.eraseIdx {K : PySem.W.Frag} {H : Hp} {μ : List Addr} : ∀ {ds : List DV} {vs : List V} (i : Nat), RVs K H μ ds vs → RVs K H μ (ds.eraseIdx i) (vs.eraseIdx i)
  | _, _, _, .nil => .nil
  | _, _, 0, .cons _ t => t
  | _, _, i + 1, .cons r t => .cons r (RVs.eraseIdx i t)
theorem de_popAt (ho : DE X o ma) (he : DE X e mb) (hbase : attributeBase o "pop" X.env (eval o X.env) = eval o X.env := by rfl)
    (hfew : ((backTo pos (starEach (e :: []) X.env)).all (fun x => !x.1) && (backToKw pos (keywordEach [] X.env)).all (fun x => x.1.isSome) && decide ((e :: []).length + ([] : List Keyword).length + (if ([] : List Keyword).isEmpty then 0 else 1) < 30)) = true := by rfl)
    (hline : (apos.endLine == pos.line) = true := by rfl) (hs : starEach (e :: []) X.env = (false, eval e X.env) :: starEach [] X.env := by rfl) (hplain : (backTo pos (starEach [] X.env)).any (·.1) = false := by rfl) : DE X (.Call (.Attribute o "pop" apos) [e] [] pos) (mPopAt ma mb) := by
  refine pe_imp (pe_bm PySem.F.plainAttrs_list PySem.F.slot_list_pop PySem.F.type_list_pop mt_popAt ho (pa_cons he pa_nil hs) hbase hfew hline hs hplain) fun σ H Q ⟨e, st, μ, d, st', he, hs, hm, hq⟩ => ?_
  obtain ⟨x, st1, h1, hm⟩ := bind_some hm
  split at hm
  case h_2 => cases hm
  rename_i ds0 e0
  obtain ⟨y, st2, h2, hm⟩ := bind_some hm
  split at hm
  case h_2 => cases hm
  rename_i l i _
  split at hm
  case h_2 => cases hm
  rename_i ds e1
  split at hm
  case isFalse => cases hm
  rename_i hi
  split at hm
  case h_2 => cases hm
  rename_i d0 ed
  cases hm
  refine ⟨e, st, μ, _, st1, he, hs, h1, fun H1 μ1 v x1 hs1 rv => ?_⟩
  cases rv with
  | @ref _ ad hl =>
    obtain ⟨vs0, h0, _, _⟩ := lst_read hs1 e0 hl
    refine ⟨bm_ty h0, e, st1, μ1, _, _, he.ext x1, hs1, h2, fun H2 μ2 w x2 hs2 rw' => ?_⟩
    cases rw'
    have c := hs2.cell l ad _ (x2.at hl) e1
    cases c with
    | @lst _ vs _ h z rs =>
      have n1 : ∀ xs, HO.lst vs ≠ .tup xs := fun xs q => by cases q
      have n2 : ∀ ob w, HO.lst vs ≠ .frz ob w := fun ob w q => by cases q
      have x3 : Ext H2 μ2 (upd H2 ad (.lst (vs.eraseIdx i.toNat))) μ2 := ext_write h (List.mem_of_getElem? (x2.at hl)) n1 n2
      obtain ⟨v0, g1, g2⟩ := rs.get ed
      obtain ⟨i0, i1, i2⟩ := hi
      have hlen := rs.length
      have ix : ixN vs.length i = some i.toNat := by
        unfold ixN
        rw [if_pos i0, if_pos (by rw [← hlen]; exact i1)]
      refine ⟨ad, vs, i, i.toNat, v0, rfl, rfl, h, by omega, by simp only [LIM] at i2; omega, (ixN_seq ix).1, g1, hq _ μ2 v0 (x1.trans (x2.trans x3)) (hs2.write (x2.at hl) h n1 n2 (.lst upd_same (Nat.le_trans (len_erase vs _) z) ((rs.ext x3).eraseIdx _))) (g2.ext x3)⟩

/-! ### defs -/
abbrev FM := List DV → Sto → Option (DV × Sto)
/-- a def's promise: it does what F does -/
def spM (K : PySem.W.Frag) (n : Nat) (F : FM) : Sp := fun vs H Q _ => vs.length = n ∧ ∃ st μ ds d st', RS K H μ st ∧ RVs K H μ ds vs ∧ F ds st = some (d, st') ∧
  ∀ H' μ' v, Ext H μ H' μ' → RS K H' μ' st' → RV K H' μ' d v → Q v H'
def mCall (F : FM) (ms : List (ME DV)) : ME DV := ME.bind (mArgs ms) fun ds => fun _ st => F ds st
theorem de_call {k j : Nat} {f : Addr} {fd : FuncData} {ps : List Str} {x : Str} {F : FM} {ms : List (ME DV)} (G : FnOk X.prog X.w X.K X.mg X.base CX0 k f fd ps (spM X.K ps.length F)) (hr : Room j X.A) (hkj : k ≤ j) (hm : X.mg x = some (.ref f)) (hk : PySem.W.keepIn X.K (.ref f) = true) (hb : Binds X.K fd ps [])
    (ha : DA X (e :: es) (mArgs ms)) (hl : ms.length = ps.length := by rfl) (hg : Gl X x := by rfl) (hdb : (x == ("__debug__" : Str)) = false := by decide) (he : starEach (e :: es) X.env = (false, eval e X.env) :: starEach es X.env := by rfl) (hpl : (backTo pos (starEach es X.env)).any (·.1) = false := by rfl) : DE X (.Call (.Name x p) (e :: es) [] pos) (mCall F ms) := by
  refine pe_imp (pe_call G (hr.mono hkj) hg hm hk hb .nil (E := E0) pass0 ha hdb he hpl) fun σ H Q ⟨e, st, μ, d, st', he, hs, hm, hq⟩ => ?_
  obtain ⟨ds, st1, h1, hm⟩ := bind_some hm
  refine ⟨e, st, μ, ds, st1, he, hs, h1, fun H1 μ1 vs x1 hs1 rs => ?_⟩
  show spM X.K ps.length F (vs ++ []) H1 Q E0
  rw [List.append_nil]
  refine ⟨by rw [← rs.length, args_len _ _ _ _ _ h1, hl], st1, μ1, ds, d, st', hs1, rs, hm, fun H2 μ2 v x2 hs2 rv => hq H2 μ2 v (x1.trans x2) hs2 rv⟩
/-- a body's answer -/
def bodyM (n : Nat) (m : MS) : FM := fun ds st => match m (ds.map some ++ List.replicate (n - ds.length) none) st with
  | some (.rt d, _, st') => some (d, st')
  | some (.nx, _, st') => some (.non, st')
  | _ => none
theorem start_rel {K : PySem.W.Frag} {H : Hp} {μ : List Addr} {N : List Str} : ∀ {ds : List DV} {vs : List V}, RVs K H μ ds vs → RE K H μ (ds.map some ++ List.replicate (N.length - ds.length) none) (L2.start N vs) := fun {ds vs} r => by
  have hl := r.length
  refine ⟨by simp [L2.start, hl], fun i d h => ?_⟩
  by_cases hi : i < ds.length
  · rw [List.getElem?_append_left (by simpa using hi), List.getElem?_map] at h
    cases q : ds[i]? with
    | none => rw [q] at h; cases h
    | some d' =>
      rw [q] at h
      cases h
      obtain ⟨v, h1, h2⟩ := r.get q
      refine ⟨v, ?_, h2⟩
      unfold L2.start
      rw [List.getElem?_append_left (by simpa [← hl] using hi), List.getElem?_map, h1]
      rfl
  · rw [List.getElem?_append_right (by simpa using hi)] at h
    rw [List.getElem?_replicate] at h
    split at h
    · cases h
    · cases h
theorem fn_d {P : Program} {w : World} {K : PySem.W.Frag} {mg : Str → Option Value} {base : Heap} {x qual : Str} {st : Stmt} {f : Addr} {fd : FuncData} {N ps : List Str} {k : Nat} {m : MS} (F : Fun K x qual st f fd) (S : FnScope N ps (defScope st))
    (hb : ∀ (cdv : Value) (A : Around) (outer : List PySem.Env) (s : Shared) (H : Hp) (E : XK), Room k (A.deeper (envOfC qual (defScope st) s.heap.objs.size f cdv)) → DSs (cxOf CX0 P w K mg base N qual (defScope st) f cdv A outer s H E).nox (defBody st) m) :
    FnOk P w K mg base CX0 (k + 1) f fd ps (spM K ps.length (bodyM N.length m)) := by
  refine F.ok S (fun vs H Q E h => h.1) fun cdv A outer s H vs Q E hr ⟨hl, st, μ, ds, d, st', hs, rs, hm, hq⟩ => ⟨_, hb cdv A outer s H E hr, ?_⟩
  unfold bodyM at hm
  split at hm
  · rename_i d' e1 st1 h1
    cases hm
    exact ⟨_, st, μ, _, start_rel rs, hs, h1, fun v H1 μ1 x1 hs1 rv => hq H1 μ1 v x1 hs1 rv⟩
  · rename_i e1 st1 h1
    cases hm
    exact ⟨_, st, μ, _, start_rel rs, hs, h1, fun σ1 H1 μ1 x1 he1 hs1 => hq H1 μ1 .non x1 hs1 .non⟩
  · cases hm
/-- a def that is not called: the ground of a recursion -/
theorem fn_zero {P : Program} {w : World} {K : PySem.W.Frag} {mg : Str → Option Value} {base : Heap} {f : Addr} {fd : FuncData} {ps : List Str} (k : Nat) : FnOk P w K mg base CX0 k f fd ps (spM K ps.length fun _ _ => none) :=
  ⟨fun vs H Q E h => h.1, fun A outer s H args us vs Q E hr he hb hv ⟨hl, st, μ, ds, d, st', hs, rs, hm, hq⟩ => by cases hm⟩
end
end DL

/-! DL9: displays of dicts, tables of defs, sorted, sets of ints. -/
namespace DL
open PySem PySem.Spec PyProof.Rows L2

section
variable {K : PySem.W.Frag} {H : Hp} {μ : List Addr} {D : Addr} {u0 u1 : HO}
/-- a tracked thing that is no cell is changed -/
theorem alt_sqt (hD : H D = some u0) (n1 : ∀ xs, u0 ≠ .tup xs) (n2 : ∀ o w, u0 ≠ .frz o w) {a : Addr} {xs : List V} (h : SqT K H a xs) : SqT K (upd H D u1) a xs := by
  rcases h with (h | ⟨o, h⟩) | h
  · exact .inl (.inl (by rw [upd_ne (ne_of h hD (n1 xs).symm)]; exact h))
  · exact .inl (.inr ⟨o, by rw [upd_ne (ne_of h hD (n2 _ _).symm)]; exact h⟩)
  · exact .inr h
theorem alt_sqr (hD : H D = some u0) (n1 : ∀ xs, u0 ≠ .tup xs) (n2 : ∀ o w, u0 ≠ .frz o w) {a : Addr} {xs : List V} (h : SqR K H a xs) : SqR K (upd H D u1) a xs := by
  rcases h with ⟨o, h⟩ | h
  · exact .inl ⟨o, by rw [upd_ne (ne_of h hD (n2 _ _).symm)]; exact h⟩
  · exact .inr h
theorem alt_rv (hD : H D = some u0) (n1 : ∀ xs, u0 ≠ .tup xs) (n2 : ∀ o w, u0 ≠ .frz o w) {d : DV} {v : V} (r : RV K H μ d v) : RV K (upd H D u1) μ d v :=
  RV.rec (motive_1 := fun d v _ => RV K (upd H D u1) μ d v) (motive_2 := fun d v _ => RVs K (upd H D u1) μ d v) .non .bl .int .str (fun s z _ r => .tup (alt_sqt hD n1 n2 s) z r) (fun h => .ref h) (fun s z _ r => .scr (alt_sqr hD n1 n2 s) z r) .nil (fun _ _ a b => .cons a b) r
theorem alt_rvs (hD : H D = some u0) (n1 : ∀ xs, u0 ≠ .tup xs) (n2 : ∀ o w, u0 ≠ .frz o w) : ∀ {d : List DV} {v : List V}, RVs K H μ d v → RVs K (upd H D u1) μ d v
  | _, _, .nil => .nil
  | _, _, .cons r s => .cons (alt_rv hD n1 n2 r) (alt_rvs hD n1 n2 s)
theorem alt_rk (hD : H D = some u0) (n1 : ∀ xs, u0 ≠ .tup xs) (n2 : ∀ o w, u0 ≠ .frz o w) : ∀ {d : List (Key × DV)} {v : List (Key × V)}, RKs K H μ d v → RKs K (upd H D u1) μ d v
  | _, _, .nil => .nil
  | _, _, .cons r s => .cons (alt_rv hD n1 n2 r) (alt_rk hD n1 n2 s)
theorem alt_rs {st : Sto} (hs : RS K H μ st) (hD : H D = some u0) (hn : D ∉ μ) (n1 : ∀ xs, u0 ≠ .tup xs) (n2 : ∀ o w, u0 ≠ .frz o w) : RS K (upd H D u1) μ st := ⟨hs.len, hs.nd, fun l a o h1 h2 => by
  have c := hs.cell l a o h1 h2
  have ne : a ≠ D := fun z => hn (by rw [← z]; exact List.mem_of_getElem? h1)
  cases c with
  | lst h z r => exact .lst (by rw [upd_ne ne]; exact h) z (alt_rvs hD n1 n2 r)
  | dct h z r => exact .dct (by rw [upd_ne ne]; exact h) z (alt_rk hD n1 n2 r)
  | dcn h r q => exact .dcn (by rw [upd_ne ne]; exact h) (alt_rk hD n1 n2 r) (alt_rv hD n1 n2 q)⟩
end
section
variable {X : Cx} {a b c e o tg tg1 : Expr} {es : List Expr} {ma mb mc : ME DV} {mq : ME (List DV)} {pos p apos : Pos}
/-! ### {k: v, ..}, the keys texts -/
def mPairs : List (ME DV × ME DV) → ME (List (Key × DV))
  | [] => ME.pure []
  | (mk, mv) :: r => ME.bind mk fun x => ME.bind mv fun y => ME.bind (mPairs r) fun ps => fun _ st => match keyD x with
    | some k => some ((k, y) :: ps, st)
    | none => none
def trsOf (K : PySem.W.Frag) (l : List (ME DV × ME DV)) : List (TE × TE) := l.map fun x => (tD K x.1, tD K x.2)
theorem pairs_read {K : PySem.W.Frag} : ∀ (l : List (ME DV × ME DV)) (σ : L2.St) (H : Hp) (Q : List (V × V) → Hp → Prop) (e : Env) (st : Sto) (μ : List Addr) (kvs : List (Key × DV)) (st' : Sto), RE K H μ e σ → RS K H μ st → mPairs l e st = some (kvs, st') →
    (∀ H' μ' ws, Ext H μ H' μ' → RS K H' μ' st' → RKs K H' μ' kvs ws → Q (ws.map fun kv => (kV kv.1, kv.2)) H') → tPairs (trsOf K l) σ H Q
  | [], σ, H, Q, e, st, μ, kvs, st', he, hs, hm, hq => by
    cases hm
    exact hq H μ [] Ext.refl hs .nil
  | (mk, mv) :: r, σ, H, Q, e, st, μ, kvs, st', he, hs, hm, hq => by
    obtain ⟨x, st1, h1, hm⟩ := bind_some hm
    obtain ⟨y, st2, h2, hm⟩ := bind_some hm
    obtain ⟨ps, st3, h3, hm⟩ := bind_some hm
    split at hm
    case h_2 => cases hm
    rename_i k ek
    cases hm
    refine ⟨e, st, μ, x, st1, he, hs, h1, fun H1 μ1 v x1 hs1 rv => ?_⟩
    refine ⟨e, st1, μ1, y, st2, he.ext x1, hs1, h2, fun H2 μ2 w x2 hs2 rw' => ?_⟩
    refine pairs_read r σ H2 _ e st2 μ2 ps _ (he.ext (x1.trans x2)) hs2 h3 fun H3 μ3 ws x3 hs3 rk => ?_
    have := hq H3 μ3 ((k, w) :: ws) (x1.trans (x2.trans x3)) hs3 (.cons (rw'.ext x3) rk)
    rw [List.map_cons] at this
    rw [key_of rv ek]
    exact this
def mergeD (kvs more : List (Key × DV)) : List (Key × DV) := more.foldl (fun acc kv => putD acc kv.1 kv.2) kvs
theorem merge_rel {K : PySem.W.Frag} {H : Hp} {μ : List Addr} : ∀ {ds : List (Key × DV)} {vs : List (Key × V)} {acc : List (Key × DV)} {bcc : List (Key × V)}, RKs K H μ ds vs → RKs K H μ acc bcc → RKs K H μ (mergeD acc ds) (mergeK bcc vs)
  | _, _, _, _, .nil, r => r
  | _, _, acc, bcc, @RKs.cons _ _ _ k d v ds vs r rs, q => merge_rel (acc := putD acc k d) (bcc := putK bcc k v) rs (put_rel r q)
def mDisp (l : List (ME DV × ME DV)) : ME DV := ME.bind (mPairs l) fun kvs => fun _ st => if kvs.length ≤ 15 then some (.ref st.length, st ++ [.dct (mergeD [] kvs)]) else none
def DPs (X : Cx) (pos : Pos) (ks : List (Option Expr)) (vs : List Expr) (l : List (ME DV × ME DV)) : Prop := PPs X pos ks vs (trsOf X.K l)
theorem dps_nil : DPs X pos [] [] [] := pps_nil
theorem dps_cons {ks : List (Option Expr)} {vs : List Expr} {l : List (ME DV × ME DV)} (hk : DE X a ma) (hv : DE X b mb) (hr : DPs X pos ks vs l) : DPs X pos (some a :: ks) (b :: vs) ((ma, mb) :: l) := pps_cons hk hv hr
theorem mergeK_len : ∀ (more kvs : List (Key × V)), (mergeK kvs more).length ≤ kvs.length + more.length := fun more => by
  induction more with
  | nil => intro kvs; exact Nat.le_refl _
  | cons x r ih =>
    intro kvs
    have h1 := ih (putK kvs x.1 x.2)
    have h2 := putK_len (vs := kvs) (k := x.1) (v := x.2)
    have h3 : (mergeK kvs (x :: r)).length = (mergeK (putK kvs x.1 x.2) r).length := rfl
    simp only [List.length_cons]
    omega
theorem de_disp {ks : List (Option Expr)} {vs : List Expr} {l : List (ME DV × ME DV)} (h : DPs X pos ks vs l) (hall : ks.all (·.isSome) = true := by rfl) (hl : ks.length = vs.length := by rfl) (h0 : ks ≠ [] := by simp) (h15 : ks.length ≤ 15 := by decide) : DE X (.Dict ks vs pos) (mDisp l) := by
  refine pe_imp (pe_disp h hall hl h0 h15) fun σ H Q ⟨e, st, μ, d, st', he, hs, hm, hq⟩ q hq' => ?_
  obtain ⟨kvs, st1, h1, hm⟩ := bind_some hm
  split at hm
  case isFalse => cases hm
  rename_i hz
  cases hm
  have nq : q ∉ μ := fun z => hs.trk z hq'
  refine pairs_read l σ _ _ e st μ kvs st1 (he.ext (ext_new hq')) (hs.new hq') h1 fun H1 μ1 ws x1 hs1 rk => ?_
  have hq1 : H1 q = some (.dK []) := x1.oth q _ nq upd_same
  have nq1 : q ∉ μ1 := fun z => by
    obtain ⟨u, eu, hu⟩ := x1.pre
    rw [eu] at z
    rcases List.mem_append.mp z with z | z
    · exact nq z
    · have := hu q z; rw [upd_same] at this; cases this
  have hlen := rk.length
  refine ⟨hq1, ws, rfl, by rw [← hlen]; exact hz, ?_⟩
  have x01 := (ext_new (μ := μ) (o := .dK []) hq').trans x1
  have n1 : ∀ xs, HO.dK [] ≠ .tup xs := fun xs z => by cases z
  have n2 : ∀ ob w, HO.dK [] ≠ .frz ob w := fun ob w z => by cases z
  have rk' := alt_rk (u1 := .dK (mergeK [] ws)) hq1 n1 n2 rk
  have hs' := alt_rs (u1 := .dK (mergeK [] ws)) hs1 hq1 nq1 n1 n2
  have hz' : (mergeK [] ws).length ≤ sizeLine := Nat.le_trans (mergeK_len ws []) (by rw [← hlen]; exact lim_ok (Nat.le_trans (by simpa using hz) (by decide)))
  have nH : H q = none := hq'
  obtain ⟨t, et, ht⟩ := x01.pre
  refine hq _ (μ1 ++ [q]) (.ref q) ⟨⟨t ++ [q], by rw [et, List.append_assoc], fun a ha => ?_⟩, fun a xs h => ?_, fun a o u h => ?_, fun a o ha h => ?_, fun a h => ?_⟩ (hs'.adopt nq1 (.dct upd_same hz' (merge_rel rk' .nil))) (.ref (at_end hs1.len))
  · rcases List.mem_append.mp ha with ha | ha
    · exact ht a ha
    · rw [List.mem_singleton.mp ha]; exact nH
  · rw [upd_ne (ne_of_none h nH)]; exact x01.tup _ _ h
  · rw [upd_ne (ne_of_none h nH)]; exact x01.frz _ _ _ h
  · rw [upd_ne (ne_of_none h nH)]; exact x01.oth _ _ ha h
  · by_cases ea : a = q
    · subst ea; exact nH
    · rw [upd_ne ea] at h; exact x01.trk _ h
/-! ### T[k](..), T a written dict of defs -/
def lookF (tbl : List (Str × FM)) (z : Str) : Option FM := match tbl with
  | [] => none
  | (y, d) :: r => if y = z then some d else lookF r z
def mKcall (tbl : List (Str × FM)) (mk : ME DV) (ms : List (ME DV)) : ME DV := ME.bind mk fun x => fun e st => match x with
  | .str z => match lookF tbl z with
    | some F => mCall F ms e st
    | none => none
  | _ => none
def KFun (P : Program) (w : World) (K : PySem.W.Frag) (mg : Str → Option Value) (base : Heap) (p : Addr) (k n : Nat) (tbl : List (Str × FM)) : Prop := ∀ z F, lookF tbl z = some F → ∃ (f : Addr) (fd : FuncData) (ps : List Str), KDct K w p z (.ref f) ∧ ps.length = n ∧ FnOk P w K mg base CX0 k f fd ps (spM K ps.length F) ∧ PySem.W.keepIn K (.ref f) = true ∧ Binds K fd ps []
theorem kfun_nil {P : Program} {w : World} {K : PySem.W.Frag} {mg : Str → Option Value} {base : Heap} {p : Addr} {k n : Nat} : KFun P w K mg base p k n [] := fun z F h => by cases h
theorem kfun_cons {P : Program} {w : World} {K : PySem.W.Frag} {mg : Str → Option Value} {base : Heap} {p : Addr} {k j : Nat} {y : Str} {F : FM} {f : Addr} {fd : FuncData} {ps : List Str} {r : List (Str × FM)} (h : KDct K w p y (.ref f)) (G : FnOk P w K mg base CX0 j f fd ps (spM K ps.length F)) (hj : j ≤ k) (hk : PySem.W.keepIn K (.ref f) = true) (hb : Binds K fd ps []) (hr : KFun P w K mg base p k ps.length r) : KFun P w K mg base p k ps.length ((y, F) :: r) := fun z d' e => by
  unfold lookF at e
  split at e
  · rename_i q
    subst q
    cases e
    exact ⟨f, fd, ps, h, rfl, G.mono hj, hk, hb⟩
  · exact hr z d' e
theorem de_kcall {x : Str} {pt : Addr} {k j n : Nat} {tbl : List (Str × FM)} {ms : List (ME DV)} {px p2 : Pos} (hg : Gl X x) (hm : X.mg x = some (.ref pt)) (ht : KFun X.prog X.w X.K X.mg X.base pt k n tbl) (hr : Room j X.A) (hkj : k ≤ j) (hb : DE X b mb) (ha : DA X (e :: es) (mArgs ms)) (hn : ms.length = n := by rfl)
    (hs : PlainIx b := by intro _ _; rfl) (hd : (x == ("__debug__" : Str)) = false := by decide)
    (hcall : eval (.Call (.Subscript (.Name x px) b p2) (e :: es) [] pos) X.env = (do callWith pos (← eval (.Subscript (.Name x px) b p2) X.env) [] (backTo pos (starEach (e :: es) X.env)) (backToKw pos (keywordEach [] X.env))) := by rfl)
    (he : starEach (e :: es) X.env = (false, eval e X.env) :: starEach es X.env := by rfl) (hpl : (backTo pos (starEach es X.env)).any (·.1) = false := by rfl) : DE X (.Call (.Subscript (.Name x px) b p2) (e :: es) [] pos) (mKcall tbl mb ms) := by
  refine ⟨fun pins s σ H Q I ⟨en, st, μ, d, st', he', hs', hm', hq⟩ => ?_⟩
  obtain ⟨y, st1, h1, hm'⟩ := bind_some hm'
  split at hm'
  case h_2 => cases hm'
  rename_i z
  split at hm'
  case h_2 => cases hm'
  rename_i F eF
  obtain ⟨ds, st2, h2, h3⟩ := bind_some hm'
  obtain ⟨f, fd, ps, k1, k2, k3, k4, k5⟩ := ht z F eF
  refine Call_ (thn ((pe_ix ix_kdict (pe_glob hg hm (v := .ref pt) rfl hd) hb hs).run pins s σ H (fun v H1 => v = .ref f ∧ ∃ μ1, Ext H μ H1 μ1 ∧ RS X.K H1 μ1 st1) I ⟨en, st, μ, _, st1, he', hs', h1, fun H1 μ1 v x1 hs1 rv => ?_⟩) fun u s1 ⟨v, H1, I1, r1, q1⟩ => ?_) hcall
  · cases rv
    exact ⟨pt, z, .ref f, rfl, rfl, k1, rfl, μ1, x1, hs1⟩
  · obtain ⟨rfl, μ1, x1, hs1⟩ := q1
    cases r1
    refine PySem.W.callWith_K (h₀ := X.base) I1.ok.mod.kin k4 (thn (ha.run pos pins s1 σ H1 _ I1 ⟨en, st1, μ1, ds, st2, he'.ext x1, hs1, h2, fun H2 μ2 vs x2 hs2 rs => (show spM X.K ps.length F (vs ++ []) H2 Q E0 from ?_)⟩) fun us s2 ⟨vs, H2, I2, r2, q2⟩ => ⟨I2.kIn, ?_⟩) he hpl
    · rw [List.append_nil]
      exact ⟨by rw [← rs.length, args_len _ _ _ _ _ h2, hn, k2], st2, μ2, ds, d, st', hs2, rs, h3, fun H3 μ3 v x3 hs3 rv => hq H3 μ3 v (x1.trans (x2.trans x3)) hs3 rv⟩
    · exact run_fn k3 (hr.mono hkj) k5 .nil pass0 I2 r2 q2

/-! ### sorted of ints -/
def insI (n : Int) : List Int → List Int
  | [] => [n]
  | m :: ms => if n ≤ m then n :: m :: ms else m :: insI n ms
def isort : List Int → List Int
  | [] => []
  | n :: ns => insI n (isort ns)
theorem insI_perm (n : Int) : ∀ ms, (insI n ms).Perm (n :: ms)
  | [] => List.Perm.refl _
  | m :: ms => by
    unfold insI
    split
    · exact List.Perm.refl _
    · exact ((insI_perm n ms).cons m).trans (List.Perm.swap n m ms)
theorem isort_perm : ∀ ns, (isort ns).Perm ns
  | [] => List.Perm.refl _
  | n :: ns => (insI_perm n (isort ns)).trans ((isort_perm ns).cons n)
theorem insI_sorted (n : Int) : ∀ {ms : List Int}, ms.Pairwise (· ≤ ·) → (insI n ms).Pairwise (· ≤ ·)
  | [], _ => by simp [insI]
  | m :: ms, h => by
    unfold insI
    have h1 := List.pairwise_cons.mp h
    split
    · rename_i hn
      refine List.pairwise_cons.mpr ⟨fun k hk => ?_, h⟩
      rcases List.mem_cons.mp hk with rfl | hk
      · exact hn
      · exact Int.le_trans hn (h1.1 k hk)
    · rename_i hn
      refine List.pairwise_cons.mpr ⟨fun k hk => ?_, insI_sorted n h1.2⟩
      rcases List.mem_cons.mp ((insI_perm n ms).mem_iff.mp hk) with rfl | hk
      · omega
      · exact h1.1 k hk
theorem isort_sorted : ∀ ns, (isort ns).Pairwise (· ≤ ·)
  | [] => List.Pairwise.nil
  | n :: ns => insI_sorted n (isort_sorted ns)
theorem sorted_uniq : ∀ {l l' : List Int}, l.Perm l' → l.Pairwise (· ≤ ·) → l'.Pairwise (· ≤ ·) → l = l'
  | [], l', p, _, _ => by simpa using p
  | a :: l, [], p, _, _ => by simpa using p
  | a :: l, b :: l', p, h, h' => by
    have h1 := List.pairwise_cons.mp h
    have h2 := List.pairwise_cons.mp h'
    have e : a = b := by
      have m1 : a ∈ b :: l' := p.mem_iff.mp List.mem_cons_self
      have m2 : b ∈ a :: l := p.mem_iff.mpr List.mem_cons_self
      rcases List.mem_cons.mp m1 with m1 | m1
      · exact m1
      · rcases List.mem_cons.mp m2 with m2 | m2
        · exact m2.symm
        · have := h2.1 a m1
          have := h1.1 b m2
          omega
    subst e
    rw [sorted_uniq (List.Perm.cons_inv p) h1.2 h2.2]
/-- sorted of a list or a tuple of ints -/
theorem sorted_seq {prog : Program} {w : World} {A : Around} {E : Value → Shared → Prop} {s : Shared} {it : Addr} {T : String} {ob : Obj} {items : Array Value} {n : Nat} {ns : List Int} {Q : Value → Shared → Prop}
    (hT : T = "list" ∨ T = "tuple") (ho : s.heap.get? it = some ob) (hc : ob.cls = .type T) (hd : ob.data = .seq items n) (hz : items.size ≤ sizeLine) (hI : IntsAre items.toList ns)
    (h : ∀ (h1 h' : Heap) (out : List Value) (ep : Nat), (∀ b o', s.heap.get? b = some o' → h1.get? b = some o') → (∀ b o', h1.get? b = some o' → h'.get? b = some o') → h'.get? h1.objs.size = some { cls := .type "list", data := .seq out.toArray ep } → IntsAre out (isort ns) → Q (.ref h1.objs.size) { s with heap := h' }) :
    wpAny (model prog w) A (call (.builtin "sorted") [.ref it]) Q E s := by
  have hz2 : items.toList.length ≤ sizeLine := by rw [Array.length_toList]; exact hz
  refine Calls.call_function_entry kind_sorted plain_sorted entry_sorted (args_sorted1 _) ?_
  unfold Builtin.«sorted»
  refine wpAny_bind (m := checkCount "sorted" 1 1 _) (wpAny_pure ?_)
  refine wpAny_bind (wpAny_collect_seq it hT ho hc hd (fun h1 k1 => ?_) hz)
  refine wpAny_bind (wpAny_newList (?_) (hz2))
  have hl : (h1.push (seqObj "list" items.toList.toArray 0)).get? h1.objs.size = some (seqObj "list" items.toList.toArray 0) := Heap.get?_push_size _ rfl
  refine wpAny_bind (wpAny_holding (wpAny_call_entry slot_list_sort ⟨_, hl, rfl⟩ entry_list_sort (SrtO.list_sort_ord SrtO.swo_int hl hz2 (fun h2 => SrtO.ints_sortable hI h2) fun out o1 o2 => ⟨_, rfl, ?_⟩) (args_list_sort _)))
  obtain ⟨g1, g2, g3⟩ := SrtO.ints_out hI o1 o2
  obtain ⟨ep, he⟩ := sortedHeap_at (vs := items.toList) (out := out.toArray) hl
  refine wpAny_pure ⟨_, rfl, h h1 _ out ep k1 (fun b o' q => ?_) he ?_⟩
  · have hlt : b < h1.objs.size := Heap.lt_size q
    rw [sortedHeap_old (Nat.ne_of_lt hlt) (by rw [Heap.size_push]; exact Nat.lt_succ_of_lt hlt)]
    exact Heap.get?_push_of_some _ q
  · rw [sorted_uniq (isort_perm ns |>.trans g2.symm) (isort_sorted ns) g3]
    exact g1
def rSrt (K : PySem.W.Frag) : List V → Hp → VK → Prop := fun vs H Q => ∃ (q : Addr) (ns : List Int), vs = [.ref q] ∧ (SqL K H q (ns.map V.int) ∨ SqT K H q (ns.map V.int)) ∧ ∀ l, H l = none → Q (.ref l) (upd H l (.lst ((isort ns).map V.int)))
theorem isort_len (ns : List Int) : (isort ns).length = ns.length := (isort_perm ns).length_eq
theorem cr_srt : CallR X (.builtin "sorted") (rSrt X.K) := by
  intro pins s σ H xs us Q I r ⟨q, ns, e, hq, hk⟩
  subst e
  obtain ⟨u, rfl, rx⟩ := vals1 r
  cases rx
  have fin : ∀ {its : List Value} {T : String} {ob : Obj} {n : Nat}, (T = "list" ∨ T = "tuple") → s.heap.get? q = some ob → ob.cls = .type T → ob.data = .seq its.toArray n → Vals (ns.map V.int) its → (ns.map V.int).length ≤ sizeLine → wpAny (model X.prog X.w) X.A (call (.builtin "sorted") [.ref q]) (EP X pins σ Q) X.xe s := by
    intro its T ob n hT ho hc hd rv hz
    refine sorted_seq (ns := ns) hT ho hc hd (by rw [List.size_toArray, ← rv.length]; exact hz) (by simpa using rv.ints) fun h1 h' out ep k1 k2 hnew hI => ?_
    have I1 : Inv X pins σ H { s with heap := h1 } := I.kept (t' := s.toks) k1
    have hl : ((isort ns).map V.int).length ≤ sizeLine := by
      rw [List.length_map, isort_len]
      rw [List.length_map] at hz
      exact hz
    exact ⟨.ref h1.objs.size, upd H h1.objs.size (.lst ((isort ns).map V.int)), I1.laid (t' := s.toks) k2 (Nat.le_refl _) ⟨hl, out, ep, vals_of_ints hI, hnew⟩, rfl, hk _ (I1.hok.fresh (Nat.le_refl _))⟩
  rcases hq with hq | hq
  · obtain ⟨its, rv, pl, hz⟩ := I.list hq
    obtain ⟨ob, ho, hc, n, hd⟩ := pl.isList
    exact fin (.inl rfl) ho hc hd rv hz
  · obtain ⟨its, rv, ⟨ob, ho, hc, n, hd⟩, hz⟩ := I.tuple hq
    exact fin (.inr rfl) ho hc hd rv hz
def mSrt (m : ME (List DV)) : ME (List DV) := ME.bind m fun ds => fun _ st => match toIs ds with
  | some ns => some ((isort ns).map DV.int, st)
  | none => none
theorem df_srt (hm : X.mg "sorted" = none) (h : DQ X e mq) (hg : Gl X "sorted" := by rfl) (hs : starEach [e] X.env = (false, eval e X.env) :: starEach [] X.env := by rfl) (hpl : (backTo pos (starEach [] X.env)).any (·.1) = false := by rfl) : DF X (.Call (.Name "sorted" p) [e] [] pos) (mSrt mq) := by
  refine pe_imp (pe_callB cr_srt hg hm (by decide +kernel) (pa_cons h pa_nil hs) (he := hs) (hpl := hpl)) fun σ H Q ⟨e, st, μ, d, st', he, hs, hm, hq⟩ => ?_
  obtain ⟨ds, st1, h1, hm⟩ := bind_some hm
  split at hm
  case h_2 => cases hm
  rename_i ns en
  cases hm
  refine ⟨e, st, μ, ds, _, he, hs, h1, fun H1 μ1 a vs x1 hs1 sq z rs => ⟨a, ns, rfl, ?_, fun l hl => ?_⟩⟩
  · rw [← is_of rs en]; exact sq
  · obtain ⟨n1, n2⟩ := fresh_new x1 hs1 hl
    refine hq _ μ1 l _ (x1.trans (ext_new hl)) (hs1.new hl) n1 n2 upd_same ?_ (is_to _)
    rw [List.length_map, isort_len, ← List.length_map (f := V.int), ← is_of rs en]
    exact z
/-! ### len(set(t)), t a tuple of different ints -/
def mLenSet (m : ME DV) : ME DV := ME.bind m fun d => fun _ st => match d with
  | .tup ds => match toIs ds with
    | some ns => if ns.Nodup ∧ ns.length ≤ 1000 then some (.int ns.length, st) else none
    | none => none
  | _ => none
theorem nodup_len {α : Type} {l l' : List α} (h : l.Nodup) (h' : l'.Nodup) (k : ∀ x, x ∈ l ↔ x ∈ l') : l.length = l'.length := ((List.perm_ext_iff_of_nodup h h').mpr k).length_eq
theorem de_lenSet {p2 q : Pos} (hc : X.calm = true) (hm : X.mg "len" = none) (hm2 : X.mg "set" = none) (ha : DE X a ma) (hg : Gl X "len" := by rfl) (hg2 : Gl X "set" := by rfl) (na : starEach [a] X.env = (false, eval a X.env) :: starEach [] X.env := by rfl) : DE X (.Call (.Name "len" p) [.Call (.Name "set" p2) [a] [] q] [] pos) (mLenSet ma) := by
  refine ⟨fun pins s σ H Q I ⟨e, st, μ, d, st', he, hs, hm', hq⟩ => ?_⟩
  obtain ⟨x, st1, h1, hm'⟩ := bind_some hm'
  split at hm'
  case h_2 => cases hm'
  rename_i ds
  split at hm'
  case h_2 => cases hm'
  rename_i ns en
  split at hm'
  case isFalse => cases hm'
  rename_i hk
  cases hm'
  refine Call_ (ld_blt I hg hm PySem.boot_len ?_)
  refine callWith_builtin1 (PyProof.Rows.args_cons ?_ rfl) rfl rfl
  refine Call_ (ld_blt I hg2 hm2 boot_set ?_)
  refine callWith_type1 (PyProof.Rows.args_cons (thn (PE.run ha pins s σ H (fun v H1 => ∃ ad vs, v = .ref ad ∧ SqT X.K H1 ad (ns.map V.int) ∧ Q (.int ns.length) H1 ∧ vs = ad) I ⟨e, st, μ, _, _, he, hs, h1, fun H1 μ1 v x1 hs1 rv => ?_⟩) fun u s1 ⟨v, H1, I1, r1, q1⟩ => PyProof.Rows.args_nil ?_) na) na rfl
  · cases rv with
    | @tup ad _ vs sq z rs =>
      refine ⟨ad, ad, rfl, ?_, hq H1 μ1 _ x1 hs1 (.int _), rfl⟩
      rw [← is_of rs en]; exact sq
  · obtain ⟨ad, _, rfl, sq, q1, _⟩ := q1
    cases r1
    obtain ⟨its, rv, pt, hz⟩ := I1.tuple sq
    refine call_set_tupI ns (I1.ok.hd hc) (show s1.heap.IsTuple ad its.toArray from pt) (by simpa using rv.ints) (by unfold scanBound; have := hk.2; omega) fun h' tk c R hcn k => ?_
    refine PyProof.Rows.args_nil ?_
    obtain ⟨o, es, ep, t, ho, hex, hd, hgood, hnd, hmem, hb, hf, hn, _, _⟩ := R
    have I2 : Inv X pins σ H1 { s1 with heap := h', toks := tk } := I1.kept fun b o e => k b o e
    have hlen : es.size = ns.length := by
      have := nodup_len hnd hk.1 fun j => by rw [← hmem j]; simp
      rw [List.length_map, Array.length_toList] at this
      exact this
    refine call_len_set ho hex hd hf (by rw [hlen]; have := hk.2; omega) ⟨.int ns.length, H1, I2.tok _, ⟨_, by rw [hlen]⟩, q1⟩
end
end DL

/-! DL10: what a def leaves behind is forgotten. -/
namespace DL
open PySem PySem.Spec PyProof.Rows L2

mutual
/-- cells below n alone are named -/
def ltD (n : Nat) : DV → Bool
  | .non => true
  | .bl _ => true
  | .int _ => true
  | .str _ => true
  | .tup xs => ltDs n xs
  | .ref l => decide (l < n)
  | .scr xs => ltDs n xs
def ltDs (n : Nat) : List DV → Bool
  | [] => true
  | x :: xs => ltD n x && ltDs n xs
end
def ltKs (n : Nat) : List (Key × DV) → Bool
  | [] => true
  | x :: xs => ltD n x.2 && ltKs n xs
def ltO (n : Nat) : DO → Bool
  | .lst ds => ltDs n ds
  | .dct ks => ltKs n ks
  | .dcn ks d => ltKs n ks && ltD n d
section
variable {K : PySem.W.Frag} {H : Hp} {μ t : List Addr} {n : Nat}
theorem lt_of {d : DV} {v : V} (r : RV K H μ d v) : ltD μ.length d = true :=
  RV.rec (motive_1 := fun d v _ => ltD μ.length d = true) (motive_2 := fun d v _ => ltDs μ.length d = true) rfl (fun _ => rfl) (fun _ => rfl) (fun _ => rfl) (fun _ _ _ r => by simpa [ltD] using r)
    (fun h => by simpa [ltD] using (List.getElem?_eq_some_iff.mp h).1) (fun _ _ _ r => by simpa [ltD] using r) rfl (fun _ _ a b => by simp [ltDs, a, b]) r
theorem lts_of : ∀ {d : List DV} {v : List V}, RVs K H μ d v → ltDs μ.length d = true
  | _, _, .nil => rfl
  | _, _, .cons r s => by simp [ltDs, lt_of r, lts_of s]
theorem ltk_of : ∀ {d : List (Key × DV)} {v : List (Key × V)}, RKs K H μ d v → ltKs μ.length d = true
  | _, _, .nil => rfl
  | _, _, .cons r s => by simp [ltKs, lt_of r, ltk_of s]
theorem cut_rv {d : DV} {v : V} (r : RV K H (μ ++ t) d v) : ltD μ.length d = true → RV K H μ d v :=
  RV.rec (motive_1 := fun d v _ => ltD μ.length d = true → RV K H μ d v) (motive_2 := fun d v _ => ltDs μ.length d = true → RVs K H μ d v) (fun _ => .non) (fun b _ => .bl b) (fun b _ => .int b) (fun b _ => .str b)
    (fun s z _ r h => .tup s z (r (by simpa [ltD] using h))) (fun {l a} h q => .ref (by
      have q : l < μ.length := by simpa [ltD] using q
      rw [List.getElem?_append_left q] at h; exact h)) (fun s z _ r h => .scr s z (r (by simpa [ltD] using h))) (fun _ => .nil) (fun _ _ a b h => by
      simp only [ltDs, Bool.and_eq_true] at h
      exact .cons (a h.1) (b h.2)) r
theorem cut_rvs : ∀ {d : List DV} {v : List V}, RVs K H (μ ++ t) d v → ltDs μ.length d = true → RVs K H μ d v
  | _, _, .nil, _ => .nil
  | _, _, .cons r s, h => by
    simp only [ltDs, Bool.and_eq_true] at h
    exact .cons (cut_rv r h.1) (cut_rvs s h.2)
theorem cut_rks : ∀ {d : List (Key × DV)} {v : List (Key × V)}, RKs K H (μ ++ t) d v → ltKs μ.length d = true → RKs K H μ d v
  | _, _, .nil, _ => .nil
  | _, _, .cons r s, h => by
    simp only [ltKs, Bool.and_eq_true] at h
    exact .cons (cut_rv r h.1) (cut_rks s h.2)
theorem lto_of {o : DO} {a : Addr} (r : RO K H μ o a) : ltO μ.length o = true := by
  cases r with
  | lst h z r => exact lts_of r
  | dct h z r => exact ltk_of r
  | dcn h r q => simp [ltO, ltk_of r, lt_of q]
theorem cut_ro {o : DO} {a : Addr} (r : RO K H (μ ++ t) o a) (h : ltO μ.length o = true) : RO K H μ o a := by
  cases r with
  | lst h' z r => exact .lst h' z (cut_rvs r h)
  | dct h' z r => exact .dct h' z (cut_rks r h)
  | dcn h' r q =>
    simp only [ltO, Bool.and_eq_true] at h
    exact .dcn h' (cut_rks r h.1) (cut_rv q h.2)
end
/-- st0 with the answer d0, told without what nobody can reach -/
inductive Nrm (st : Sto) : DV → Sto → DV → Sto → Prop
  | same (d : DV) (st0 : Sto) : Nrm st d st0 d st0
  | drop {d : DV} {st1 g : Sto} (hl : st1.length = st.length) (hc : ∀ (l : Nat) (o : DO), st1[l]? = some o → st[l]? = some o ∨ ltO st.length o = true) (hd : ltD st.length d = true) : Nrm st d (st1 ++ g) d st1
  | one {st1 g : Sto} {l : Nat} {o : DO} (hl : st1.length = st.length) (hc : ∀ (l : Nat) (o : DO), st1[l]? = some o → st[l]? = some o ∨ ltO st.length o = true) (hg : g[l]? = some o) (ho : ltO st.length o = true) : Nrm st (.ref (st1.length + l)) (st1 ++ g) (.ref st1.length) (st1 ++ [o])
theorem Nrm.pure {st g : Sto} {d : DV} (hd : ltD st.length d = true) : Nrm st d (st ++ g) d st := .drop rfl (fun _ _ h => .inl h) hd
def NrmF (F G : FM) : Prop := ∀ ds st d st', G ds st = some (d, st') → ∃ d0 st0, F ds st = some (d0, st0) ∧ Nrm st d0 st0 d st'
theorem cut_rs {K : PySem.W.Frag} {H H' : Hp} {μ t : List Addr} {st st1 g : Sto} (hs : RS K H μ st) (hs' : RS K H' (μ ++ t) (st1 ++ g)) (hl : st1.length = st.length) (hc : ∀ (l : Nat) (o : DO), st1[l]? = some o → st[l]? = some o ∨ ltO st.length o = true) : RS K H' μ st1 := by
  refine ⟨by rw [hs.len, hl], (List.nodup_append.mp hs'.nd).1, fun l a o h1 h2 => ?_⟩
  have b1 := (List.getElem?_eq_some_iff.mp h1).1
  have b2 := (List.getElem?_eq_some_iff.mp h2).1
  have r := hs'.cell l a o (by rw [List.getElem?_append_left b1]; exact h1) (by rw [List.getElem?_append_left b2]; exact h2)
  refine cut_ro r ?_
  rcases hc l o h2 with h | h
  · exact lto_of (hs.cell l a o h1 h)
  · rw [hs.len]; exact h
theorem fn_nrm {P : Program} {w : World} {K : PySem.W.Frag} {mg : Str → Option Value} {base : Heap} {k n : Nat} {f : Addr} {fd : FuncData} {ps : List Str} {F G : FM} (h : FnOk P w K mg base CX0 k f fd ps (spM K n F)) (hn : NrmF F G) : FnOk P w K mg base CX0 k f fd ps (spM K n G) := by
  refine h.imp fun vs H Q E ⟨hl, st, μ, ds, d, st', hs, rs, hg, hq⟩ => ⟨hl, st, μ, ds, ?_⟩
  obtain ⟨d0, st0, h1, h2⟩ := hn ds st d st' hg
  refine ⟨d0, st0, hs, rs, h1, fun H' μ' v x hs' rv => ?_⟩
  have eqt : ∃ t, μ' = μ ++ t := let ⟨t, e, _⟩ := x.pre; ⟨t, e⟩
  obtain ⟨t, rfl⟩ := eqt
  have xc : Ext H μ H' μ := ⟨⟨[], by simp, by simp⟩, x.tup, x.frz, x.oth, x.trk⟩
  cases h2 with
  | same => exact hq H' _ v x hs' rv
  | drop hl hc hd => exact hq H' μ v xc (cut_rs hs hs' hl hc) (cut_rv rv (by rw [hs.len]; exact hd))
  | @one st1 g l o hl hc hg' ho =>
    have r1 := cut_rs hs hs' hl hc
    cases rv with
    | @ref _ a ha =>
      have hr := hs'.cell _ a o ha (by rw [List.getElem?_append_right (Nat.le_add_right _ _), Nat.add_sub_cancel_left]; exact hg')
      have hat : t[l]? = some a := by
        rw [← r1.len, List.getElem?_append_right (Nat.le_add_right _ _), Nat.add_sub_cancel_left] at ha
        exact ha
      have hnm : a ∉ μ := fun z => by
        have := List.nodup_append.mp hs'.nd
        exact this.2.2 a z a (List.mem_of_getElem? hat) rfl
      obtain ⟨t', et, ht⟩ := x.pre
      have et : t = t' := List.append_cancel_left et
      subst et
      refine hq H' (μ ++ [a]) (.ref a) ⟨⟨[a], rfl, fun b hb => ?_⟩, x.tup, x.frz, x.oth, x.trk⟩ (r1.adopt hnm (cut_ro hr (by rw [hs.len]; exact ho))) (.ref (at_end r1.len))
      rw [List.mem_singleton.mp hb]
      exact ht a (List.mem_of_getElem? hat)
end DL

/-! DL11: what the top has left; the law's own call. -/
namespace DL
open PySem PySem.Spec PyProof.Rows L2

/-- the law's def, from its data -/
theorem hsp_of {K : PySem.W.Frag} {n : Nat} {G : FM} (hn : n ≤ 1000) (h : ∀ ns : List Int, ns.length ≤ n → ∃ st', G [.scr (ns.map DV.int)] [] = some (.bl true, st')) (H : Hp) (a : Addr) (ns : List Int) (hl : ns.length ≤ n) (hO : Only H) (hS : SqL K H a (ns.map V.int)) :
    spM K 1 G [.ref a] H (fun v _ => v = .bl true) fun _ _ _ => False := by
  obtain ⟨st', e⟩ := h ns hl
  have sq : SqR K H a (ns.map V.int) := by
    rcases hS with (h | ⟨o, h⟩) | h
    · rcases hO a with q | ⟨o, xs, q⟩
      · rw [q] at h; cases h
      · rw [q] at h; cases h
    · exact .inl ⟨o, h⟩
    · exact .inr h
  have hz : (ns.map V.int).length ≤ sizeLine := by
    rw [List.length_map, sizeLine_eq]; omega
  refine ⟨rfl, [], [], [.scr (ns.map DV.int)], .bl true, st', ⟨rfl, List.nodup_nil, fun l a o h => by cases h⟩, .cons (.scr sq hz (is_to ns)) .nil, e, fun H' μ' v x hs rv => ?_⟩
  cases rv
  rfl
/-- a written tuple of the top -/
theorem rv_ktup {K : PySem.W.Frag} {p : Addr} {o : Obj} {its : Array Value} {n : Nat} {ds : List DV} {vs : List V} (hl : K.lookup p = some o) (hc : o.cls = .type "tuple") (hd : o.data = .seq its n) (hz : its.size ≤ sizeLine) (hv : Vals vs its.toList) (hr : ∀ H μ, RVs K H μ ds vs) : ∀ H μ, RV K H μ (.tup ds) (.ref p) := fun H μ => by
  refine .tup (.inr ⟨o, its, n, hl, hc, hd, hz, hv⟩) ?_ (hr H μ)
  rw [hv.length, Array.length_toList]
  exact hz
end DL

/-! DN1: None among the keys of a dict: a cell dcn. -/
namespace DL
open PySem PySem.Spec PyProof.Rows L2

def isL (k : Key) : Bool := match k with | .inl _ => true | .inr _ => false
theorem pairs_mem {P : Program} {w : World} {κ : Type} [DecidableEq κ] {knd : PySem.KeyKind P w κ} : ∀ {es : List DictEntry} {us : List (κ × Value)}, PySem.Pairs knd es us → ∀ e ∈ es, ∃ kv ∈ us, knd.is kv.1 e.key = true
  | _, _, .nil, e, h => by cases h
  | _, _, @PySem.Pairs.cons _ _ _ _ _ e0 kv es us h1 h2 t, e, h => by
    rcases List.mem_cons.mp h with rfl | h
    · exact ⟨kv, List.mem_cons_self, h1⟩
    · obtain ⟨kv', h3, h4⟩ := pairs_mem t e h
      exact ⟨kv', List.mem_cons_of_mem _ h3, h4⟩
theorem ndict_mix {P P' : Program} {w w' : World} {h : Heap} {a : Addr} {us : List (Key × Value)} (d : h.DictOf (mixKind P w) a us) (hi : ∀ p ∈ us, isL p.1 = true) : h.DictOf (noneKind P' w') a (us.map fun p => (some p.1, p.2)) := by
  obtain ⟨o, es, ep, ho, hx, hd, hk, hp, hn⟩ := d
  refine ⟨o, es, ep, ho, hx, hd, fun e he => ?_, ?_, ?_⟩
  · obtain ⟨k, h1, h2⟩ := hk e he
    obtain ⟨kv, h3, h4⟩ := pairs_mem hp e (by simpa using he)
    have ek : k = kv.1 := (mixKind P w).inj _ _ _ h1 h4
    subst ek
    refine ⟨some kv.1, h1, ?_⟩
    rw [h2]
    have hl := hi kv h3
    obtain ⟨k, x⟩ := kv
    cases k with
    | inl i => rfl
    | inr x => exact nomatch hl
  · clear hn hk hd hi
    generalize es.toList = l at hp
    induction hp with
    | nil => exact .nil
    | cons h1 h2 _ ih => exact .cons h1 h2 ih
  · rw [List.map_map]
    have e : ((fun x : Option Key × Value => x.1) ∘ fun p : Key × Value => (some p.1, p.2)) = (fun k : Key => some k) ∘ fun p : Key × Value => p.1 := rfl
    rw [e, ← List.map_map]
    exact List.Pairwise.map _ (fun a b hab q => hab (Option.some.inj q)) hn
theorem ndict_none {P P' : Program} {w w' : World} {h : Heap} {a : Addr} {us : List (Option Key × Value)} (d : h.DictOf (noneKind P w) a us) (hi : ∀ p ∈ us, ∀ k, p.1 = some k → isL k = true) : h.DictOf (noneKind P' w') a us := by
  obtain ⟨o, es, ep, ho, hx, hd, hk, hp, hn⟩ := d
  refine ⟨o, es, ep, ho, hx, hd, fun e he => ?_, ?_, hn⟩
  · obtain ⟨k, h1, h2⟩ := hk e he
    obtain ⟨kv, h3, h4⟩ := pairs_mem hp e (by simpa using he)
    have ek : k = kv.1 := (noneKind P w).inj _ _ _ h1 h4
    subst ek
    refine ⟨kv.1, h1, ?_⟩
    rw [h2]
    have hl := hi kv h3
    obtain ⟨k, x⟩ := kv
    cases k with
    | none => rfl
    | some k =>
      cases k with
      | inl i => rfl
      | inr x => exact nomatch (hl _ rfl)
  · clear hn hk hd hi
    generalize es.toList = l at hp
    induction hp with
    | nil => exact .nil
    | cons h1 h2 _ ih => exact .cons h1 h2 ih
theorem ndict_stay {a : Addr} {vs : List (Key × V)} {v : V} {h1 h2 : Heap} (n : NDict a vs v h1) (hk : ∀ o, h1.get? a = some o → h2.get? a = some o) : NDict a vs v h2 := by
  obtain ⟨hd, us, u, r1, r2, dd⟩ := n
  exact ⟨hd, us, u, r1, r2, fun P w => (dd P w).at hk⟩
theorem all_isL {vs : List (Key × V)} {us : List (Key × Value)} (r : KV vs us) (h : (vs.all fun kv => isL kv.1) = true) : ∀ p ∈ us, isL p.1 = true := by
  unfold KV at r
  induction r with
  | nil => simp
  | @cons p q ps qs h1 t ih =>
    simp only [List.all_cons, Bool.and_eq_true] at h
    intro x hx
    rcases List.mem_cons.mp hx with rfl | hx
    · rw [← h1.1]; exact h.1
    · exact ih h.2 x hx
section
variable {X : Cx} {pins : List (Addr × Obj)} {σ : L2.St} {H : Hp} {s : Shared} {a : Addr} {u r : Value} {v v0 : V} {A : Around} {E : Value → Shared → Prop}
theorem stored_none (us : List (Key × Value)) (r : Value) : stored (us.map fun p => ((some p.1 : Option Key), p.2)) none r = (us.map fun p => (some p.1, p.2)) ++ [(none, r)] := by
  unfold stored
  have e : ((us.map fun p => ((some p.1 : Option Key), p.2)).any fun kv => decide (kv.1 = none)) = false := by
    rw [List.any_eq_false]
    intro x hx
    obtain ⟨p, _, rfl⟩ := List.mem_map.mp hx
    simp
  rw [e]
  rfl
theorem d_setNone {vs : List (Key × V)} {Q : Unit → Shared → Prop} (I : Inv X pins σ H s) (e : H a = some (.dK vs)) (hi : (vs.all fun kv => isL kv.1) = true) (hl : vs.length < sizeLine) (rv : RelV v r)
    (h : ∀ s', Inv X pins σ (upd H a (.ext (NDict a vs v))) s' → Q () s') : wpAny (model X.prog X.w) A (setItem (.ref a) .none r) Q E s := by
  obtain ⟨z, hd, us, rel, dd⟩ := dk_of I.hok e
  have hL := all_isL rel hi
  have dn : s.heap.DictOf (noneKind X.prog X.w) a (us.map fun p => (some p.1, p.2)) := ndict_mix dd hL
  have hz : (us.map fun p => ((some p.1 : Option Key), p.2)).length ≤ sizeLine := by rw [List.length_map, ← rel.length]; exact z
  refine wpAny_setItem_pairs (knd := noneKind X.prog X.w) (k := none) (hsz := hz) rfl dn fun h' dd' hs => h _ ?_
  rw [stored_none] at dd'
  have he : ∃ q, h'.get? a = some q := let ⟨q, _, _, hq, _⟩ := dd'; ⟨q, hq⟩
  refine d_write I (by rw [e]; exact True.intro) hs he ⟨⟨hd, us, r, rel, rv, fun P w => ndict_none dd' fun p hp k hk => ?_⟩, he, fun h1 h2 n hk => ndict_stay n hk⟩
  rcases List.mem_append.mp hp with hp | hp
  · obtain ⟨q, hq, rfl⟩ := List.mem_map.mp hp
    cases hk
    exact hL q hq
  · rw [List.mem_singleton.mp hp] at hk
    cases hk
theorem value_some (us : List (Key × Value)) (r : Value) (k : Key) : valueAt ((us.map fun p => ((some p.1 : Option Key), p.2)) ++ [(none, r)]) (some k) = valueAt us k := by
  unfold valueAt
  rw [List.find?_append, List.find?_map]
  have e : ((fun kv : Option Key × Value => decide (kv.1 = some k)) ∘ fun p : Key × Value => ((some p.1 : Option Key), p.2)) = fun kv : Key × Value => decide (kv.1 = k) := by
    funext p
    simp
  rw [e]
  cases us.find? fun kv => decide (kv.1 = k) with
  | none => simp
  | some x => simp
theorem value_none (us : List (Key × Value)) (r : Value) : valueAt ((us.map fun p => ((some p.1 : Option Key), p.2)) ++ [(none, r)]) none = some r := by
  unfold valueAt
  rw [List.find?_append, List.find?_map]
  have e : ((fun kv : Option Key × Value => decide (kv.1 = none)) ∘ fun p : Key × Value => ((some p.1 : Option Key), p.2)) = fun _ => false := by
    funext p
    simp
  rw [e]
  have e2 : us.find? (fun _ => false) = none := by
    rw [List.find?_eq_none]
    intro x _
    simp
  rw [e2]
  rfl
/-- what such a dict holds -/
def NGet (H : Hp) (a : Addr) (y v : V) : Prop := ∃ vs v0, H a = some (.ext (NDict a vs v0)) ∧ ((∃ k, y = kV k ∧ valV vs k = some v) ∨ (y = .non ∧ v = v0))
theorem d_getN {y : V} {Q : Value → Shared → Prop} (I : Inv X pins σ H s) (g : NGet H a y v) (ry : RelV y u) (h : ∀ w' s', Inv X pins σ H s' → RelV v w' → Q w' s') : wpAny (model X.prog X.w) A (getItem (.ref a) u) Q E s := by
  obtain ⟨vs, v0, e, g⟩ := g
  obtain ⟨⟨hd, us, u0, rel, r0, dd⟩, _, _⟩ := I.hok a _ e
  have dd := dd X.prog X.w
  rcases g with ⟨k, rfl, hv⟩ | ⟨rfl, rfl⟩
  · obtain ⟨w', hw, rw'⟩ := RelO.some_of (v := v) (o := valueAt us k) (by rw [← hv]; exact rel.val k)
    exact wpAny_getItem_of (knd := noneKind X.prog X.w) (k := some k) (show nkIs (some k) u = true from kV_is (P := X.prog) (w := X.w) ry) dd.mapOf (by rw [value_some]; exact hw) (h w' _ (I.tok _) rw')
  · obtain rfl : u = Value.none := ry
    exact wpAny_getItem_of (knd := noneKind X.prog X.w) (k := none) rfl dd.mapOf (value_none us u0) (h u0 _ (I.tok _) r0)
theorem ndict_typeIs {y : V} (I : Inv X pins σ H s) (g : NGet H a y v) : s.TypeIs (.ref a) "dict" := by
  obtain ⟨vs, v0, e, g⟩ := g
  obtain ⟨⟨hd, us, u0, rel, r0, dd⟩, _, _⟩ := I.hok a _ e
  exact (dd X.prog X.w).typeIs
end
section
variable {X : Cx} {a b o : Expr} {ma mb : ME DV} {pos : Pos}
def tNGet (td ty : TE) : TE := fun σ H Q => td σ H fun x H1 => ty σ H1 fun y H2 => ∃ a v, x = .ref a ∧ NGet H2 a y v ∧ Q v H2
theorem pe_nget {td ty : TE} (ho : PE X o td) (hi : PE X a ty) (hs : NoSl a) : PE X (.Subscript o a pos) (tNGet td ty) := by
  refine ⟨fun pins s σ H Q I h => ?_⟩
  refine subD_of PySem.F.slot_dict_getitem.lookup hs (thn (ho.run pins s σ H _ I h) fun u s1 ⟨x, H1, I1, rx, q1⟩ => thn (hi.run pins s1 σ H1 _ I1 q1) fun iv s2 ⟨y, H2, I2, ry, a, v, ex, g, q2⟩ => ?_)
  subst ex
  obtain rfl : u = Value.ref a := rx
  exact ⟨ndict_typeIs I2 g, d_getN I2 g ry fun w' s3 I3 rw' => ⟨v, H2, I3, rw', q2⟩⟩
/-- d[k], None may be among the keys -/
def gNGet : G2 := fun x y st => match x with
  | .ref l => match st[l]? with
    | some (.dcn kvs d) => match y with
      | .non => some (d, st)
      | y => match keyD y with
        | some k => (valD kvs k).map (·, st)
        | none => none
    | _ => none
  | _ => none
theorem de_nget (ha : DE X a ma) (hb : DE X b mb) (hs : NoSl b := by intro _ _; rfl) : DE X (.Subscript a b pos) (mBin gNGet ma mb) := by
  refine pe_imp (pe_nget ha hb hs) fun σ H Q ⟨e, st, μ, d, st', he, hs, hm, hq⟩ => ?_
  obtain ⟨x, st1, h1, hm⟩ := bind_some hm
  obtain ⟨y, st2, h2, hm⟩ := bind_some hm
  refine ⟨e, st, μ, x, st1, he, hs, h1, fun H1 μ1 v x1 hs1 rv => ?_⟩
  refine ⟨e, st1, μ1, y, st2, he.ext x1, hs1, h2, fun H2 μ2 w x2 hs2 rw' => ?_⟩
  unfold gNGet at hm
  clear h1 h2
  split at hm
  · rename_i l _
    split at hm
    · rename_i kvs d0 e1
      cases rv with
      | @ref _ ad hl =>
        have c := hs2.cell l ad _ (x2.at hl) e1
        cases c with
        | @dcn _ vs _ v0 _ h3 rk rd =>
          split at hm
          · cases hm
            cases rw'
            exact ⟨ad, v0, rfl, ⟨vs, v0, h3, .inr ⟨rfl, rfl⟩⟩, hq H2 μ2 v0 (x1.trans x2) hs2 rd⟩
          · split at hm
            · rename_i k e2
              have ek := key_of rw' e2
              subst ek
              rcases val_of k rk with ⟨q1, q2⟩ | ⟨d', v', q1, q2, q3⟩
              · rw [q1] at hm; cases hm
              · rw [q1] at hm
                cases hm
                exact ⟨ad, v', rfl, ⟨vs, v0, h3, .inl ⟨k, rfl, q2⟩⟩, hq H2 μ2 v' (x1.trans x2) hs2 q3⟩
            · cases hm
    · cases hm
  · cases hm
/-! ### d[None] = v, the keys so far numbers -/
def gSetN (x d : DV) (st : Sto) : Option Sto := match x with
  | .ref l => match st[l]? with
    | some (.dct kvs) => if kvs.length < LIM ∧ (kvs.all fun kv => isL kv.1) = true then some (st.set l (.dcn kvs d)) else none
    | _ => none
  | _ => none
def tgIN (mx my : ME DV) : MG := fun d e st => match mx e st with
  | none => none
  | some (x, st1) => match my e st1 with
    | some (.non, st2) => match gSetN x d st2 with
      | none => none
      | some st3 => some (e, st3)
    | _ => none
def tSetN (K : PySem.W.Frag) : TSet := fun o i v H Q => ∃ st μ x d st', RS K H μ st ∧ RV K H μ x o ∧ i = .non ∧ RV K H μ d v ∧ gSetN x d st = some st' ∧ ∀ H', Ext H μ H' μ → RS K H' μ st' → Q H'
theorem rks_isL {K : PySem.W.Frag} {H : Hp} {μ : List Addr} : ∀ {ds : List (Key × DV)} {vs : List (Key × V)}, RKs K H μ ds vs → (ds.all fun kv => isL kv.1) = true → (vs.all fun kv => isL kv.1) = true
  | _, _, .nil, _ => rfl
  | _, _, .cons r rs, h => by
    simp only [List.all_cons, Bool.and_eq_true] at h ⊢
    exact ⟨h.1, rks_isL rs h.2⟩
theorem set_none : PSet X (tSetN X.K) := by
  intro pins s σ H o i v ov iv u Q I ro ri rv ⟨st, μ, x, d, st', hs, rx, ei, rd, hg, hq⟩
  subst ei
  unfold gSetN at hg
  split at hg
  · rename_i l
    cases rx with
    | @ref _ ad hl =>
      split at hg
      · rename_i kvs e1
        split at hg
        · rename_i hz
          cases hg
          have c := hs.cell l ad _ hl e1
          cases c with
          | @dct _ ws _ h z rk =>
            have n1 : ∀ xs, HO.dK ws ≠ .tup xs := fun xs q => by cases q
            have n2 : ∀ ob w, HO.dK ws ≠ .frz ob w := fun ob w q => by cases q
            have x1 : Ext H μ (upd H ad (.ext (NDict ad ws v))) μ := ext_write h (List.mem_of_getElem? hl) n1 n2
            cases ro
            obtain rfl : iv = Value.none := ri
            have hz' : ws.length < sizeLine := by rw [← rk.length]; exact lim_lt hz.1
            refine d_setNone I h (rks_isL rk hz.2) hz' rv fun s' I' => ⟨_, I', hq _ x1 ?_⟩
            exact hs.write hl h n1 n2 (.dcn upd_same (rk.ext x1) (rd.ext x1))
        · cases hg
      · cases hg
  · cases hg
theorem dg_subN (ho : DE X o ma) (hi : DE X a mb) (hs : ∀ v, assign (.Subscript o a pos) X.env v = (do
      let ov ← holding [v] (eval o X.env)
      let iv ← holding [v, ov] (eval a X.env)
      standAt pos
      holding [v, ov, iv] (setItem ov iv v)
      release [v, ov, iv] []) := by intro _; rfl) : DG X (.Subscript o a pos) (tgIN ma mb) :=
  pg_imp (pg_sub ho hi set_none hs) fun v σ H Q ⟨e, st, μ, d, e', st', he, hs, hv, hg, hq⟩ => by
    unfold tgIN at hg
    split at hg
    · cases hg
    · rename_i x st1 h1
      split at hg
      · rename_i st2 h2
        split at hg
        · cases hg
        · rename_i st3 h3
          cases hg
          refine ⟨e, st, μ, x, st1, he, hs, h1, fun H1 μ1 w x1 hs1 rw' => ⟨e, st1, μ1, .non, st2, he.ext x1, hs1, h2, fun H2 μ2 w2 x2 hs2 rw2 => ?_⟩⟩
          cases rw2
          exact ⟨st2, μ2, x, d, _, hs2, rw'.ext x2, rfl, (hv.ext x1).ext x2, h3, fun H3 x3 hs3 => hq σ H3 μ2 (x1.trans (x2.trans x3)) (he.ext (x1.trans (x2.trans x3))) hs3⟩
      · cases hg
end
end DL

/-! DS1: sets made of lists. -/
namespace DL
open PySem PySem.Calls PySem.Spec PyProof.Rows L2

/-- a set's object, empty -/
def nset (w : World) : Obj := { cls := .type "set", dict := none, data := .set #[] 0 (.fresh 0 0 (!w.params.followText "set-order")) }
def lIt (l : Addr) : Obj := { cls := .type "list_iterator", data := .fields #[.ref l, .int 0 0] }
section
variable {P : Program} {w : World} {A : Around} {E : Value → Shared → Prop} {s : Shared}
/-- the heap ahead of the loop -/
def hp2 (w : World) (h : Heap) (l : Addr) : Heap := (h.push (nset w)).push (lIt l)
/-- what the loop moves -/
structure Mvd (s1 s2 : Shared) (n : Nat) : Prop where
  gens : s2.gens = s1.gens
  drawn : s2.drawn = s1.drawn
  os : s2.os = s1.os
  heap : ∀ b o, b < n → s1.heap.get? b = some o → s2.heap.get? b = some o
theorem call_set_lst {l : Addr} {items : Array Value} {Q : Value → Shared → Prop} (hl : s.heap.IsList l items) (Post : Heap → Prop)
    (hloop : ∀ R : Result → Shared → Prop, (∀ s', Mvd { s with heap := hp2 w s.heap l } s' s.heap.objs.size → Post s'.heap → R (.ok (.ret .none)) s') → codeAny (model P w) A.in1.in1 (.builtin "set.update.loop" ⟨[.ref s.heap.objs.size, .ref (s.heap.push (nset w)).objs.size], []⟩) R { s with heap := hp2 w s.heap l })
    (h : ∀ (h' : Heap) (tk : Nat), Post h' → (∀ b o, s.heap.get? b = some o → h'.get? b = some o) → Q (.ref s.heap.objs.size) { s with heap := h', toks := tk }) :
    wpAny (model P w) A (call (.type "set") [.ref l]) Q E s := by
  obtain ⟨c, tl, hmro⟩ := F.called_set.mro; have hmade := F.called_set.made; have hsub := F.called_set.sub
  refine wpAny_call (codeAny_of_tree ?_)
  show wpAny _ _ (callAny (Value.type "set") _) _ _ _
  refine (wpAny_pure ⟨Code.quiet_builtin _ (by decide +kernel), codeAny_builtin F.entry_type_call ?_⟩)
  rw [(Around.under_plain (weight_type_call_type "set" [.ref l] []) rfl)]
  have h1 := F.called_set.notType
  have h2 := F.called_set.canCreate; have hct := F.typeCall_set_1 (.ref l)
  repeat (any_goals first | assumption | wp_step)
  refine codeAny_mono (code_set_led1 (.ref l) (E := E) (Q₁ := fun x y => x = .ref s.heap.objs.size ∧ y = { s with heap := s.heap.push (nset w) }) ⟨rfl, rfl⟩) fun r s₁ hr => ?_
  cases r with
  | error e => exact hr
  | ok fl =>
  cases fl with
  | ret obj =>
    obtain ⟨rfl, rfl⟩ := hr
    have hS : (s.heap.push (nset w)).get? s.heap.objs.size = some (nset w) := Heap.get?_push_size _ rfl
    have hT : Shared.TypeIs { s with heap := s.heap.push (nset w) } (.ref s.heap.objs.size) "set" := ⟨_, hS, rfl⟩
    have hli := F.called_set.init.lookup; have hbi := F.called_set.init.bind (.ref s.heap.objs.size)
    repeat (any_goals first | assumption | wp_step)
    refine codeAny_mono (codeAny_call_builtin (R := wants (fun r y => r = .none ∧ ∃ h' tk, y = { s with heap := h', toks := tk } ∧ Post h' ∧ (∀ b o, s.heap.get? b = some o → h'.get? b = some o)) E) F.called_set.init.plain F.entry_set_init (check_set_init_1 hT ?_)) fun r₂ s₂ hr₂ => ?_
    · obtain ⟨⟨ocls, odict, odata, oslots⟩, hol, hcl, nl, hdl⟩ := hl
      simp only at hcl hdl; subst hcl hdl
      have hol' : (s.heap.push (nset w)).get? l = some { cls := .type "list", dict := odict, data := .seq items nl, slots := oslots } := Heap.get?_push_of_some _ hol
      have hsls := F.sub_list_set; have hslf := F.sub_list_frozenset
      have hne : (Value.type "list" == Value.type "dict") = false := by decide
      have hl1 : (s.heap.push (nset w)).IsList l items := ⟨_, hol', rfl, nl, rfl⟩
      unfold Builtin.«set.__init__» noKeywords Builtin.Frozenset.updateFrom
      generalize hPI : pyIter = PI
      wp_walk
      subst hPI
      refine wpAny_pyIter_list hl1 ?_
      refine wpAny_bind (wpAny_runValue (hloop _ fun s' mv hp => ?_))
      obtain ⟨h', g2, d', tk', os'⟩ := s'
      obtain ⟨eg, ed, eo, hk⟩ := mv
      simp only at eg ed eo hk hp
      subst eg ed eo
      show wpAny _ _ _ _ _ _
      refine wpAny_pure ?_
      show wpAny _ _ (ret Value.none) _ _ _
      exact wpAny_pure ⟨rfl, h', tk', rfl, hp, fun b o e => hk b o (Heap.lt_size e) (Heap.get?_push_of_some _ (Heap.get?_push_of_some _ e))⟩
    · cases r₂ with
      | error e => exact hr₂
      | ok fl₂ =>
        cases fl₂ with
        | ret r =>
          obtain ⟨rfl, h', tk, rfl, hp, hk'⟩ := hr₂
          repeat (any_goals first | assumption | wp_step)
          exact h _ _ hp hk'
        | _ => exact hr₂.elim
  | _ => exact hr.elim
end
end DL

/-! DS2: sets of ints, sorted. -/
namespace DL
open PySem PySem.Calls PySem.Spec PyProof.Rows L2
section
variable {P : Program} {w : World} {A : Around} {E : Value → Shared → Prop} {s : Shared}
/-- set(xs), xs a list of ints -/
theorem call_set_lstI {l : Addr} {items : Array Value} (ns : List Int) {Q : Value → Shared → Prop} (hh : A.handled = none) (hl : s.heap.IsList l items) (hit : IntsAre items.toList ns) (hb : ns.length + 1 < scanBound)
    (h : ∀ (h' : Heap) (tk c : Nat), SetR w h' s.heap.objs.size (fun j => decide (j ∈ ns)) c → (∀ b o, s.heap.get? b = some o → h'.get? b = some o) → Q (.ref s.heap.objs.size) { s with heap := h', toks := tk }) :
    wpAny (model P w) A (call (.type "set") [.ref l]) Q E s := by
  have hisz : items.size = ns.length := by have q := IntsAre.length hit; rwa [Array.length_toList] at q
  refine call_set_lst hl (fun h' => ∃ c, SetR w h' s.heap.objs.size (fun j => decide (j ∈ ns)) c) (fun R hR => ?_) fun h' tk ⟨c, hs⟩ k => h h' tk c hs k
  have hlS : l < s.heap.objs.size := by obtain ⟨o, ho, _⟩ := hl; exact Heap.lt_size ho
  have hh3 : A.in1.in1.in1.handled = none := by simp [hh]
  have hl2 : (hp2 w s.heap l).IsList l items := (hl.push _).push _
  have hneI : l ≠ (s.heap.push (nset w)).objs.size := by rw [Heap.size_push]; exact Nat.ne_of_lt (Nat.lt_succ_of_lt hlS)
  have hSf : s.heap.objs.size ∉ [(s.heap.push (nset w)).objs.size, l] := by
    rw [Heap.size_push]
    intro q
    rcases List.mem_cons.mp q with q | q
    · exact absurd q (Nat.ne_of_lt (Nat.lt_succ_self _))
    · rw [List.mem_singleton] at q; exact absurd q (Nat.ne_of_gt hlS)
  have hval : ∀ (i : Nat) (v : Value), items[i]? = some v → ∃ k t, ns[i]? = some k ∧ v = .int k t := fun i v hv => by
    have hi : i < ns.length := by rw [← hisz]; exact (Array.getElem?_eq_some_iff.mp hv).1
    obtain ⟨t, e⟩ := IntsAre.int_at hit i v (by rw [Array.getElem?_toList]; exact hv)
    exact ⟨ns[i], t, List.getElem?_eq_getElem hi, by rw [e, List.getD_eq_getElem?_getD, List.getElem?_eq_getElem hi]; rfl⟩
  have hget : (hp2 w s.heap l).get? s.heap.objs.size = some (nset w) := Heap.get?_push_of_some _ (Heap.get?_push_size _ rfl)
  refine set_update_ints ((Walks.list hh3 _ l hneI items).toS) s.heap.objs.size hSf ns hisz hb hval (items.size - 0) 0 _ (by omega) (Nat.zero_le _) ⟨⟨_, Heap.get?_push_size _ rfl, rfl, rfl⟩, hl2⟩ ⟨0, Nat.le_refl 0, setR_new_at hget⟩ fun s' c' hm hc' hS' => hR s' ⟨hm.gens, hm.drawn, hm.os, fun b o hb e => ?_⟩ ⟨c', hS'⟩
  refine hm.heap b o (fun q => ?_) e
  rcases List.mem_cons.mp q with q | q
  · exact absurd q (Nat.ne_of_lt hb)
  · rw [List.mem_singleton, Heap.size_push] at q; exact absurd q (Nat.ne_of_lt (Nat.lt_succ_of_lt hb))
end
/-! ### sorted(set(xs)), ints -/
def ddp : List Int → List Int
  | [] => []
  | x :: r => if x ∈ r then ddp r else x :: ddp r
theorem ddp_mem {x : Int} : ∀ {ns : List Int}, x ∈ ddp ns ↔ x ∈ ns
  | [] => Iff.rfl
  | y :: r => by
    unfold ddp
    by_cases h : y ∈ r
    · rw [if_pos h, ddp_mem, List.mem_cons]
      exact ⟨.inr, fun q => q.elim (fun e => by rw [e]; exact h) id⟩
    · rw [if_neg h, List.mem_cons, List.mem_cons, ddp_mem]
theorem ddp_nodup : ∀ ns : List Int, (ddp ns).Nodup
  | [] => List.nodup_nil
  | y :: r => by
    unfold ddp
    by_cases h : y ∈ r
    · rw [if_pos h]; exact ddp_nodup r
    · rw [if_neg h, List.nodup_cons]
      exact ⟨fun q => h (ddp_mem.mp q), ddp_nodup r⟩
theorem ddp_len : ∀ ns : List Int, (ddp ns).length ≤ ns.length
  | [] => Nat.le_refl _
  | y :: r => by
    unfold ddp
    have := ddp_len r
    split <;> simp only [List.length_cons] <;> omega
/-- the members, ascending -/
def usort (ns : List Int) : List Int := isort (ddp ns)
theorem usort_mem {x : Int} {ns : List Int} : x ∈ usort ns ↔ x ∈ ns := by unfold usort; rw [(isort_perm _).mem_iff, ddp_mem]
theorem usort_len (ns : List Int) : (usort ns).length ≤ ns.length := by unfold usort; rw [isort_len]; exact ddp_len ns
theorem usort_pw (ns : List Int) : (usort ns).Pairwise (· < ·) := by
  have h1 : (usort ns).Pairwise (· ≤ ·) := by
    exact isort_sorted (ddp ns)
  have h2 : (usort ns).Nodup := (isort_perm _).nodup_iff.mpr (ddp_nodup _)
  exact h1.imp₂ (fun a b q => by omega) h2
theorem pw_uniq : ∀ {l l' : List Int}, l.Pairwise (· < ·) → l'.Pairwise (· < ·) → (∀ x, x ∈ l ↔ x ∈ l') → l = l'
  | [], [], _, _, _ => rfl
  | [], b :: l', _, _, h => by have := (h b).mpr List.mem_cons_self; cases this
  | a :: l, [], _, _, h => by have := (h a).mp List.mem_cons_self; cases this
  | a :: l, b :: l', h1, h2, h => by
    rw [List.pairwise_cons] at h1 h2
    have e : a = b := by
      rcases List.mem_cons.mp ((h a).mp List.mem_cons_self) with q | q
      · exact q
      · have := h2.1 a q
        rcases List.mem_cons.mp ((h b).mpr List.mem_cons_self) with r | r
        · exact r.symm
        · have := h1.1 b r; omega
    subst e
    rw [pw_uniq h1.2 h2.2 fun x => ?_]
    constructor
    · intro hx
      rcases List.mem_cons.mp ((h x).mp (List.mem_cons_of_mem _ hx)) with q | q
      · have := h1.1 x hx; omega
      · exact q
    · intro hx
      rcases List.mem_cons.mp ((h x).mpr (List.mem_cons_of_mem _ hx)) with q | q
      · have := h2.1 x hx; omega
      · exact q
theorem sorted_setI {X : Cx} {pins : List (Addr × Obj)} {σ : L2.St} {H : Hp} {s : Shared} {ns : List Int} {c : Nat} {a : Addr} {Q : VK} (hc : X.calm = true) (I1 : Inv X pins σ H s) (R : SetR X.w s.heap a (fun j => decide (j ∈ ns)) c) (hz : (usort ns).length < 64)
    (hq : ∀ l, H l = none → Q (.ref l) (upd H l (.lst ((usort ns).map V.int)))) : wpAny (model X.prog X.w) X.A (call (.builtin "sorted") [.ref a]) (EP X pins σ Q) X.xe s := by
  have hcn : c = (usort ns).length := by
    obtain ⟨o, es, ep, t, ho, hex, hd, hgood, hnd, hmem, hb, hf, hn, _, _⟩ := R
    have := nodup_len hnd ((usort_pw ns).imp fun q => by omega) fun j => by rw [← hmem j, usort_mem]; simp
    rw [List.length_map, Array.length_toList] at this
    omega
  refine sorted_set R (I1.ok.hd hc) (by omega) fun s' p out c' ns' k1 g o hp hg hi hs hm hl => ?_
  have e1 : ns' = usort ns := pw_uniq hs (usort_pw ns) fun x => by rw [hm, usort_mem]; simp
  subst e1
  have hlen : ((usort ns).map V.int).length ≤ sizeLine := by rw [List.length_map, sizeLine_eq]; omega
  have hn : H p = none := I1.hok.fresh hp
  have J : Inv X pins σ (upd H p (.lst ((usort ns).map V.int))) { s with heap := s'.heap, gens := s'.gens, drawn := s'.drawn, toks := s'.toks } :=
    I1.call (ch := []) (Un.laid k1 hp hn) (I1.hok.laid k1 hp ⟨hlen, out.toList, c', vals_of_ints hi, hg⟩) (by rw [g]; exact I1.bare) (fun _ z => nomatch z)
  have e : s' = { s with heap := s'.heap, gens := s'.gens, drawn := s'.drawn, toks := s'.toks } := by
    obtain ⟨_, _, _, _, _⟩ := s'
    obtain ⟨_, _, _, _, _⟩ := s
    cases o
    rfl
  rw [e]
  exact ⟨.ref p, _, J, rfl, hq p hn⟩
/-- sorted(set(xs)), ints -/
def mSrtSet (m : ME (List DV)) : ME (List DV) := ME.bind m fun ds => fun _ st => match toIs ds with
  | some ns => if (usort ns).length < 64 ∧ ns.length ≤ 4000 then some ((usort ns).map DV.int, st) else none
  | none => none
section
variable {X : Cx} {e : Expr} {mq : ME (List DV)} {pos p : Pos}
theorem df_srtSet {p2 q : Pos} (hc : X.calm = true) (hm : X.mg "sorted" = none) (hm2 : X.mg "set" = none) (h : DQ X e mq) (hg : Gl X "sorted" := by rfl) (hg2 : Gl X "set" := by rfl) (na : starEach [e] X.env = (false, eval e X.env) :: starEach [] X.env := by rfl) : DF X (.Call (.Name "sorted" p) [.Call (.Name "set" p2) [e] [] q] [] pos) (mSrtSet mq) := by
  refine ⟨fun pins s σ H Q I ⟨e, st, μ, d, st', he, hs, hm', hq⟩ => ?_⟩
  obtain ⟨ds, st1, h1, hm'⟩ := bind_some hm'
  split at hm'
  case h_2 => cases hm'
  rename_i ns en
  split at hm'
  case isFalse => cases hm'
  rename_i hk
  cases hm'
  refine Call_ (ld_blt I hg hm boot_sorted ?_)
  refine callWith_builtin1 (PyProof.Rows.args_cons ?_ rfl) rfl rfl
  refine Call_ (ld_blt I hg2 hm2 boot_set ?_)
  refine callWith_type1 (PyProof.Rows.args_cons (thn (PE.run h pins s σ H (fun v H1 => ∃ ad, v = .ref ad ∧ (SqL X.K H1 ad (ns.map V.int) ∨ SqT X.K H1 ad (ns.map V.int)) ∧ ∀ l, H1 l = none → Q (.ref l) (upd H1 l (.lst ((usort ns).map V.int)))) I ⟨e, st, μ, _, _, he, hs, h1, fun H1 μ1 a vs x1 hs1 sq z rs => ?_⟩) fun u s1 ⟨v, H1, I1, r1, q1⟩ => PyProof.Rows.args_nil ?_) na) na rfl
  · refine ⟨a, rfl, by rw [← is_of rs en]; exact sq, fun l hl => ?_⟩
    obtain ⟨n1, n2⟩ := fresh_new x1 hs1 hl
    refine hq _ μ1 l _ (x1.trans (ext_new hl)) (hs1.new hl) n1 n2 upd_same ?_ (is_to _)
    rw [List.length_map, sizeLine_eq]
    omega
  · obtain ⟨ad, rfl, sq, q1⟩ := q1
    cases r1
    rcases sq with sq | sq
    · obtain ⟨its, rv, pl, hz⟩ := I1.list sq
      exact call_set_lstI ns (I1.ok.hd hc) pl.isList (by simpa using rv.ints) (by unfold scanBound; omega) fun h' tk c R k => PyProof.Rows.args_nil (sorted_setI hc (I1.kept fun b o e => k b o e) R hk.1 q1)
    · obtain ⟨its, rv, pt, hz⟩ := I1.tuple sq
      exact call_set_tupI ns (I1.ok.hd hc) (show s1.heap.IsTuple ad its.toArray from pt) (by simpa using rv.ints) (by unfold scanBound; omega) fun h' tk c R hcn k => PyProof.Rows.args_nil (sorted_setI hc (I1.kept fun b o e => k b o e) R hk.1 q1)
end
end DL

/-! DX1: zip, extend, min and max of a sequence, statements that nobody comes to. -/
namespace DL
open PySem PySem.Spec PyProof.Rows L2

section
variable {X : Cx} {a b c e o tg : Expr} {es : List Expr} {ma mb mc : ME DV} {mq : ME (List DV)} {pos p apos : Pos} {s : Stmt}
/-! ### a statement that nobody comes to -/
def sDead : MS := fun _ _ => none
theorem ds_dead : DS X s sDead := ⟨fun pins s σ H D I ⟨e, st, μ, o, he, hs, hm, hq⟩ => by cases hm⟩
/-! ### zip of two tuples -/
def zipD (xs ys : List DV) : List DV := (xs.zip ys).map fun p => .tup [p.1, p.2]
def itZ (ma mb : ME DV) : MI := ME.bind ma fun x => ME.bind mb fun y => fun _ st => match x, y with
  | .tup xs, .tup ys => some ((none, zipD xs ys), st)
  | _, _ => none
theorem zipD_get {xs ys : List DV} {i : Nat} {d : DV} (h : (zipD xs ys)[i]? = some d) : ∃ x y, xs[i]? = some x ∧ ys[i]? = some y ∧ d = .tup [x, y] := by
  unfold zipD at h
  rw [List.getElem?_map] at h
  obtain ⟨q, h1, rfl⟩ := Option.map_eq_some_iff.mp h
  rw [List.getElem?_zip_eq_some] at h1
  exact ⟨q.1, q.2, h1.1, h1.2, rfl⟩
theorem it_zip {K : PySem.W.Frag} {Hs H : Hp} {μ : List Addr} {a b : Addr} {xs ys : List DV} {vs us : List V} (sa : SqT K H a vs) (sb : SqT K H b us) (z : vs.length ≤ sizeLine) (ra : RVs K H μ xs vs) (rb : RVs K H μ ys us) : ItD K (RZ.ItzT K a b) none (zipD xs ys) Hs H μ := by
  have hlen : (zipD xs ys).length = min xs.length ys.length := by unfold zipD; rw [List.length_map, List.length_zip]
  refine ⟨by rw [hlen, ra.length]; omega, fun H1 μ1 st i x hs _ => ⟨fun d hd => ?_, fun hl => ⟨vs, us, x.sqt sa, x.sqt sb, ?_⟩⟩⟩
  · obtain ⟨dx, dy, h1, h2, rfl⟩ := zipD_get hd
    obtain ⟨v, g1, r1⟩ := (ra.ext2 x).get h1
    obtain ⟨u, g2, r2⟩ := (rb.ext2 x).get h2
    refine ⟨⟨vs, us, v, u, x.sqt sa, x.sqt sb, g1, g2⟩, fun y H' hy => ?_⟩
    obtain ⟨T, v', u', rfl, hT, rfl, q1, q2⟩ := hy
    have e1 := q1 vs (x.sqt sa)
    have e2 := q2 us (x.sqt sb)
    rw [g1] at e1
    rw [g2] at e2
    cases e1
    cases e2
    have x1 : Ext H1 μ1 (upd H1 T (.tup [v, u])) μ1 := ext_new hT
    exact ⟨x1, hs.new hT, .tup (SqT.of upd_same) (by show (2 : Nat) ≤ sizeLine; rw [sizeLine_eq]; omega) (.cons (r1.ext x1) (.cons (r2.ext x1) .nil))⟩
  · rw [hlen, ra.length, rb.length] at hl
    omega
theorem di_zip {elts : List Expr} {kk : Nat} {tpos : Pos} (hm : X.mg "zip" = none) (ha : DE X a ma) (hb : DE X b mb) (hg : Gl X "zip" := by rfl)
    (hs : starEach [a, b] X.env = (false, eval a X.env) :: starEach [b] X.env := by rfl) (hs2 : starEach [b] X.env = (false, eval b X.env) :: starEach [] X.env := by rfl) (hpl : (backTo pos (starEach [b] X.env)).any (·.1) = false := by rfl) : DI X (.Tuple elts kk tpos) (.Call (.Name "zip" p) [a, b] [] pos) (itZ ma mb) :=
  pi_imp (RZ.pi_zipA hg hm (pa_cons ha (pa_cons hb pa_nil hs2) hs) hs hpl) fun σ H R ⟨en, st, μ, sr, ds, st', he, hs, hm, hq⟩ => by
    obtain ⟨x, st1, h1, hm⟩ := bind_some hm
    obtain ⟨y, st2, h2, hm⟩ := bind_some hm
    split at hm
    · cases hm
      refine ⟨en, st, μ, _, st1, he, hs, h1, fun H1 μ1 v x1 hs1 rv => ⟨en, st1, μ1, _, _, he.ext x1, hs1, h2, fun H2 μ2 w x2 hs2 rw' => ?_⟩⟩
      cases rv with
      | @tup a' _ vs sa za ra =>
        cases rw' with
        | @tup b' _ us sb zb rb =>
          exact ⟨a', b', vs, us, rfl, .inr ⟨x2.sqt sa, sb, hq H2 μ2 _ (x1.trans x2) hs2 (it_zip (x2.sqt sa) sb za (ra.ext x2) rb)⟩⟩
    · cases hm
/-! ### a sign in a text -/
def gInS : G2 := fun x y st => match x, y with
  | .str c, .str z => match c.cps.toList with
    | [k] => some (.bl (decide (k ∈ z.cps.toList)), st)
    | _ => none
  | _, _ => none
theorem od_inS : OpD X (compareOp .In) gInS := by
  intro pins s σ H x y v u Q I rx ry ⟨st, μ, dx, dy, d, st', hs, r1, r2, hg, hq⟩
  unfold gInS at hg
  split at hg
  · rename_i c z
    split at hg
    · rename_i k hk
      cases hg
      cases r1
      cases r2
      have ec : c = ⟨#[k]⟩ := by
        obtain ⟨⟨l⟩⟩ := c
        simp only at hk
        subst hk
        rfl
      subst ec
      exact op_in_sign pins s σ H _ _ v u Q I rx ry ⟨k, z, rfl, rfl, hq H μ _ Ext.refl hs (.bl _)⟩
    · cases hg
  · cases hg
/-! ### xs.extend(ys) -/
def mExt (mo : ME DV) (mq : ME (List DV)) : ME DV := ME.bind mo fun x => fun e st => match itemsOf st x with
  | some _ => (ME.bind mq fun ys => fun _ st1 => match x with
    | .ref l => match st1[l]? with
      | some (.lst ds) => if ds.length + ys.length ≤ LIM then some (.non, st1.set l (.lst (ds ++ ys))) else none
      | _ => none
    | _ => none) e st
  | none => none
theorem de_ext (ho : DE X o ma) (he : DF X e mq) (hbase : attributeBase o "extend" X.env (eval o X.env) = eval o X.env := by rfl)
    (hfew : ((backTo pos (starEach (e :: []) X.env)).all (fun x => !x.1) && (backToKw pos (keywordEach [] X.env)).all (fun x => x.1.isSome) && decide ((e :: []).length + ([] : List Keyword).length + (if ([] : List Keyword).isEmpty then 0 else 1) < 30)) = true := by rfl)
    (hline : (apos.endLine == pos.line) = true := by rfl) (hs : starEach (e :: []) X.env = (false, eval e X.env) :: starEach [] X.env := by rfl) (hplain : (backTo pos (starEach [] X.env)).any (·.1) = false := by rfl) : DE X (.Call (.Attribute o "extend" apos) [e] [] pos) (mExt ma mq) := by
  refine pe_imp (pe_bm PySem.F.plainAttrs_list PySem.F.slot_list_extend PySem.F.type_list_extend mt_extend ho (pa_cons he pa_nil hs) hbase hfew hline hs hplain) fun σ H Q ⟨e, st, μ, d, st', he, hs, hm, hq⟩ => ?_
  obtain ⟨x, st1, h1, hm⟩ := bind_some hm
  split at hm
  case h_2 => cases hm
  rename_i ds0 e0
  obtain ⟨ys, st2, h2, hm⟩ := bind_some hm
  split at hm
  case h_2 => cases hm
  rename_i l _
  split at hm
  case h_2 => cases hm
  rename_i ds e1
  split at hm
  case isFalse => cases hm
  rename_i hz
  cases hm
  refine ⟨e, st, μ, _, st1, he, hs, h1, fun H1 μ1 v x1 hs1 rv => ?_⟩
  cases rv with
  | @ref _ ad hl =>
    obtain ⟨vs0, h0, _, _⟩ := lst_read hs1 e0 hl
    refine ⟨bm_ty h0, e, st1, μ1, ys, st2, he.ext x1, hs1, h2, fun H2 μ2 bd ws x2 hs2 n1 n2 hb zb rb => ?_⟩
    have c := hs2.cell l ad _ (x2.at hl) e1
    cases c with
    | @lst _ vs _ h z rs =>
      have m1 : ∀ xs, HO.lst vs ≠ .tup xs := fun xs q => by cases q
      have m2 : ∀ ob w, HO.lst vs ≠ .frz ob w := fun ob w q => by cases q
      have x3 : Ext H2 μ2 (upd H2 ad (.lst (vs ++ ws))) μ2 := ext_write h (List.mem_of_getElem? (x2.at hl)) m1 m2
      have hz' : vs.length + ws.length ≤ sizeLine := by rw [← rs.length, ← rb.length]; exact lim_ok hz
      refine ⟨ad, bd, vs, ws, rfl, rfl, h, hb, hz', hq _ μ2 .non (x1.trans (x2.trans x3)) (hs2.write (x2.at hl) h m1 m2 (.lst upd_same (by rw [List.length_append]; exact hz') ((rs.ext x3).append (rb.ext x3)))) .non⟩
/-- the list a cell of its own -/
def mExtV (mo me : ME DV) : ME DV := ME.bind mo fun x => fun e st => match itemsOf st x with
  | some _ => (ME.bind me fun y => fun _ st1 => match x, y with
    | .ref l, .ref m => match st1[l]?, st1[m]? with
      | some (.lst ds), some (.lst ys) => if ds.length + ys.length ≤ LIM then some (.non, st1.set l (.lst (ds ++ ys))) else none
      | _, _ => none
    | _, _ => none) e st
  | none => none
theorem de_extV (ho : DE X o ma) (he : DE X e mb) (hbase : attributeBase o "extend" X.env (eval o X.env) = eval o X.env := by rfl)
    (hfew : ((backTo pos (starEach (e :: []) X.env)).all (fun x => !x.1) && (backToKw pos (keywordEach [] X.env)).all (fun x => x.1.isSome) && decide ((e :: []).length + ([] : List Keyword).length + (if ([] : List Keyword).isEmpty then 0 else 1) < 30)) = true := by rfl)
    (hline : (apos.endLine == pos.line) = true := by rfl) (hs : starEach (e :: []) X.env = (false, eval e X.env) :: starEach [] X.env := by rfl) (hplain : (backTo pos (starEach [] X.env)).any (·.1) = false := by rfl) : DE X (.Call (.Attribute o "extend" apos) [e] [] pos) (mExtV ma mb) := by
  refine pe_imp (pe_bm PySem.F.plainAttrs_list PySem.F.slot_list_extend PySem.F.type_list_extend mt_extend ho (pa_cons he pa_nil hs) hbase hfew hline hs hplain) fun σ H Q ⟨e, st, μ, d, st', he, hs, hm, hq⟩ => ?_
  obtain ⟨x, st1, h1, hm⟩ := bind_some hm
  split at hm
  case h_2 => cases hm
  rename_i ds0 e0
  obtain ⟨y, st2, h2, hm⟩ := bind_some hm
  split at hm
  case h_2 => cases hm
  rename_i l m _
  split at hm
  case h_2 => cases hm
  rename_i ds ys e1 e2
  split at hm
  case isFalse => cases hm
  rename_i hz
  cases hm
  refine ⟨e, st, μ, _, st1, he, hs, h1, fun H1 μ1 v x1 hs1 rv => ?_⟩
  cases rv with
  | @ref _ ad hl =>
    obtain ⟨vs0, h0, _, _⟩ := lst_read hs1 e0 hl
    refine ⟨bm_ty h0, e, st1, μ1, _, st2, he.ext x1, hs1, h2, fun H2 μ2 w x2 hs2 rw' => ?_⟩
    cases rw' with
    | @ref _ bd hb =>
      have c := hs2.cell l ad _ (x2.at hl) e1
      have c2 := hs2.cell m bd _ hb e2
      cases c with
      | @lst _ vs _ h z rs =>
        cases c2 with
        | @lst _ ws _ h' z' rb =>
          have m1 : ∀ xs, HO.lst vs ≠ .tup xs := fun xs q => by cases q
          have m2 : ∀ ob w, HO.lst vs ≠ .frz ob w := fun ob w q => by cases q
          have x3 : Ext H2 μ2 (upd H2 ad (.lst (vs ++ ws))) μ2 := ext_write h (List.mem_of_getElem? (x2.at hl)) m1 m2
          have hz' : vs.length + ws.length ≤ sizeLine := by rw [← rs.length, ← rb.length]; exact lim_ok hz
          refine ⟨ad, bd, vs, ws, rfl, rfl, h, h', hz', hq _ μ2 .non (x1.trans (x2.trans x3)) (hs2.write (x2.at hl) h m1 m2 (.lst upd_same (by rw [List.length_append]; exact hz') ((rs.ext x3).append (rb.ext x3)))) .non⟩
end
/-! ### min, max of ints -/
section
variable {prog : Program} {w : World} {A : Around} {E : Value → Shared → Prop} {s : Shared} {l : Addr} {its : List Value} {ns : List Int}
theorem tup_iter {Q : Value → Shared → Prop} {items : Array Value} (hl : s.heap.IsTuple l items)
    (h : ∀ s₂ : Shared, s₂ = { s with heap := s.heap.push { cls := .type "tuple_iterator", data := .fields #[.ref l, .int 0 0] } } →
      (s₂.heap.IsTupleIter s.heap.objs.size l 0 ∧ s₂.heap.IsTuple l items) → (∀ b ∈ [s.heap.objs.size, l], b < s₂.heap.objs.size) → l ≠ s.heap.objs.size → Q (.ref s.heap.objs.size) s₂) :
    wpAny (model prog w) A (pyIter (.ref l)) Q E s := by
  have hlt : l < s.heap.objs.size := by obtain ⟨_, e, _⟩ := hl; exact Heap.lt_size e
  refine wpAny_pyIter_tuple hl (h _ rfl ⟨⟨_, Heap.get?_push_size _ rfl, rfl, rfl⟩, hl.push _⟩ (fun b hb => ?_) (Nat.ne_of_lt hlt))
  show b < (s.heap.push _).objs.size
  rw [Heap.size_push]
  simp only [List.mem_cons, List.not_mem_nil, or_false] at hb
  rcases hb with rfl | rfl
  · exact Nat.lt_succ_self _
  · exact Nat.lt_succ_of_lt hlt
theorem tup_kept {o : Obj} {h' : Heap} (hk : ∀ b u, b ∉ [s.heap.objs.size] → (s.heap.push o).get? b = some u → h'.get? b = some u) : ∀ b u, s.heap.get? b = some u → h'.get? b = some u := fun b u e => by
  refine hk b u (fun hm => ?_) (Heap.get?_push_of_some _ e)
  rw [List.mem_singleton.mp hm] at e
  exact Nat.lt_irrefl _ (Heap.lt_size e)
theorem tup_min {Q : Value → Shared → Prop} (hh : A.handled = none) (hl : s.heap.IsTuple l its.toArray) (hi : IntsAre its ns) (hne : 0 < ns.length)
    (h : ∀ h' tk M t', (∀ b o, s.heap.get? b = some o → h'.get? b = some o) → M ∈ ns → (∀ a, a ∈ ns → M ≤ a) → Q (.int M t') { s with heap := h', toks := tk }) : wpAny (model prog w) A (call (.builtin "min") [.ref l]) Q E s := by
  obtain ⟨xs, e⟩ := hi.allInts.items
  have hn : numsOf (intItems xs).toList = ns := by rw [← e]; exact hi.numsOf
  rw [nums_intItems] at hn
  subst hn
  rw [e] at hl
  have hsz : 0 < xs.size := by simpa using hne
  refine call_min_walk (tup_iter hl fun s₂ e st hfp hlI => ?_)
  subst e
  refine ⟨_, _, _, _, _, _, _, rfl, Walks.tuple (A := A.in1) hh _ l hlI (intItems xs), st, hfp, by simpa [intItems] using hsz, CmpOf.ints_lt (numAt xs) (fun _ _ => intItems_at), fun v h' tk hP hk => ?_⟩
  have hv : (intItems xs)[argBest (fun i j => decide (numAt xs i < numAt xs j)) (xs.size - 1)]? = some v := by simpa [intItems] using hP
  obtain ⟨t, rfl⟩ := intItems_at hv
  obtain ⟨h1, h2⟩ := argBest_lt (numAt xs) (xs.size - 1)
  refine h h' tk _ t (tup_kept hk) ?_ fun a ha => ?_
  · rw [numAt_eq]; exact PySem.getD_mem (by rw [List.length_map, Array.length_toList]; omega)
  · obtain ⟨j, hj, rfl⟩ := mem_getD ha
    have hj' : j < xs.size := by rwa [List.length_map, Array.length_toList] at hj
    (rw [← numAt_eq]); exact (h2 j (by omega))
end
/-- the least one -/
def lowest : List Int → Option Int
  | [] => none
  | x :: r => some (r.foldl (fun a b => if b < a then b else a) x)
def highest : List Int → Option Int
  | [] => none
  | x :: r => some (r.foldl (fun a b => if a < b then b else a) x)
theorem fold_low : ∀ (r : List Int) (x : Int), (r.foldl (fun a b => if b < a then b else a) x ∈ x :: r) ∧ ∀ y ∈ x :: r, r.foldl (fun a b => if b < a then b else a) x ≤ y
  | [], x => ⟨List.mem_cons_self, fun y hy => by rw [List.mem_singleton.mp hy]; exact Int.le_refl _⟩
  | z :: r, x => by
    obtain ⟨h1, h2⟩ := fold_low r (if z < x then z else x)
    rw [List.foldl_cons]
    refine ⟨?_, fun y hy => ?_⟩
    · rcases List.mem_cons.mp h1 with q | q
      · rw [q]; split <;> simp
      · exact List.mem_cons_of_mem _ (List.mem_cons_of_mem _ q)
    · have hx := h2 _ List.mem_cons_self
      rcases List.mem_cons.mp hy with rfl | hy
      · split at hx <;> split <;> omega
      · rcases List.mem_cons.mp hy with rfl | hy
        · split at hx <;> split <;> omega
        · exact h2 y (List.mem_cons_of_mem _ hy)
theorem fold_high : ∀ (r : List Int) (x : Int), (r.foldl (fun a b => if a < b then b else a) x ∈ x :: r) ∧ ∀ y ∈ x :: r, y ≤ r.foldl (fun a b => if a < b then b else a) x
  | [], x => ⟨List.mem_cons_self, fun y hy => by rw [List.mem_singleton.mp hy]; exact Int.le_refl _⟩
  | z :: r, x => by
    obtain ⟨h1, h2⟩ := fold_high r (if x < z then z else x)
    rw [List.foldl_cons]
    refine ⟨?_, fun y hy => ?_⟩
    · rcases List.mem_cons.mp h1 with q | q
      · rw [q]; split <;> simp
      · exact List.mem_cons_of_mem _ (List.mem_cons_of_mem _ q)
    · have hx := h2 _ List.mem_cons_self
      rcases List.mem_cons.mp hy with rfl | hy
      · split at hx <;> split <;> omega
      · rcases List.mem_cons.mp hy with rfl | hy
        · split at hx <;> split <;> omega
        · exact h2 y (List.mem_cons_of_mem _ hy)
theorem low_of {ns : List Int} {m : Int} (h1 : m ∈ ns) (h2 : ∀ y ∈ ns, m ≤ y) : lowest ns = some m := by
  cases ns with
  | nil => cases h1
  | cons x r =>
    obtain ⟨g1, g2⟩ := fold_low r x
    have a := g2 m h1
    have b := h2 _ g1
    show some _ = some m
    congr 1
    omega
theorem high_of {ns : List Int} {m : Int} (h1 : m ∈ ns) (h2 : ∀ y ∈ ns, y ≤ m) : highest ns = some m := by
  cases ns with
  | nil => cases h1
  | cons x r =>
    obtain ⟨g1, g2⟩ := fold_high r x
    have a := g2 m h1
    have b := h2 _ g1
    show some _ = some m
    congr 1
    omega
def mMinS (m : ME (List DV)) : ME DV := ME.bind m fun ds => fun _ st => match toIs ds with
  | some ns => (lowest ns).map fun i => (.int i, st)
  | none => none
def mMaxS (m : ME (List DV)) : ME DV := ME.bind m fun ds => fun _ st => match toIs ds with
  | some ns => (highest ns).map fun i => (.int i, st)
  | none => none
def rMinQ (K : PySem.W.Frag) : List V → Hp → VK → Prop := fun vs H Q => ∃ (a : Addr) (ns : List Int), vs = [V.ref a] ∧ (SqL K H a (ns.map V.int) ∨ SqT K H a (ns.map V.int)) ∧ 0 < ns.length ∧ ∀ m, m ∈ ns → (∀ y, y ∈ ns → m ≤ y) → Q (.int m) H
section
variable {X : Cx} {e : Expr} {mq : ME (List DV)} {pos p : Pos}
theorem cr_minQ (hc : X.calm = true) : CallR X (.builtin "min") (rMinQ X.K) := by
  intro pins s σ H vs us Q I r h
  obtain ⟨a, ns, rfl, hs, hne, q⟩ := h
  rcases hs with hs | hs
  · exact cr_min hc pins s σ H _ us Q I r ⟨a, ns, rfl, hs, hne, q⟩
  · obtain ⟨its, rv, pt, hz⟩ := I.tuple hs
    rw [Vals.ref1 r]
    exact tup_min (I.ok.hd hc) (show s.heap.IsTuple a its.toArray from pt) (by simpa using rv.ints) hne fun h' tk m t' hk h1 h2 => ⟨.int _, H, I.kept hk, ⟨_, rfl⟩, q m h1 h2⟩
theorem de_minS (hc : X.calm = true) (hm : X.mg "min" = none) (h : DQ X e mq) (hg : Gl X "min" := by rfl) (hs : starEach [e] X.env = (false, eval e X.env) :: starEach [] X.env := by rfl) (hpl : (backTo pos (starEach [] X.env)).any (·.1) = false := by rfl) : DE X (.Call (.Name "min" p) [e] [] pos) (mMinS mq) := by
  refine pe_imp (pe_callB (cr_minQ hc) hg hm (by decide +kernel) (pa_cons h pa_nil hs) (he := hs) (hpl := hpl)) fun σ H Q ⟨e, st, μ, d, st', he, hs, hm, hq⟩ => ?_
  obtain ⟨ds, st1, h1, hm⟩ := bind_some hm
  split at hm
  case h_2 => cases hm
  rename_i ns en
  obtain ⟨i, hi, hm⟩ := Option.map_eq_some_iff.mp hm
  cases hm
  refine ⟨e, st, μ, ds, _, he, hs, h1, fun H1 μ1 a vs x1 hs1 sq z rs => ⟨a, ns, rfl, by rw [← is_of rs en]; exact sq, ?_, fun m h1 h2 => ?_⟩⟩
  · cases ns with
    | nil => cases hi
    | cons x r => simp
  · rw [low_of h1 h2] at hi
    cases hi
    exact hq H1 μ1 _ x1 hs1 (.int _)
theorem de_maxS (hc : X.calm = true) (hm : X.mg "max" = none) (h : DF X e mq) (hg : Gl X "max" := by rfl) (hs : starEach [e] X.env = (false, eval e X.env) :: starEach [] X.env := by rfl) (hpl : (backTo pos (starEach [] X.env)).any (·.1) = false := by rfl) : DE X (.Call (.Name "max" p) [e] [] pos) (mMaxS mq) := by
  refine pe_imp (pe_callB (cr_max hc) hg hm (by decide +kernel) (pa_cons h pa_nil hs) (he := hs) (hpl := hpl)) fun σ H Q ⟨e, st, μ, d, st', he, hs, hm, hq⟩ => ?_
  obtain ⟨ds, st1, h1, hm⟩ := bind_some hm
  split at hm
  case h_2 => cases hm
  rename_i ns en
  obtain ⟨i, hi, hm⟩ := Option.map_eq_some_iff.mp hm
  cases hm
  refine ⟨e, st, μ, ds, _, he, hs, h1, fun H1 μ1 a vs x1 hs1 n1 n2 ha z rs => ⟨a, ns, rfl, by rw [← is_of rs en]; exact SqL.of ha, ?_, fun m h1 h2 => ?_⟩⟩
  · cases ns with
    | nil => cases hi
    | cons x r => simp
  · rw [high_of h1 h2] at hi
    cases hi
    exact hq H1 μ1 _ x1 hs1 (.int _)
end
end DL

/-! PL1: the mirrors' own arithmetic: trims, steps, loops. -/
namespace DL
open PySem PySem.Spec PyProof.Rows L2

/-! ### what is left behind is cut off -/
def TrimOk (st : Sto) (d : DV) (st' : Sto) : Prop := st.length ≤ st'.length ∧ (∀ (l : Nat) (o : DO), l < st.length → st'[l]? = some o → st[l]? = some o ∨ ltO st.length o = true) ∧ ltD st.length d = true
open Classical in
noncomputable def trim (F : FM) : FM := fun ds st => match F ds st with
  | some (d, st') => if TrimOk st d st' then some (d, st'.take st.length) else none
  | none => none
theorem nrm_trim (F : FM) : NrmF F (trim F) := by
  intro ds st d st' h
  unfold trim at h
  split at h
  case h_2 => cases h
  rename_i d0 st0 h0
  split at h
  case isFalse => cases h
  rename_i ok
  cases h
  obtain ⟨h1, h2, h3⟩ := ok
  refine ⟨d, st0, h0, ?_⟩
  have e : st0.take st.length ++ st0.drop st.length = st0 := List.take_append_drop _ _
  have hl : (st0.take st.length).length = st.length := by rw [List.length_take]; omega
  have := Nrm.drop (st := st) (d := d) (st1 := st0.take st.length) (g := st0.drop st.length) hl (fun l o q => ?_) h3
  · rw [e] at this; exact this
  · have hlt : l < st.length := by
      have := (List.getElem?_eq_some_iff.mp q).1
      rw [hl] at this; exact this
    rw [List.getElem?_take_of_lt hlt] at q
    exact h2 l o hlt q
theorem trim_eq {F : FM} {ds : List DV} {st st1 g : Sto} {d : DV} (h : F ds st = some (d, st1 ++ g)) (hl : st1.length = st.length) (hc : ∀ (l : Nat) (o : DO), st1[l]? = some o → st[l]? = some o ∨ ltO st.length o = true) (hd : ltD st.length d = true) : trim F ds st = some (d, st1) := by
  unfold trim
  rw [h]
  have ok : TrimOk st d (st1 ++ g) := ⟨by rw [List.length_append]; omega, fun l o q h => by
    rw [List.getElem?_append_left (by omega)] at h
    exact hc l o h, hd⟩
  simp only [if_pos ok]
  rw [← hl, List.take_left]
theorem trim_pure {F : FM} {ds : List DV} {st g : Sto} {d : DV} (h : F ds st = some (d, st ++ g)) (hd : ltD st.length d = true) : trim F ds st = some (d, st) := trim_eq h rfl (fun _ _ q => .inl q) hd
theorem trim_same {F : FM} {ds : List DV} {st : Sto} {d : DV} (h : F ds st = some (d, st)) (hd : ltD st.length d = true) : trim F ds st = some (d, st) := trim_pure (g := []) (by rw [List.append_nil]; exact h) hd
open Classical in
/-- a new list is handed back -/
noncomputable def trimL (F : FM) : FM := fun ds st => match F ds st with
  | some (.ref l, st') => match st'[l]? with
    | some o => if st.length ≤ l ∧ (∀ (l : Nat) (o : DO), l < st.length → st'[l]? = some o → st[l]? = some o ∨ ltO st.length o = true) ∧ ltO st.length o = true then some (.ref st.length, st'.take st.length ++ [o]) else none
    | none => none
  | _ => none
theorem nrm_trimL (F : FM) : NrmF F (trimL F) := by
  intro ds st d st' h
  unfold trimL at h
  split at h
  case h_2 => cases h
  rename_i l st0 h0
  split at h
  case h_2 => cases h
  rename_i o ho
  split at h
  case isFalse => cases h
  rename_i ok
  cases h
  obtain ⟨h1, h2, h3⟩ := ok
  refine ⟨.ref l, st0, h0, ?_⟩
  have hlt0 := (List.getElem?_eq_some_iff.mp ho).1
  have e : st0.take st.length ++ st0.drop st.length = st0 := List.take_append_drop _ _
  have hl : (st0.take st.length).length = st.length := by rw [List.length_take]; omega
  have hg : (st0.drop st.length)[l - st.length]? = some o := by
    rw [List.getElem?_drop]
    have : st.length + (l - st.length) = l := by omega
    rw [this]; exact ho
  have := Nrm.one (st := st) (st1 := st0.take st.length) (g := st0.drop st.length) (l := l - st.length) (o := o) hl (fun l o q => ?_) hg h3
  · rw [e, hl] at this
    have e2 : st.length + (l - st.length) = l := by omega
    rw [e2] at this
    exact this
  · have hlt : l < st.length := by
      have := (List.getElem?_eq_some_iff.mp q).1
      rw [hl] at this; exact this
    rw [List.getElem?_take_of_lt hlt] at q
    exact h2 l o hlt q
theorem trimL_eq {F : FM} {ds : List DV} {st g : Sto} {l : Nat} {o : DO} (h : F ds st = some (.ref (st.length + l), st ++ g)) (hg : g[l]? = some o) (ho : ltO st.length o = true) : trimL F ds st = some (.ref st.length, st ++ [o]) := by
  unfold trimL
  rw [h]
  have e : (st ++ g)[st.length + l]? = some o := by
    rw [List.getElem?_append_right (Nat.le_add_right _ _), Nat.add_sub_cancel_left]; exact hg
  simp only [e]
  rw [if_pos ⟨Nat.le_add_right _ _, fun l o q h => .inl (by rw [List.getElem?_append_left q] at h; exact h), ho⟩, List.take_left]

mutual
theorem ltD_mono {n m : Nat} (h : n ≤ m) : ∀ {d : DV}, ltD n d = true → ltD m d = true
  | .non, _ => rfl
  | .bl _, _ => rfl
  | .int _, _ => rfl
  | .str _, _ => rfl
  | .tup xs, q => by simp only [ltD] at q ⊢; exact ltDs_mono h q
  | .ref l, q => by simp only [ltD, decide_eq_true_eq] at q ⊢; omega
  | .scr xs, q => by simp only [ltD] at q ⊢; exact ltDs_mono h q
theorem ltDs_mono {n m : Nat} (h : n ≤ m) : ∀ {d : List DV}, ltDs n d = true → ltDs m d = true
  | [], _ => rfl
  | x :: xs, q => by
    simp only [ltDs, Bool.and_eq_true] at q ⊢
    exact ⟨ltD_mono h q.1, ltDs_mono h q.2⟩
end
theorem ltDs_ints {n : Nat} (ns : List Int) : ltDs n (ns.map DV.int) = true := by
  induction ns with
  | nil => rfl
  | cons x r ih => simp [ltDs, ltD, ih]

/-! ### steps -/
theorem seq_nx {m n : MS} {e e1 : Env} {st st1 : Sto} (h : m e st = some (.nx, e1, st1)) : sSeq m n e st = n e1 st1 := by
  unfold sSeq; rw [h]
theorem seq_rt {m n : MS} {e e1 : Env} {st st1 : Sto} {d : DV} (h : m e st = some (.rt d, e1, st1)) : sSeq m n e st = some (.rt d, e1, st1) := by
  unfold sSeq; rw [h]
theorem if_t {t : ME Bool} {m n : MS} {e : Env} {st st1 : Sto} (h : t e st = some (true, st1)) : sIf t m n e st = m e st1 := by
  unfold sIf; rw [h]
theorem if_f {t : ME Bool} {m n : MS} {e : Env} {st st1 : Sto} (h : t e st = some (false, st1)) : sIf t m n e st = n e st1 := by
  unfold sIf; rw [h]
theorem body_rt {n : Nat} {m : MS} {ds : List DV} {st st1 : Sto} {d : DV} {e1 : Env} (h : m (ds.map some ++ List.replicate (n - ds.length) none) st = some (.rt d, e1, st1)) : bodyM n m ds st = some (d, st1) := by
  unfold bodyM; rw [h]
/-- a comprehension whose parts leave the store as it is -/
theorem lcD_pure {s : Option Nat} {all : List DV} {vs : List Nat} {t : CT} {mt : ME Bool} {me : ME DV} {e : Env} {st : Sto} (p : DV → Bool) (f : DV → DV) (hs : stays s all st) : ∀ (r : List DV), (∀ d ∈ r, ∃ e1, ctD t d (wipeE e vs) = some e1 ∧ mt e1 st = some (p d, st) ∧ (p d = true → me e1 st = some (f d, st))) →
    lcD s all vs t mt me e r st = some ((r.filter p).map f, st)
  | [], _ => by unfold lcD; rw [if_pos hs]; rfl
  | d :: r, h => by
    obtain ⟨e1, h1, h2, h3⟩ := h d List.mem_cons_self
    have ih := lcD_pure (s := s) (all := all) (vs := vs) (t := t) (mt := mt) (me := me) (e := e) p f hs r fun d hd => h d (List.mem_cons_of_mem _ hd)
    unfold lcD
    rw [if_pos hs]
    simp only [h1, h2]
    cases q : p d with
    | true => simp only [h3 q, ih, List.filter_cons, q, if_true, List.map_cons]
    | false => simp only [ih, List.filter_cons, q]; rfl
theorem stays_none {all : List DV} {st : Sto} : stays none all st := trivial
end DL

/-! PL2: written texts; loops with an invariant. -/
namespace DL
open PySem PySem.Spec PyProof.Rows L2

theorem ofS_inj {a b : String} (h : Str.ofString a = Str.ofString b) : a = b := by
  rw [Str.ofString_eq_toList, Str.ofString_eq_toList] at h
  have h1 : a.toList.map Char.toNat = b.toList.map Char.toNat := by
    have := congrArg (fun s : Str => s.cps.toList) h
    simpa using this
  have h2 : a.toList = b.toList := by
    refine List.map_inj_right (f := Char.toNat) (fun x y e => ?_) |>.mp h1
    exact Char.ext (UInt32.toNat_inj.mp e)
  exact String.toList_inj.mp h2
theorem ofS_eq {a b : String} : (Str.ofString a = Str.ofString b) = (a = b) := propext ⟨ofS_inj, fun h => by rw [h]⟩
theorem ofS_beq {a b : String} : (Str.ofString a == Str.ofString b) = decide (a = b) := by
  rw [Bool.eq_iff_iff]
  simp [ofS_eq]
theorem ofS_ok (s : String) : PyData.strOk (Str.ofString s) = true := by
  rw [Str.ofString_eq_toList]
  unfold PyData.strOk
  simp only [List.all_toArray, List.all_map, List.all_eq_true, Function.comp, decide_eq_true_eq]
  intro c _
  have := c.valid
  have h2 : c.toNat < 0x110000 := by
    rcases this with h | ⟨_, h⟩
    · have : c.toNat < 0xd800 := h
      omega
    · exact h
  exact h2
/-! ### one step of the mirrors -/
section
variable {α β : Type} {m : ME α} {f : α → ME β} {e : Env} {st : Sto} {ma mb mc : ME DV} {mq : ME (List DV)} {g g' : G2} {ta tb : ME Bool} {s1 s2 : MS} {ms : List (ME DV)} {d x y : DV}
theorem ev_bind : ME.bind m f e st = (match m e st with | none => none | some (a, s') => f a e s') := rfl
theorem ev_pure {a : α} : ME.pure a e st = some (a, st) := rfl
theorem ev_c : mC d e st = some (d, st) := rfl
theorem ev_var {i : Nat} : mVar i e st = (match e[i]? with | some (some d) => some (d, st) | _ => none) := rfl
theorem ev_bin : mBin g ma mb e st = (match ma e st with | none => none | some (x, s1) => (match mb e s1 with | none => none | some (y, s2) => g x y s2)) := by
  unfold mBin
  simp only [ev_bind]
  cases ma e st with
  | none => rfl
  | some p =>
    obtain ⟨d, s⟩ := p
    simp only
    cases mb e s with
    | none => rfl
    | some p => rfl
theorem ev_tst : mTst ma e st = (match ma e st with | none => none | some (d, s') => (match d with | .bl b => some (b, s') | _ => none)) := by
  unfold mTst
  simp only [ev_bind]
  cases ma e st with
  | none => rfl
  | some p =>
    obtain ⟨d, s⟩ := p
    first | rfl | (cases d <;> rfl)
theorem ev_chn : mChn g g' ma mb mc e st = (match ma e st with | none => none | some (x, s1) => (match mb e s1 with | none => none | some (y, s2) => (match g x y s2 with | none => none | some (z, s3) => (match z with | .bl true => (match mc e s3 with | none => none | some (w, s4) => g' y w s4) | .bl false => some (.bl false, s3) | _ => none)))) := by
  unfold mChn
  simp only [ev_bind]
  cases ma e st with
  | none => rfl
  | some p =>
    simp only
    cases mb e p.2 with
    | none => rfl
    | some q =>
      simp only
      cases g p.1 q.1 q.2 with
      | none => rfl
      | some r =>
        obtain ⟨z, s3⟩ := r
        cases z with
        | bl b =>
          cases b with
          | false => rfl
          | true =>
            simp only [ev_bind]
            cases mc e s3 with
            | none => rfl
            | some p => rfl
        | _ => rfl
theorem ev_andT : mAndT ta tb e st = (match ta e st with | none => none | some (b, s') => (match b with | true => tb e s' | false => some (false, s'))) := by
  unfold mAndT
  simp only [ev_bind]
  cases ta e st with
  | none => rfl
  | some p => obtain ⟨b, s⟩ := p; cases b <;> rfl
theorem ev_orT : mOrT ta tb e st = (match ta e st with | none => none | some (b, s') => (match b with | true => some (true, s') | false => tb e s')) := by
  unfold mOrT
  simp only [ev_bind]
  cases ta e st with
  | none => rfl
  | some p => obtain ⟨b, s⟩ := p; cases b <;> rfl
theorem ev_notT : mNotT ta e st = (match ta e st with | none => none | some (b, s') => some (!b, s')) := by
  unfold mNotT
  simp only [ev_bind]
  cases ta e st with
  | none => rfl
  | some p =>
    obtain ⟨d, s⟩ := p
    first | rfl | (cases d <;> rfl)
theorem ev_and : mAnd ma mb e st = (match ma e st with | none => none | some (b, s') => (match b with | .bl true => mb e s' | .bl false => some (.bl false, s') | _ => none)) := by
  unfold mAnd
  simp only [ev_bind]
  cases ma e st with
  | none => rfl
  | some p =>
    obtain ⟨b, s⟩ := p
    cases b with
    | bl b => cases b <;> rfl
    | _ => rfl
theorem ev_or : mOr ma mb e st = (match ma e st with | none => none | some (b, s') => (match b with | .bl true => some (.bl true, s') | .bl false => mb e s' | _ => none)) := by
  unfold mOr
  simp only [ev_bind]
  cases ma e st with
  | none => rfl
  | some p =>
    obtain ⟨b, s⟩ := p
    cases b with
    | bl b => cases b <;> rfl
    | _ => rfl
theorem ev_not : mNot ma e st = (match ma e st with | none => none | some (b, s') => (match b with | .bl b => some (.bl (!b), s') | _ => none)) := by
  unfold mNot
  simp only [ev_bind]
  cases ma e st with
  | none => rfl
  | some p =>
    obtain ⟨b, s⟩ := p
    cases b <;> rfl
theorem ev_if {a b : ME α} : mIf ta a b e st = (match ta e st with | none => none | some (c, s') => (match c with | true => a e s' | false => b e s')) := by
  unfold mIf
  simp only [ev_bind]
  cases ta e st with
  | none => rfl
  | some p => obtain ⟨b, s⟩ := p; cases b <;> rfl
theorem ev_args0 : mArgs [] e st = some ([], st) := rfl
theorem ev_args1 : mArgs (ma :: ms) e st = (match ma e st with | none => none | some (d, s1) => (match mArgs ms e s1 with | none => none | some (ds, s2) => some (d :: ds, s2))) := by
  show ME.bind ma (fun d => ME.bind (mArgs ms) fun ds => ME.pure (d :: ds)) e st = _
  simp only [ev_bind]
  cases ma e st with
  | none => rfl
  | some p =>
    obtain ⟨d, s⟩ := p
    simp only
    cases mArgs ms e s with
    | none => rfl
    | some p => rfl
theorem ev_tup : mTup ms e st = (match mArgs ms e st with | none => none | some (ds, s1) => some (.tup ds, s1)) := by
  unfold mTup
  simp only [ev_bind]
  cases mArgs ms e st with
  | none => rfl
  | some p =>
    obtain ⟨d, s⟩ := p
    first | rfl | (cases d <;> rfl)
theorem ev_new : mNew mq e st = (match mq e st with | none => none | some (ds, s1) => some (.ref s1.length, s1 ++ [.lst ds])) := by
  unfold mNew
  simp only [ev_bind]
  cases mq e st with
  | none => rfl
  | some p =>
    obtain ⟨d, s⟩ := p
    first | rfl | (cases d <;> rfl)
theorem ev_seq : mSeq ma e st = (match ma e st with | none => none | some (d, s1) => (match itemsOf s1 d with | some ds => some (ds, s1) | none => none)) := by
  unfold mSeq
  simp only [ev_bind]
  cases ma e st with
  | none => rfl
  | some p =>
    obtain ⟨d, s⟩ := p
    first | rfl | (cases d <;> rfl)
theorem ev_len : mLen mq e st = (match mq e st with | none => none | some (ds, s1) => some (.int ds.length, s1)) := by
  unfold mLen
  simp only [ev_bind]
  cases mq e st with
  | none => rfl
  | some p =>
    obtain ⟨d, s⟩ := p
    first | rfl | (cases d <;> rfl)
theorem ev_tupOf : mTupOf mq e st = (match mq e st with | none => none | some (ds, s1) => some (.tup ds, s1)) := by
  unfold mTupOf
  simp only [ev_bind]
  cases mq e st with
  | none => rfl
  | some p =>
    obtain ⟨d, s⟩ := p
    first | rfl | (cases d <;> rfl)
theorem ev_all : mAll mq e st = (match mq e st with | none => none | some (ds, s1) => (match toBls ds with | some bs => some (.bl (bs.all id), s1) | none => none)) := by
  unfold mAll
  simp only [ev_bind]
  cases mq e st with
  | none => rfl
  | some p =>
    obtain ⟨d, s⟩ := p
    first | rfl | (cases d <;> rfl)
theorem ev_any : mAny mq e st = (match mq e st with | none => none | some (ds, s1) => (match toBls ds with | some bs => some (.bl (bs.any id), s1) | none => none)) := by
  unfold mAny
  simp only [ev_bind]
  cases mq e st with
  | none => rfl
  | some p =>
    obtain ⟨d, s⟩ := p
    first | rfl | (cases d <;> rfl)
theorem ev_sum : mSum mq e st = (match mq e st with | none => none | some (ds, s1) => (match toIs ds with | some bs => some (.int bs.sum, s1) | none => none)) := by
  unfold mSum
  simp only [ev_bind]
  cases mq e st with
  | none => rfl
  | some p =>
    obtain ⟨d, s⟩ := p
    first | rfl | (cases d <;> rfl)
theorem ev_int : mInt ma e st = (match ma e st with | none => none | some (d, s1) => (match d with | .int i => some (.int i, s1) | .bl b => some (.int (if b then 1 else 0), s1) | _ => none)) := by
  unfold mInt
  simp only [ev_bind]
  cases ma e st with
  | none => rfl
  | some p => obtain ⟨b, s⟩ := p; cases b <;> rfl
theorem ev_min2 : mMin2 ma mb e st = (match ma e st with | none => none | some (x, s1) => (match mb e s1 with | none => none | some (y, s2) => (match x, y with | .int i, .int j => some (.int (if j < i then j else i), s2) | _, _ => none))) := by
  unfold mMin2
  simp only [ev_bind]
  cases ma e st with
  | none => rfl
  | some p =>
    simp only
    cases mb e p.2 with
    | none => rfl
    | some q =>
      obtain ⟨x, s1⟩ := p
      obtain ⟨y, s2⟩ := q
      cases x <;> cases y <;> rfl
theorem ev_isi {T : String} : mIsi T ma e st = (match ma e st with | none => none | some (d, s1) => (match tyN s1 d with | some t => some (.bl (isT T t), s1) | none => none)) := by
  unfold mIsi
  simp only [ev_bind]
  cases ma e st with
  | none => rfl
  | some p =>
    obtain ⟨d, s⟩ := p
    first | rfl | (cases d <;> rfl)
theorem ev_dnew : mDNew e st = some (.ref st.length, st ++ [.dct []]) := rfl
theorem ev_rg1 : mRg1 ma e st = (match ma e st with | none => none | some (d, s1) => (match d with | .int n => if okR 0 n = true then some (rgD 0 n, s1) else none | _ => none)) := by
  unfold mRg1
  simp only [ev_bind]
  cases ma e st with
  | none => rfl
  | some p =>
    obtain ⟨d, s⟩ := p
    first | rfl | (cases d <;> rfl)
theorem ev_sl {l h : MO} : mSl ma l h e st = (match ma e st with | none => none | some (x, s1) => (match l e s1 with | none => none | some (lo, s2) => (match h e s2 with | none => none | some (hi, s3) => gSl x lo hi s3))) := by
  unfold mSl
  simp only [ev_bind]
  cases ma e st with
  | none => rfl
  | some p =>
    obtain ⟨d, s⟩ := p
    simp only
    cases l e s with
    | none => rfl
    | some p =>
      obtain ⟨d2, s2⟩ := p
      simp only
      cases h e s2 with
      | none => rfl
      | some p => rfl
theorem ev_some : mSome ma e st = (match ma e st with | none => none | some (d, s1) => (match d with | .int i => some (some i, s1) | _ => none)) := by
  unfold mSome
  simp only [ev_bind]
  cases ma e st with
  | none => rfl
  | some p => obtain ⟨b, s⟩ := p; cases b <;> rfl
theorem ev_call {F : FM} : mCall F ms e st = (match mArgs ms e st with | none => none | some (ds, s1) => F ds s1) := by
  unfold mCall
  simp only [ev_bind]
  cases mArgs ms e st with
  | none => rfl
  | some p =>
    obtain ⟨d, s⟩ := p
    first | rfl | (cases d <;> rfl)
theorem ev_neg : mNeg ma e st = (match ma e st with | none => none | some (d, s1) => (match d with | .int i => some (.int (-i), s1) | _ => none)) := by
  unfold mNeg
  simp only [ev_bind]
  cases ma e st with
  | none => rfl
  | some p => obtain ⟨b, s⟩ := p; cases b <;> rfl
theorem ev_srt : mSrt mq e st = (match mq e st with | none => none | some (ds, s1) => (match toIs ds with | some ns => some ((isort ns).map DV.int, s1) | none => none)) := by
  unfold mSrt
  simp only [ev_bind]
  cases mq e st with
  | none => rfl
  | some p =>
    obtain ⟨d, s⟩ := p
    first | rfl | (cases d <;> rfl)
theorem ev_lenSet : mLenSet ma e st = (match ma e st with | none => none | some (d, s1) => (match d with | .tup ds => (match toIs ds with | some ns => if ns.Nodup ∧ ns.length ≤ 1000 then some (.int ns.length, s1) else none | none => none) | _ => none)) := by
  unfold mLenSet
  simp only [ev_bind]
  cases ma e st with
  | none => rfl
  | some p =>
    obtain ⟨d, s⟩ := p
    first | rfl | (cases d <;> rfl)
theorem ev_itV : itV ma e st = (match ma e st with | none => none | some (d, s1) => (match itemsOf s1 d with | some ds => some ((srcOf d, ds), s1) | none => none)) := by
  unfold itV
  simp only [ev_bind]
  cases ma e st with
  | none => rfl
  | some p =>
    obtain ⟨d, s⟩ := p
    first | rfl | (cases d <;> rfl)
theorem ev_itF : itF mq e st = (match mq e st with | none => none | some (ds, s1) => some ((none, ds), s1)) := by
  unfold itF
  simp only [ev_bind]
  cases mq e st with
  | none => rfl
  | some p =>
    obtain ⟨d, s⟩ := p
    first | rfl | (cases d <;> rfl)
theorem ev_kix {tbl : List (Str × DV)} : mKix tbl ma e st = (match ma e st with | none => none | some (d, s1) => (match d with | .str z => (lookS tbl z).map (·, s1) | _ => none)) := by
  unfold mKix
  simp only [ev_bind]
  cases ma e st with
  | none => rfl
  | some p =>
    obtain ⟨d, s⟩ := p
    first | rfl | (cases d <;> rfl)
theorem ev_kin {neg : Bool} {tbl : List (Str × DV)} : mKin neg tbl ma e st = (match ma e st with | none => none | some (d, s1) => gKin neg tbl d s1) := by
  unfold mKin
  simp only [ev_bind]
  cases ma e st with
  | none => rfl
  | some p =>
    obtain ⟨d, s⟩ := p
    first | rfl | (cases d <;> rfl)
theorem ev_kcall {tbl : List (Str × FM)} : mKcall tbl ma ms e st = (match ma e st with | none => none | some (d, s1) => (match d with | .str z => (match lookF tbl z with | some F => mCall F ms e s1 | none => none) | _ => none)) := by
  unfold mKcall
  simp only [ev_bind]
  cases ma e st with
  | none => rfl
  | some p =>
    obtain ⟨d, s⟩ := p
    first | rfl | (cases d <;> rfl)
theorem ev_skip : sSkip e st = some (.nx, e, st) := rfl
theorem ev_sseq : sSeq s1 s2 e st = (match s1 e st with | some (.nx, e1, st1) => s2 e1 st1 | r => r) := rfl
theorem ev_expr : sExpr ma e st = (match ma e st with | some (_, st1) => some (.nx, e, st1) | none => none) := rfl
theorem ev_ret : sRet ma e st = (match ma e st with | some (d, st1) => some (.rt d, e, st1) | none => none) := rfl
theorem ev_sif : sIf ta s1 s2 e st = (match ta e st with | some (true, st1) => s1 e st1 | some (false, st1) => s2 e st1 | none => none) := rfl
theorem ev_asg {g : MG} : sAsg g ma e st = (match ma e st with | some (d, st1) => (match g d e st1 with | some (e2, st2) => some (.nx, e2, st2) | none => none) | none => none) := rfl
theorem ev_set {i : Nat} : sSet i ma e st = (match ma e st with | some (d, st1) => some (.nx, e.set i (some d), st1) | none => none) := rfl
theorem ev_par {i j : Nat} : sPar i j ma mb e st = (match mArgs [ma, mb] e st with | some ([c, d], st1) => some (.nx, (e.set i (some c)).set j (some d), st1) | _ => none) := rfl
theorem ev_for {mi : MI} {g : MG} : sFor mi g s1 e st = (match mi e st with | some ((s, ds), st1) => forD s ds g s1 ds e st1 | none => none) := rfl
theorem ev_lc {mi : MI} {vs : List Nat} {t : CT} : mLc mi vs t ta ma e st = (match mi e st with | some ((s, ds), st1) => lcD s ds vs t ta ma e ds st1 | none => none) := rfl
@[simp] theorem ev_tgN {i : Nat} : tgN i d e st = some (e.set i (some d), st) := rfl
@[simp] theorem ev_tgT {gs : List MG} {ds : List DV} : tgT gs (.tup ds) e st = tgs gs ds e st := rfl
theorem ev_tgs0 : tgs [] [] e st = some (e, st) := rfl
theorem ev_tgs1 {g : MG} {gs : List MG} {ds : List DV} : tgs (g :: gs) (d :: ds) e st = (match g d e st with | some (e1, st1) => tgs gs ds e1 st1 | none => none) := rfl
theorem ev_body {n : Nat} {ds : List DV} : bodyM n s1 ds st = (match s1 (ds.map some ++ List.replicate (n - ds.length) none) st with | some (.rt d, _, st') => some (d, st') | some (.nx, _, st') => some (.non, st') | _ => none) := rfl
@[simp] theorem ev_addI {i j : Int} : gAdd (.int i) (.int j) st = some (.int (i + j), st) := rfl
@[simp] theorem ev_addT {a b : List DV} : gAdd (.tup a) (.tup b) st = if a.length + b.length ≤ LIM then some (.tup (a ++ b), st) else none := rfl
@[simp] theorem ev_addL {a b : Nat} : gAdd (.ref a) (.ref b) st = (match st[a]?, st[b]? with | some (.lst xs), some (.lst ys) => if xs.length + ys.length ≤ LIM then some (.ref st.length, st ++ [.lst (xs ++ ys)]) else none | _, _ => none) := rfl
@[simp] theorem ev_gI {c : Int → Int → Bool} {f : Int → Int → DV} {i j : Int} : gI c f (.int i) (.int j) st = if c i j = true then some (f i j, st) else none := rfl
@[simp] theorem ev_sub {i j : Int} : gSub (.int i) (.int j) st = some (.int (i - j), st) := rfl
@[simp] theorem ev_mul {i j : Int} : gMul (.int i) (.int j) st = if (small i || small j) = true then some (.int (i * j), st) else none := rfl
@[simp] theorem ev_mod {i j : Int} : gMod (.int i) (.int j) st = if decide (0 < j) = true then some (.int (i % j), st) else none := rfl
@[simp] theorem ev_div {i j : Int} : gDiv (.int i) (.int j) st = if (decide (0 < j) && decide (j < 1073741824)) = true then some (.int (i / j), st) else none := rfl
@[simp] theorem ev_lt {i j : Int} : gLt (.int i) (.int j) st = some (.bl (decide (i < j)), st) := rfl
@[simp] theorem ev_le {i j : Int} : gLe (.int i) (.int j) st = some (.bl (decide (i ≤ j)), st) := rfl
@[simp] theorem ev_gt {i j : Int} : gGt (.int i) (.int j) st = some (.bl (decide (j < i)), st) := rfl
@[simp] theorem ev_ge {i j : Int} : gGe (.int i) (.int j) st = some (.bl (decide (j ≤ i)), st) := rfl
@[simp] theorem ev_is : gIs x .non st = some (.bl (isN x), st) := rfl
@[simp] theorem ev_isnot : gIsNot x .non st = some (.bl (!isN x), st) := rfl
@[simp] theorem ev_eqI {i j : Int} : gEq (.int i) (.int j) st = some (.bl (decide (i = j)), st) := by
  show some (DV.bl (PyData.eqv (.int i) (.int j)), st) = _
  simp only [PyData.eqv]
  rw [Bool.beq_eq_decide_eq]
@[simp] theorem ev_eqS {a b : String} : gEq (.str (Str.ofString a)) (.str (Str.ofString b)) st = some (.bl (decide (a = b)), st) := by
  have h : ∀ a : String, toPS st (.str (Str.ofString a)) = some (.str (Str.ofString a)) := fun a => by
    show (if okD 8 (.str (Str.ofString a)) = true then some (toP (.str (Str.ofString a))) else none) = _
    rw [if_pos (by simp only [okD]; exact ofS_ok a)]
    simp only [toP]
  unfold gEq
  rw [h, h]
  simp only [PyData.eqv, ofS_beq]
@[simp] theorem ev_eqB {a b : Bool} : gEq (.bl a) (.bl b) st = some (.bl (a == b), st) := by
  show some (DV.bl (PyData.eqv (.bool a) (.bool b)), st) = _
  simp only [PyData.eqv]
@[simp] theorem ev_neI {i j : Int} : gNe (.int i) (.int j) st = some (.bl (!decide (i = j)), st) := by
  show some (DV.bl (!PyData.eqv (.int i) (.int j)), st) = _
  simp only [PyData.eqv]
  rw [Bool.beq_eq_decide_eq]
@[simp] theorem ev_neS {a b : String} : gNe (.str (Str.ofString a)) (.str (Str.ofString b)) st = some (.bl (!decide (a = b)), st) := by
  have h : ∀ a : String, toPS st (.str (Str.ofString a)) = some (.str (Str.ofString a)) := fun a => by
    show (if okD 8 (.str (Str.ofString a)) = true then some (toP (.str (Str.ofString a))) else none) = _
    rw [if_pos (by simp only [okD]; exact ofS_ok a)]
    simp only [toP]
  unfold gNe
  rw [h, h]
  simp only [PyData.eqv, ofS_beq]
@[simp] theorem ev_neB {a b : Bool} : gNe (.bl a) (.bl b) st = some (.bl (!(a == b)), st) := by
  show some (DV.bl (!PyData.eqv (.bool a) (.bool b)), st) = _
  simp only [PyData.eqv]
@[simp] theorem ev_inT {ds : List DV} : gIn x (.tup ds) st = if flatD x = true ∧ ds.all flatD = true then some (.bl (inD x ds), st) else none := rfl
@[simp] theorem ev_notinT {ds : List DV} : gNotIn x (.tup ds) st = if flatD x = true ∧ ds.all flatD = true then some (.bl (!inD x ds), st) else none := rfl
@[simp] theorem ev_ixT {ds : List DV} {i : Int} : gIx (.tup ds) (.int i) st = (atI ds i).map (·, st) := rfl
@[simp] theorem ev_ixL {l : Nat} {i : Int} : gIx (.ref l) (.int i) st = (match itemsOf st (.ref l) with | some ds => (atI ds i).map (·, st) | none => none) := rfl
@[simp] theorem ev_itemsT {ds : List DV} : itemsOf st (.tup ds) = some ds := rfl
@[simp] theorem ev_itemsS {ds : List DV} : itemsOf st (.scr ds) = some ds := rfl
theorem ev_itemsL {l : Nat} {ds : List DV} (h : st[l]? = some (.lst ds)) : itemsOf st (.ref l) = some ds := by
  show (match st[l]? with | some (.lst ds) => some ds | _ => none) = some ds
  rw [h]
@[simp] theorem ev_slT {ds : List DV} {lo hi : Option Int} : gSl (.tup ds) lo hi st = some (.tup (cutD ds lo hi), st) := rfl
@[simp] theorem ev_flatS {z : Str} : flatD (.str z) = true := rfl
@[simp] theorem ev_flatI {z : Int} : flatD (.int z) = true := rfl
@[simp] theorem ev_flatN : flatD .non = true := rfl
@[simp] theorem ev_flatB {z : Bool} : flatD (.bl z) = true := rfl
@[simp] theorem ev_inD0 : inD x [] = false := rfl
@[simp] theorem ev_inD1 {ds : List DV} : inD x (y :: ds) = (eqF y x || inD x ds) := rfl
@[simp] theorem ev_eqFS {a b : String} : eqF (.str (Str.ofString a)) (.str (Str.ofString b)) = decide (a = b) := ofS_beq
@[simp] theorem ev_eqFI {a b : Int} : eqF (.int a) (.int b) = decide (a = b) := by
  show (a == b) = _
  rw [Bool.beq_eq_decide_eq]
@[simp] theorem ev_eqFN {a : Int} : eqF .non (.int a) = false := rfl
@[simp] theorem ev_eqFN2 {a : Int} : eqF (.int a) .non = false := rfl
@[simp] theorem ev_eqFNN : eqF .non .non = true := rfl
@[simp] theorem ev_isNn : isN .non = true := rfl
@[simp] theorem ev_isNi {i : Int} : isN (.int i) = false := rfl
@[simp] theorem ev_isNb {i : Bool} : isN (.bl i) = false := rfl
@[simp] theorem ev_isNs {i : Str} : isN (.str i) = false := rfl
@[simp] theorem ev_isNt {i : List DV} : isN (.tup i) = false := rfl
@[simp] theorem ev_isNr {i : Nat} : isN (.ref i) = false := rfl
@[simp] theorem ev_tyn : tyN st .non = some "NoneType" := rfl
@[simp] theorem ev_tyi {i : Int} : tyN st (.int i) = some "int" := rfl
@[simp] theorem ev_tyb {i : Bool} : tyN st (.bl i) = some "bool" := rfl
@[simp] theorem ev_tys {i : Str} : tyN st (.str i) = some "str" := rfl
@[simp] theorem ev_tyt {i : List DV} : tyN st (.tup i) = some "tuple" := rfl
theorem ev_tyl {l : Nat} {ds : List DV} (h : st[l]? = some (.lst ds)) : tyN st (.ref l) = some "list" := by
  show (match st[l]? with | some (.lst _) => some "list" | some (.dct _) => some "dict" | _ => none) = _
  rw [h]
@[simp] theorem ev_isT {T t : String} : isT T t = (decide (t = T) || (decide (T = "int") && decide (t = "bool"))) := by
  unfold isT
  simp only [Bool.beq_eq_decide_eq]
theorem ev_at0 {α : Type} {a : α} {r : List α} : atI (a :: r) 0 = some a := atI_nat (j := 0) rfl
@[simp] theorem ev_srcT {ds : List DV} : srcOf (.tup ds) = none := rfl
@[simp] theorem ev_srcS {ds : List DV} : srcOf (.scr ds) = none := rfl
@[simp] theorem ev_srcL {l : Nat} : srcOf (.ref l) = some l := rfl
end
/-- a loop that goes through all its items -/
theorem forD_inv {s : Option Nat} {all : List DV} {g : MG} {m : MS} (P : Nat → Env → Sto → Prop) (r0 : List DV) (hs : ∀ i e st, P i e st → stays s all st)
    (step : ∀ i d e st, r0[i]? = some d → P i e st → ∃ e1 st1 e2 st2, g d e st = some (e1, st1) ∧ (m e1 st1 = some (.nx, e2, st2) ∨ m e1 st1 = some (.ct, e2, st2)) ∧ P (i + 1) e2 st2) :
    ∀ e st, P 0 e st → ∃ e' st', forD s all g m r0 e st = some (.nx, e', st') ∧ P r0.length e' st' := by
  have key : ∀ (k i : Nat) (e : Env) (st : Sto), i + k = r0.length → P i e st → ∃ e' st', forD s all g m (r0.drop i) e st = some (.nx, e', st') ∧ P r0.length e' st' := by
    intro k
    induction k with
    | zero =>
      intro i e st hi hp
      have ei : i = r0.length := by omega
      subst ei
      rw [List.drop_length]
      refine ⟨e, st, ?_, hp⟩
      unfold forD
      rw [if_pos (hs _ _ _ hp)]
    | succ k ih =>
      intro i e st hi hp
      have hlt : i < r0.length := by omega
      rw [List.drop_eq_getElem_cons hlt]
      obtain ⟨e1, st1, e2, st2, h1, h2, h3⟩ := step i r0[i] e st (List.getElem?_eq_getElem hlt) hp
      obtain ⟨e', st', h4, h5⟩ := ih (i + 1) e2 st2 (by omega) h3
      refine ⟨e', st', ?_, h5⟩
      unfold forD
      rw [if_pos (hs _ _ _ hp)]
      rcases h2 with h2 | h2 <;> simp only [h1, h2, h4]
  intro e st hp
  have := key r0.length 0 e st (by omega) hp
  simpa using this
/-- a loop that is left at the item i -/
theorem forD_rt {s : Option Nat} {all : List DV} {g : MG} {m : MS} (P : Nat → Env → Sto → Prop) (r0 : List DV) (j : Nat) (x : DV) (R : Env → Sto → Prop) (hs : ∀ i e st, P i e st → stays s all st) (hj : j < r0.length)
    (step : ∀ i d e st, i < j → r0[i]? = some d → P i e st → ∃ e1 st1 e2 st2, g d e st = some (e1, st1) ∧ (m e1 st1 = some (.nx, e2, st2) ∨ m e1 st1 = some (.ct, e2, st2)) ∧ P (i + 1) e2 st2)
    (last : ∀ d e st, r0[j]? = some d → P j e st → ∃ e1 st1 e2 st2, g d e st = some (e1, st1) ∧ m e1 st1 = some (.rt x, e2, st2) ∧ R e2 st2) :
    ∀ e st, P 0 e st → ∃ e' st', forD s all g m r0 e st = some (.rt x, e', st') ∧ R e' st' := by
  have key : ∀ (k i : Nat) (e : Env) (st : Sto), i + k = j → P i e st → ∃ e' st', forD s all g m (r0.drop i) e st = some (.rt x, e', st') ∧ R e' st' := by
    intro k
    induction k with
    | zero =>
      intro i e st hi hp
      have ei : i = j := by omega
      subst ei
      rw [List.drop_eq_getElem_cons hj]
      obtain ⟨e1, st1, e2, st2, h1, h2, h3⟩ := last _ e st (List.getElem?_eq_getElem hj) hp
      refine ⟨e2, st2, ?_, h3⟩
      unfold forD
      rw [if_pos (hs _ _ _ hp)]
      simp only [h1, h2]
    | succ k ih =>
      intro i e st hi hp
      have hlt : i < r0.length := by omega
      rw [List.drop_eq_getElem_cons hlt]
      obtain ⟨e1, st1, e2, st2, h1, h2, h3⟩ := step i r0[i] e st (by omega) (List.getElem?_eq_getElem hlt) hp
      obtain ⟨e', st', h4, h5⟩ := ih (i + 1) e2 st2 (by omega) h3
      refine ⟨e', st', ?_, h5⟩
      unfold forD
      rw [if_pos (hs _ _ _ hp)]
      rcases h2 with h2 | h2 <;> simp only [h1, h2, h4]
  intro e st hp
  have := key j 0 e st (by omega) hp
  simpa using this
theorem atI_ofNat {α : Type} {xs : List α} {j : Nat} : atI xs (j : Int) = xs[j]? := by
  cases h : xs[j]? with
  | some v => exact atI_nat h
  | none =>
    have hl : xs.length ≤ j := List.getElem?_eq_none_iff.mp h
    unfold atI ixN
    rw [if_pos (by omega), if_neg (by omega)]
    rfl
theorem rgD_get {n i : Nat} {d : DV} (h : (rgD 0 (n : Int))[i]? = some d) : i < n ∧ d = .int (i : Nat) := by
  unfold rgD at h
  rw [List.getElem?_map] at h
  have hi : i < ((n : Int) - 0).toNat := by
    cases q : (List.range ((n : Int) - 0).toNat)[i]? with
    | none => rw [q] at h; cases h
    | some v =>
      have := (List.getElem?_eq_some_iff.mp q).1
      simpa using this
  rw [List.getElem?_range hi] at h
  have h := Option.some.inj h
  exact ⟨by omega, by rw [← h]; simp⟩
theorem rgD_length (n : Nat) : (rgD 0 (n : Int)).length = n := by rw [rgD_len]; omega
theorem rgD_map (n : Nat) : rgD 0 (n : Int) = (List.range n).map fun k => DV.int (k : Nat) := by
  unfold rgD
  have : ((n : Int) - 0).toNat = n := by omega
  rw [this]
  simp
end DL

/-! PL3: objects that are called, told plainly. -/
namespace DL
open PySem PySem.Spec PyProof.Rows L2

/-- a state: a number, or a row of numbers -/
inductive SV where
  | n (i : Int) | l (ns : List Int)
  deriving DecidableEq
def SV.d : SV → DV
  | .n i => .int i
  | .l ns => .tup (ns.map DV.int)
def kinds5 : List String := ["cell", "counter", "line", "pile", "set"]
def kWords (kind : String) : List String :=
  if kind = "cell" then ["get", "put"] else if kind = "counter" then ["add", "get"] else if kind = "line" then ["put", "take"] else if kind = "pile" then ["put", "take"] else ["add", "has", "take"]
def initV (kind : String) : SV := if kind = "cell" ∨ kind = "counter" then .n 0 else .l []
def cellV (s : SV) (w : String) (a : Int) : SV × Int := match s with
  | .n i => if w = "get" then (.n i, i) else (.n a, 0)
  | s => (s, 0)
def counterV (s : SV) (w : String) (a : Int) : SV × Int := match s with
  | .n i => if w = "get" then (.n i, i) else (.n ((i + a) % 100), 0)
  | s => (s, 0)
def lineV (s : SV) (w : String) (a : Int) : SV × Int := match s with
  | .l ns => if w = "put" then (.l (ns ++ [a]), 0) else (match ns with | [] => (.l [], -1) | x :: r => (.l r, x))
  | s => (s, 0)
def pileV (s : SV) (w : String) (a : Int) : SV × Int := match s with
  | .l ns => if w = "put" then (.l (ns ++ [a]), 0) else (match ns.getLast? with | none => (.l [], -1) | some x => (.l ns.dropLast, x))
  | s => (s, 0)
def setV (s : SV) (w : String) (a : Int) : SV × Int := match s with
  | .l ns => if w = "add" ∧ a ∉ ns then (.l (isort (ns ++ [a])), 0) else if w = "take" then (.l (ns.filter fun x => x != a), if a ∈ ns then 1 else 0) else (.l ns, if a ∈ ns then 1 else 0)
  | s => (s, 0)
def callV (kind : String) (s : SV) (w : String) (a : Int) : SV × Int :=
  if kind = "cell" then cellV s w a else if kind = "counter" then counterV s w a else if kind = "line" then lineV s w a else if kind = "pile" then pileV s w a else setV s w a
/-- a state that a kind may have -/
def OkS (kind : String) (s : SV) : Prop := if kind = "cell" ∨ kind = "counter" then ∃ i, s = .n i else ∃ ns, s = .l ns ∧ ns.length ≤ 1000
theorem ltD_sv (n : Nat) (s : SV) : ltD n s.d = true := by
  cases s with
  | n i => rfl
  | l ns => simp only [SV.d, ltD]; exact ltDs_ints ns
@[simp] theorem toIs_map : ∀ ns : List Int, toIs (ns.map DV.int) = some ns
  | [] => rfl
  | n :: ns => by simp [toIs, toIs_map ns]
theorem flat_ints (ns : List Int) : (ns.map DV.int).all flatD = true := by
  induction ns with
  | nil => rfl
  | cons x r ih => simp only [List.map_cons, List.all_cons, ih, Bool.and_true]; rfl
theorem inD_ints (a : Int) (ns : List Int) : inD (.int a) (ns.map DV.int) = decide (a ∈ ns) := by
  induction ns with
  | nil => rfl
  | cons x r ih =>
    unfold inD at ih ⊢
    rw [List.map_cons, List.any_cons, ih]
    simp only [eqF, List.mem_cons]
    by_cases h : x = a
    · subst h; simp
    · have h2 : ¬ a = x := fun e => h e.symm
      simp [h, h2]
end DL

/-! PL4: mirrors run by wanted ends: simp goes from statement to statement and stops at loops and unknown calls. -/
namespace DL
open PySem PySem.Spec PyProof.Rows L2

/-- what depends on q: simp (with -dsimp) leaves q as it is -/
inductive Tk {β : Sort _} (q : β) : Type where
  | mk
def V {α : Type} (o : Option (α × Sto)) (Q : α → Sto → Prop) (_ : Tk Q := Tk.mk) : Prop := ∃ a s, o = some (a, s) ∧ Q a s
def W (o : Option (Fl × Env × Sto)) (Q : Fl → Env → Sto → Prop) (_ : Tk Q := Tk.mk) : Prop := ∃ f e s, o = some (f, e, s) ∧ Q f e s
def P1 {α : Type} (o : Option α) (Q : α → Prop) (_ : Tk Q := Tk.mk) : Prop := ∃ a, o = some a ∧ Q a
def kB (d : DV) (Q : Bool → Prop) (_ : Tk Q := Tk.mk) : Prop := ∃ b, d = .bl b ∧ Q b
def kI (d : DV) (Q : Int → Prop) (_ : Tk Q := Tk.mk) : Prop := ∃ b, d = .int b ∧ Q b
def kS (d : DV) (Q : Str → Prop) (_ : Tk Q := Tk.mk) : Prop := ∃ b, d = .str b ∧ Q b
def nxt (f : Fl) (A B : Prop) (_ : Tk A := Tk.mk) (_ : Tk B := Tk.mk) : Prop := match f with | .nx => A | _ => B
def cd (b : Bool) (A B : Prop) (_ : Tk A := Tk.mk) (_ : Tk B := Tk.mk) : Prop := match b with | true => A | false => B
def gd (c A : Prop) (_ : Tk A := Tk.mk) : Prop := c ∧ A
def rtn (f : Fl) (Q : DV → Prop) (_ : Tk Q := Tk.mk) : Prop := match f with | .rt d => Q d | .nx => Q .non | _ => False
/-- the end of one turn of a loop -/
def lp (f : Fl) (A : Prop) (B : Fl → Prop) (_ : Tk A := Tk.mk) (_ : Tk B := Tk.mk) : Prop := match f with | .nx => A | .ct => A | .bk => B .nx | .rt d => B (.rt d)
/-- what is worked out before it goes on -/
def le {α : Type} (x : α) (Q : α → Prop) (_ : Tk Q := Tk.mk) : Prop := Q x
@[simp] theorem le_eq {α : Type} {x : α} {Q : α → Prop} : le x Q = Q x := rfl
section
variable {α β : Type} {o o' : Option (α × Sto)} {Q : α → Sto → Prop} {p p' : Option α} {R : α → Prop} {d d' : DV} {f f' : Fl} {A B : Prop} {b b' : Bool} {c c' : Prop} {s : Sto} {a : α}
theorem V_ext {Q' : α → Sto → Prop} (h : ∀ a s, Q a s = Q' a s) : V o Q = V o Q' := by
  have e : Q = Q' := funext fun a => funext fun s => h a s
  subst e
  rfl
@[simp] theorem V_some : V (some (a, s)) Q = Q a s := propext ⟨fun ⟨_, _, h, q⟩ => by cases h; exact q, fun q => ⟨_, _, rfl, q⟩⟩
@[simp] theorem V_none : V (none : Option (α × Sto)) Q = False := propext ⟨fun ⟨_, _, h, q⟩ => (nomatch h), False.elim⟩
@[simp] theorem W_some {Q : Fl → Env → Sto → Prop} {e : Env} : W (some (f, e, s)) Q = Q f e s := propext ⟨fun ⟨_, _, _, h, q⟩ => by cases h; exact q, fun q => ⟨_, _, _, rfl, q⟩⟩
@[simp] theorem W_none {Q : Fl → Env → Sto → Prop} : W none Q = False := propext ⟨fun ⟨_, _, _, h, q⟩ => (nomatch h), False.elim⟩
@[simp] theorem P1_some : P1 (some a) R = R a := propext ⟨fun ⟨_, h, q⟩ => by cases h; exact q, fun q => ⟨_, rfl, q⟩⟩
@[simp] theorem P1_none : P1 (none : Option α) R = False := propext ⟨fun ⟨_, h, q⟩ => (nomatch h), False.elim⟩
@[simp] theorem kB_bl {R : Bool → Prop} : kB (.bl b) R = R b := propext ⟨fun ⟨_, h, q⟩ => by cases h; exact q, fun q => ⟨_, rfl, q⟩⟩
@[simp] theorem kI_int {R : Int → Prop} {i : Int} : kI (.int i) R = R i := propext ⟨fun ⟨_, h, q⟩ => by cases h; exact q, fun q => ⟨_, rfl, q⟩⟩
@[simp] theorem kS_str {R : Str → Prop} {i : Str} : kS (.str i) R = R i := propext ⟨fun ⟨_, h, q⟩ => by cases h; exact q, fun q => ⟨_, rfl, q⟩⟩
@[simp] theorem nxt_nx : nxt .nx A B = A := rfl
@[simp] theorem nxt_rt : nxt (.rt d) A B = B := rfl
@[simp] theorem nxt_bk : nxt .bk A B = B := rfl
@[simp] theorem nxt_ct : nxt .ct A B = B := rfl
@[simp] theorem cd_t : cd true A B = A := rfl
@[simp] theorem cd_f : cd false A B = B := rfl
@[simp] theorem gd_t : gd True A = A := propext ⟨fun h => h.2, fun h => ⟨trivial, h⟩⟩
@[simp] theorem rtn_rt {R : DV → Prop} : rtn (.rt d) R = R d := rfl
@[simp] theorem rtn_nx {R : DV → Prop} : rtn .nx R = R .non := rfl
@[simp] theorem lp_nx {R : Fl → Prop} : lp .nx A R = A := rfl
@[simp] theorem lp_ct {R : Fl → Prop} : lp .ct A R = A := rfl
@[simp] theorem lp_bk {R : Fl → Prop} : lp .bk A R = R .nx := rfl
@[simp] theorem lp_rt {R : Fl → Prop} : lp (.rt d) A R = R (.rt d) := rfl
theorem cd_of (h : b = true → A) (h' : b = false → B) : cd b A B := by
  cases b with
  | true => exact h rfl
  | false => exact h' rfl
theorem gd_h (h : c) : gd c A = A := propext ⟨fun q => q.2, fun q => ⟨h, q⟩⟩
theorem gd_n (h : ¬ c) : gd c A = False := propext ⟨fun q => h q.1, False.elim⟩
theorem gd_of (h : c) (h' : A) : gd c A := ⟨h, h'⟩
theorem V_of (h : o = some (a, s)) (q : Q a s) : V o Q := ⟨_, _, h, q⟩
theorem V.mono {Q' : α → Sto → Prop} (h : V o Q) (i : ∀ a s, Q a s → Q' a s) : V o Q' := by
  obtain ⟨a, s, h1, h2⟩ := h
  exact ⟨a, s, h1, i _ _ h2⟩
theorem W.mono {o : Option (Fl × Env × Sto)} {Q Q' : Fl → Env → Sto → Prop} (h : W o Q) (i : ∀ f e s, Q f e s → Q' f e s) : W o Q' := by
  obtain ⟨f, e, s, h1, h2⟩ := h
  exact ⟨f, e, s, h1, i _ _ _ h2⟩
@[simp] theorem V_guard [Decidable c] : V (if c then o else none) Q = gd c (V o Q) := by
  by_cases h : c
  · rw [if_pos h]; exact propext ⟨fun q => ⟨h, q⟩, fun q => q.2⟩
  · rw [if_neg h, V_none]; exact propext ⟨False.elim, fun q => h q.1⟩
@[simp] theorem V_map {p : Option α} {s : Sto} {Q : α → Sto → Prop} : V (p.map (fun x => (x, s))) Q = P1 p (fun x => Q x s) := by
  cases p with
  | none => simp
  | some a => simp
end
/-! ### one step of the mirrors -/
section
variable {α β : Type} {m : ME α} {f : α → ME β} {e : Env} {st : Sto} {ma mb mc : ME DV} {mq : ME (List DV)} {g g' : G2} {ta tb : ME Bool} {s1 s2 : MS} {ms : List (ME DV)} {d x y : DV} {Q : α → Sto → Prop} {R : β → Sto → Prop} {S : DV → Sto → Prop} {T : List DV → Sto → Prop} {B : Bool → Sto → Prop} {U : Fl → Env → Sto → Prop} {M : (Option Nat × List DV) → Sto → Prop} {I : Option Int → Sto → Prop}
theorem v_bind : V (ME.bind m f e st) R = V (m e st) (fun a s => V (f a e s) R) := by
  unfold ME.bind
  cases m e st with
  | none => simp
  | some p => obtain ⟨a, s⟩ := p; simp
@[simp ↓] theorem v_pure {a : α} : V (ME.pure a e st) Q = Q a st := V_some
@[simp ↓] theorem v_c : V (mC d e st) S = S d st := V_some
@[simp ↓] theorem v_var {i : Nat} : V (mVar i e st) S = P1 e[i]? (fun o => P1 o (fun d => S d st)) := by
  rw [ev_var]
  cases e[i]? with
  | none => simp
  | some o => cases o <;> simp
@[simp ↓] theorem v_bin : V (mBin g ma mb e st) S = V (ma e st) (fun x s => V (mb e s) (fun y s => V (g x y s) S)) := by
  unfold mBin
  rw [v_bind]
  refine V_ext fun x s => ?_
  rw [v_bind]
@[simp ↓] theorem v_tst : V (mTst ma e st) B = V (ma e st) (fun d s => kB d (fun b => B b s)) := by
  unfold mTst
  rw [v_bind]
  refine V_ext fun d s => ?_
  cases d <;> simp [kB]
@[simp ↓] theorem v_chn : V (mChn g g' ma mb mc e st) S = V (ma e st) (fun x s => V (mb e s) (fun y s => V (g x y s) (fun z s => kB z (fun b => cd b (V (mc e s) (fun w s => V (g' y w s) S)) (S (.bl false) s))))) := by
  unfold mChn
  rw [v_bind]
  refine V_ext fun x s => ?_
  rw [v_bind]
  refine V_ext fun y s => ?_
  rw [v_bind]
  refine V_ext fun z s => ?_
  cases z with
  | bl b =>
    rw [kB_bl]
    cases b with
    | false => exact V_some
    | true => exact v_bind
  | _ => simp [kB]
@[simp ↓] theorem v_andT : V (mAndT ta tb e st) B = V (ta e st) (fun b s => cd b (V (tb e s) B) (B false s)) := by
  unfold mAndT
  rw [v_bind]
  refine V_ext fun b s => ?_
  cases b <;> simp
@[simp ↓] theorem v_orT : V (mOrT ta tb e st) B = V (ta e st) (fun b s => cd b (B true s) (V (tb e s) B)) := by
  unfold mOrT
  rw [v_bind]
  refine V_ext fun b s => ?_
  cases b <;> simp
@[simp ↓] theorem v_notT : V (mNotT ta e st) B = V (ta e st) (fun b s => B (!b) s) := by
  unfold mNotT
  rw [v_bind]
  refine V_ext fun b s => ?_
  exact v_pure
@[simp ↓] theorem v_and : V (mAnd ma mb e st) S = V (ma e st) (fun z s => kB z (fun b => cd b (V (mb e s) S) (S (.bl false) s))) := by
  unfold mAnd
  rw [v_bind]
  refine V_ext fun z s => ?_
  cases z with
  | bl b => cases b <;> simp
  | _ => simp [kB]
@[simp ↓] theorem v_or : V (mOr ma mb e st) S = V (ma e st) (fun z s => kB z (fun b => cd b (S (.bl true) s) (V (mb e s) S))) := by
  unfold mOr
  rw [v_bind]
  refine V_ext fun z s => ?_
  cases z with
  | bl b => cases b <;> simp
  | _ => simp [kB]
@[simp ↓] theorem v_not : V (mNot ma e st) S = V (ma e st) (fun z s => kB z (fun b => S (.bl (!b)) s)) := by
  unfold mNot
  rw [v_bind]
  refine V_ext fun z s => ?_
  cases z <;> simp [kB]
@[simp ↓] theorem v_if {a b : ME α} : V (mIf ta a b e st) Q = V (ta e st) (fun c s => cd c (V (a e s) Q) (V (b e s) Q)) := by
  unfold mIf
  rw [v_bind]
  refine V_ext fun b s => ?_
  cases b <;> simp
@[simp ↓] theorem v_args0 : V (mArgs [] e st) T = T [] st := V_some
@[simp ↓] theorem v_args1 : V (mArgs (ma :: ms) e st) T = V (ma e st) (fun d s => V (mArgs ms e s) (fun ds s => T (d :: ds) s)) := by
  show V (ME.bind ma (fun d => ME.bind (mArgs ms) fun ds => ME.pure (d :: ds)) e st) T = _
  rw [v_bind]
  refine V_ext fun d s => ?_
  rw [v_bind]
  refine V_ext fun ds s => ?_
  exact V_some
@[simp ↓] theorem v_tup : V (mTup ms e st) S = V (mArgs ms e st) (fun ds s => S (.tup ds) s) := by
  unfold mTup
  rw [v_bind]
  refine V_ext fun ds s => ?_
  exact V_some
@[simp ↓] theorem v_new : V (mNew mq e st) S = V (mq e st) (fun ds s => le (DV.ref s.length, s ++ [DO.lst ds]) (fun p => S p.1 p.2)) := by
  unfold mNew
  rw [v_bind]
  refine V_ext fun ds s => ?_
  exact V_some
@[simp ↓] theorem v_seq : V (mSeq ma e st) T = V (ma e st) (fun d s => P1 (itemsOf s d) (fun ds => T ds s)) := by
  unfold mSeq
  rw [v_bind]
  refine V_ext fun d s => ?_
  cases itemsOf s d <;> simp
@[simp ↓] theorem v_len : V (mLen mq e st) S = V (mq e st) (fun ds s => S (.int ds.length) s) := by
  unfold mLen
  rw [v_bind]
  refine V_ext fun ds s => ?_
  exact V_some
@[simp ↓] theorem v_tupOf : V (mTupOf mq e st) S = V (mq e st) (fun ds s => S (.tup ds) s) := by
  unfold mTupOf
  rw [v_bind]
  refine V_ext fun ds s => ?_
  exact V_some
@[simp ↓] theorem v_all : V (mAll mq e st) S = V (mq e st) (fun ds s => P1 (toBls ds) (fun bs => S (.bl (bs.all id)) s)) := by
  unfold mAll
  rw [v_bind]
  refine V_ext fun ds s => ?_
  cases toBls ds <;> simp
@[simp ↓] theorem v_any : V (mAny mq e st) S = V (mq e st) (fun ds s => P1 (toBls ds) (fun bs => S (.bl (bs.any id)) s)) := by
  unfold mAny
  rw [v_bind]
  refine V_ext fun ds s => ?_
  cases toBls ds <;> simp
@[simp ↓] theorem v_sum : V (mSum mq e st) S = V (mq e st) (fun ds s => P1 (toIs ds) (fun bs => S (.int bs.sum) s)) := by
  unfold mSum
  rw [v_bind]
  refine V_ext fun ds s => ?_
  cases toIs ds <;> simp
/-- int(d) -/
def intD : DV → Option Int
  | .int i => some i
  | .bl b => some (if b then 1 else 0)
  | _ => none
@[simp] theorem intD_int {i : Int} : intD (.int i) = some i := rfl
@[simp] theorem intD_bl {b : Bool} : intD (.bl b) = some (if b then 1 else 0) := rfl
@[simp ↓] theorem v_int : V (mInt ma e st) S = V (ma e st) (fun d s => P1 (intD d) (fun i => S (.int i) s)) := by
  unfold mInt
  rw [v_bind]
  refine V_ext fun d s => ?_
  cases d <;> simp [intD]
@[simp ↓] theorem v_min2 : V (mMin2 ma mb e st) S = V (ma e st) (fun x s => V (mb e s) (fun y s => kI x (fun i => kI y (fun j => S (.int (if j < i then j else i)) s)))) := by
  unfold mMin2
  rw [v_bind]
  refine V_ext fun x s => ?_
  rw [v_bind]
  refine V_ext fun y s => ?_
  cases x <;> cases y <;> simp [kI]
@[simp ↓] theorem v_isi {Ty : String} : V (mIsi Ty ma e st) S = V (ma e st) (fun d s => P1 (tyN s d) (fun t => S (.bl (isT Ty t)) s)) := by
  unfold mIsi
  rw [v_bind]
  refine V_ext fun d s => ?_
  cases tyN s d <;> simp
@[simp ↓] theorem v_dnew : V (mDNew e st) S = le (DV.ref st.length, st ++ [DO.dct []]) (fun p => S p.1 p.2) := V_some
@[simp ↓] theorem v_rg1 : V (mRg1 ma e st) T = V (ma e st) (fun d s => kI d (fun n => gd (okR 0 n = true) (T (rgD 0 n) s))) := by
  unfold mRg1
  rw [v_bind]
  refine V_ext fun d s => ?_
  cases d <;> simp [kI, gd]
@[simp ↓] theorem v_rg2 : V (mRg2 ma mb e st) T = V (ma e st) (fun x s => V (mb e s) (fun y s => kI x (fun i => kI y (fun j => gd (okR i j = true) (T (rgD i j) s))))) := by
  unfold mRg2
  rw [v_bind]
  refine V_ext fun x s => ?_
  rw [v_bind]
  refine V_ext fun y s => ?_
  cases x <;> cases y <;> simp [kI, gd]
@[simp ↓] theorem v_some : V (mSome ma e st) I = V (ma e st) (fun d s => kI d (fun i => I (some i) s)) := by
  unfold mSome
  rw [v_bind]
  refine V_ext fun d s => ?_
  cases d <;> simp [kI]
@[simp ↓] theorem v_sl {l h : MO} : V (mSl ma l h e st) S = V (ma e st) (fun x s => V (l e s) (fun lo s => V (h e s) (fun hi s => V (gSl x lo hi s) S))) := by
  unfold mSl
  rw [v_bind]
  refine V_ext fun x s => ?_
  rw [v_bind]
  refine V_ext fun lo s => ?_
  rw [v_bind]
@[simp ↓] theorem v_call {F : FM} : V (mCall F ms e st) S = V (mArgs ms e st) (fun ds s => V (F ds s) S) := by
  unfold mCall
  rw [v_bind]
@[simp ↓] theorem v_neg : V (mNeg ma e st) S = V (ma e st) (fun d s => kI d (fun i => S (.int (-i)) s)) := by
  unfold mNeg
  rw [v_bind]
  refine V_ext fun d s => ?_
  cases d <;> simp [kI]
@[simp ↓] theorem v_srt : V (mSrt mq e st) T = V (mq e st) (fun ds s => P1 (toIs ds) (fun ns => T ((isort ns).map DV.int) s)) := by
  unfold mSrt
  rw [v_bind]
  refine V_ext fun d s => ?_
  cases toIs d <;> simp
/-- the items of a tuple of numbers -/
def tupI : DV → Option (List Int)
  | .tup ds => toIs ds
  | _ => none
@[simp ↓] theorem v_lenSet : V (mLenSet ma e st) S = V (ma e st) (fun d s => P1 (tupI d) (fun ns => gd (ns.Nodup ∧ ns.length ≤ 1000) (S (.int ns.length) s))) := by
  unfold mLenSet
  rw [v_bind]
  refine V_ext fun d s => ?_
  cases d with
  | tup ds => show V (match toIs ds with | some ns => _ | none => _) _ = P1 (toIs ds) _; cases toIs ds <;> simp [gd]
  | _ => simp [tupI]
@[simp ↓] theorem v_itV : V (itV ma e st) M = V (ma e st) (fun d s => P1 (itemsOf s d) (fun ds => M (srcOf d, ds) s)) := by
  unfold itV
  rw [v_bind]
  refine V_ext fun d s => ?_
  cases itemsOf s d <;> simp
@[simp ↓] theorem v_itF : V (itF mq e st) M = V (mq e st) (fun ds s => M (none, ds) s) := by
  unfold itF
  rw [v_bind]
  refine V_ext fun ds s => ?_
  exact V_some
@[simp ↓] theorem v_kix {tbl : List (Str × DV)} : V (mKix tbl ma e st) S = V (ma e st) (fun d s => kS d (fun z => P1 (lookS tbl z) (fun x => S x s))) := by
  unfold mKix
  rw [v_bind]
  refine V_ext fun d s => ?_
  cases d <;> simp [kS]
@[simp ↓] theorem v_kin {neg : Bool} {tbl : List (Str × DV)} : V (mKin neg tbl ma e st) S = V (ma e st) (fun d s => V (gKin neg tbl d s) S) := by
  unfold mKin
  rw [v_bind]
@[simp] theorem v_gkin {neg : Bool} {tbl : List (Str × DV)} {z : Str} : V (gKin neg tbl (.str z) st) S = P1 (lookS tbl z) (fun _ => S (.bl (!neg)) st) := by
  show V (match lookS tbl z with | some _ => _ | none => _) S = _
  cases lookS tbl z <;> simp
@[simp ↓] theorem v_kcall {tbl : List (Str × FM)} : V (mKcall tbl ma ms e st) S = V (ma e st) (fun d s => kS d (fun z => P1 (lookF tbl z) (fun F => V (mArgs ms e s) (fun ds s => V (F ds s) S)))) := by
  unfold mKcall
  rw [v_bind]
  refine V_ext fun d s => ?_
  cases d with
  | str z =>
    rw [kS_str]
    show V (match lookF tbl z with | some F => _ | none => _) S = _
    cases lookF tbl z with
    | none => simp
    | some F => simp
  | _ => simp [kS]
/-- the dict at a place -/
def dctOf (st : Sto) : DV → Option (List (Key × DV))
  | .ref l => match st[l]? with
    | some (.dct kvs) => some kvs
    | _ => none
  | _ => none
@[simp] theorem dctOf_ref {l : Nat} : dctOf st (.ref l) = (match st[l]? with | some (.dct kvs) => some kvs | _ => none) := rfl
@[simp ↓] theorem v_get2 : V (mGet2 ma mb mc e st) S = V (ma e st) (fun x s => P1 (dctOf s x) (fun _ => V (mb e s) (fun y s => V (mc e s) (fun z s => P1 (dctOf s x) (fun kvs => P1 (keyD y) (fun k => S ((valD kvs k).getD z) s)))))) := by
  unfold mGet2
  rw [v_bind]
  refine V_ext fun x s => ?_
  cases x with
  | ref l =>
    rw [dctOf_ref]
    simp only
    cases h : s[l]? with
    | none => simp
    | some c =>
      cases c with
      | lst _ => simp
      | dcn _ _ => simp
      | dct kvs =>
        simp only [P1_some]
        rw [v_bind]
        refine V_ext fun y s => ?_
        rw [v_bind]
        refine V_ext fun z s => ?_
        rw [dctOf_ref]
        cases s[l]? with
        | none => simp
        | some c =>
          cases c with
          | lst _ => simp
          | dcn _ _ => simp
          | dct kvs =>
            simp only [P1_some]
            cases keyD y <;> simp
  | _ => simp [dctOf]
@[simp ↓] theorem v_dictOf : V (mDictOf ma e st) S = V (ma e st) (fun x s => P1 (dctOf s x) (fun kvs => le (DV.ref s.length, s ++ [DO.dct kvs]) (fun p => S p.1 p.2))) := by
  unfold mDictOf
  rw [v_bind]
  refine V_ext fun x s => ?_
  cases x with
  | ref l =>
    rw [dctOf_ref]
    simp only
    cases h : s[l]? with
    | none => simp
    | some c => cases c <;> simp
  | _ => simp [dctOf]
/-- the list at a place, and the place -/
def lstOf (st : Sto) : DV → Option (Nat × List DV)
  | .ref l => match st[l]? with
    | some (.lst ds) => some (l, ds)
    | _ => none
  | _ => none
@[simp] theorem lstOf_ref {l : Nat} : lstOf st (.ref l) = (match st[l]? with | some (.lst ds) => some (l, ds) | _ => none) := rfl
@[simp ↓] theorem v_app : V (mApp ma mb e st) S = V (ma e st) (fun x s => P1 (itemsOf s x) (fun _ => V (mb e s) (fun y s => P1 (lstOf s x) (fun p => gd (p.2.length < LIM) (le (s.set p.1 (.lst (p.2 ++ [y]))) (fun s => S .non s)))))) := by
  unfold mApp
  rw [v_bind]
  refine V_ext fun x s => ?_
  cases itemsOf s x with
  | none => simp
  | some ds0 =>
    simp only [P1_some, v_bind]
    refine V_ext fun y s => ?_
    cases x with
    | ref l =>
      rw [lstOf_ref]
      simp only
      cases h : s[l]? with
      | none => simp
      | some c => cases c <;> simp [gd]
    | _ => simp [lstOf]
@[simp ↓] theorem v_pairs0 {T : List (Key × DV) → Sto → Prop} : V (mPairs [] e st) T = T [] st := V_some
@[simp ↓] theorem v_pairs1 {r : List (ME DV × ME DV)} {T : List (Key × DV) → Sto → Prop} : V (mPairs ((ma, mb) :: r) e st) T = V (ma e st) (fun x s => V (mb e s) (fun y s => V (mPairs r e s) (fun ps s => P1 (keyD x) (fun k => T ((k, y) :: ps) s)))) := by
  show V (ME.bind ma (fun x => ME.bind mb fun y => ME.bind (mPairs r) fun ps => fun _ st => match keyD x with | some k => some ((k, y) :: ps, st) | none => none) e st) T = _
  rw [v_bind]
  refine V_ext fun x s => ?_
  rw [v_bind]
  refine V_ext fun y s => ?_
  rw [v_bind]
  refine V_ext fun ps s => ?_
  cases keyD x <;> simp
@[simp ↓] theorem v_disp {l : List (ME DV × ME DV)} : V (mDisp l e st) S = V (mPairs l e st) (fun kvs s => gd (kvs.length ≤ 15) (le (DV.ref s.length, s ++ [DO.dct (mergeD [] kvs)]) (fun p => S p.1 p.2))) := by
  unfold mDisp
  rw [v_bind]
  refine V_ext fun kvs s => ?_
  by_cases h : kvs.length ≤ 15
  · rw [if_pos h, gd_h h, V_some, le_eq]
  · rw [if_neg h, gd_n h, V_none]
@[simp] theorem ev_dget {l : Nat} {st : Sto} {Q : DV → Sto → Prop} : V (gDGet (.ref l) y st) Q = P1 (dctOf st (.ref l)) (fun kvs => P1 (keyD y) (fun k => P1 (valD kvs k) (fun d => Q d st))) := by
  rw [dctOf_ref]
  show V (match st[l]?, keyD y with | some (.dct kvs), some k => (valD kvs k).map (·, st) | _, _ => none) Q = _
  cases st[l]? with
  | none => simp
  | some c =>
    cases c with
    | lst _ => simp
    | dcn _ _ => simp
    | dct kvs => cases keyD y <;> simp
@[simp] theorem cnt_int {k : Int} {ns : List Int} : cntD (.int k) ns = some (ns.count k : Nat) := rfl
@[simp] theorem cnt_non {ns : List Int} : cntD .non ns = some 0 := rfl
@[simp ↓] theorem v_cnt : V (mCnt ma mb e st) S = V (ma e st) (fun x s => P1 (itemsOf s x) (fun _ => V (mb e s) (fun y s => P1 (lstOf s x) (fun p => P1 (toIs p.2) (fun ns => P1 (cntD y ns) (fun i => S (.int i) s)))))) := by
  unfold mCnt
  rw [v_bind]
  refine V_ext fun x s => ?_
  cases itemsOf s x with
  | none => simp
  | some ds0 =>
    simp only [P1_some, v_bind]
    refine V_ext fun y s => ?_
    cases x with
    | ref l =>
      rw [lstOf_ref]
      cases h : s[l]? with
      | none => simp [h]
      | some c =>
        cases c with
        | lst ds =>
          simp only [P1_some, h]
          cases toIs ds with
          | none => simp
          | some ns => simp only [P1_some]; cases cntD y ns <;> simp
        | _ => simp [h]
    | _ => simp [lstOf]
@[simp ↓] theorem v_lc {mi : MI} {vs : List Nat} {t : CT} : V (mLc mi vs t ta ma e st) T = V (mi e st) (fun p s => V (lcD p.1 p.2 vs t ta ma e p.2 s) T) := by
  unfold mLc
  cases mi e st with
  | none => simp
  | some p => obtain ⟨⟨a, b⟩, c⟩ := p; simp
/-! ### statements -/
@[simp ↓] theorem w_skip : W (sSkip e st) U = U .nx e st := W_some
@[simp ↓] theorem w_seq : W (sSeq s1 s2 e st) U = W (s1 e st) (fun f e s => nxt f (W (s2 e s) U) (U f e s)) := by
  unfold sSeq
  cases s1 e st with
  | none => simp
  | some p => obtain ⟨f, e, s⟩ := p; cases f <;> simp
@[simp ↓] theorem w_expr : W (sExpr ma e st) U = V (ma e st) (fun _ s => U .nx e s) := by
  unfold sExpr
  cases ma e st with
  | none => simp
  | some p => obtain ⟨d, s⟩ := p; simp
@[simp ↓] theorem w_ret : W (sRet ma e st) U = V (ma e st) (fun d s => U (.rt d) e s) := by
  unfold sRet
  cases ma e st with
  | none => simp
  | some p => obtain ⟨d, s⟩ := p; simp
@[simp ↓] theorem w_if : W (sIf ta s1 s2 e st) U = V (ta e st) (fun b s => cd b (W (s1 e s) U) (W (s2 e s) U)) := by
  unfold sIf
  cases ta e st with
  | none => simp
  | some p => obtain ⟨d, s⟩ := p; cases d <;> simp
@[simp ↓] theorem w_asg {g : MG} : W (sAsg g ma e st) U = V (ma e st) (fun d s => V (g d e s) (fun e s => U .nx e s)) := by
  unfold sAsg
  cases ma e st with
  | none => simp
  | some p =>
    obtain ⟨d, s⟩ := p
    simp only [V_some]
    cases g d e s with
    | none => simp
    | some p => obtain ⟨d, s⟩ := p; simp
@[simp ↓] theorem w_set {i : Nat} : W (sSet i ma e st) U = V (ma e st) (fun d s => le (e.set i (some d)) (fun e => U .nx e s)) := by
  rw [show sSet i ma = sAsg (tgN i) ma from rfl, w_asg]
  exact V_ext fun d s => V_some
/-- two items -/
def two (ds : List DV) (S : DV → DV → Prop) : Prop := ∃ c d, ds = [c, d] ∧ S c d
@[simp] theorem two_of {c d : DV} {S : DV → DV → Prop} : two [c, d] S = S c d := propext ⟨fun ⟨_, _, h, q⟩ => by cases h; exact q, fun q => ⟨_, _, rfl, q⟩⟩
@[simp ↓] theorem w_par {i j : Nat} : W (sPar i j ma mb e st) U = V (ma e st) (fun c s => V (mb e s) (fun d s => le ((e.set i (some c)).set j (some d)) (fun e => U .nx e s))) := by
  unfold sPar
  rw [ev_args1]
  cases ma e st with
  | none => simp
  | some p =>
    obtain ⟨c, s⟩ := p
    simp only [V_some, ev_args1, ev_args0]
    cases mb e s with
    | none => simp
    | some p => obtain ⟨d, s⟩ := p; simp
@[simp ↓] theorem w_for {mi : MI} {g : MG} : W (sFor mi g s1 e st) U = V (mi e st) (fun p s => W (forD p.1 p.2 g s1 p.2 e s) U) := by
  unfold sFor
  cases mi e st with
  | none => simp
  | some p => obtain ⟨⟨a, b⟩, c⟩ := p; simp
@[simp ↓] theorem v_tgI {ma mb : ME DV} {U : Env → Sto → Prop} : V (tgI ma mb d e st) U = V (ma e st) (fun x s => V (mb e s) (fun y s => P1 (gSet x y d s) (fun s => U e s))) := by
  unfold tgI
  cases ma e st with
  | none => simp
  | some p =>
    obtain ⟨c, s⟩ := p
    simp only [V_some]
    cases mb e s with
    | none => simp
    | some p =>
      obtain ⟨d', s⟩ := p
      simp only [V_some]
      cases gSet c d' d s <;> simp
@[simp ↓] theorem v_tgs0 {U : Env → Sto → Prop} : V (tgs [] [] e st) U = U e st := V_some
@[simp ↓] theorem v_tgs1 {g : MG} {gs : List MG} {ds : List DV} {U : Env → Sto → Prop} : V (tgs (g :: gs) (d :: ds) e st) U = V (g d e st) (fun e s => V (tgs gs ds e s) U) := by
  rw [ev_tgs1]
  cases g d e st with
  | none => simp
  | some p => obtain ⟨d, s⟩ := p; simp
@[simp ↓] theorem v_body {n : Nat} {ds : List DV} : V (bodyM n s1 ds st) S = le (ds.map some ++ List.replicate (n - ds.length) none) (fun e => W (s1 e st) (fun f _ s => rtn f (fun d => S d s))) := by
  rw [le_eq]
  unfold bodyM
  cases s1 (ds.map some ++ List.replicate (n - ds.length) none) st with
  | none => simp
  | some p => obtain ⟨f, e, s⟩ := p; cases f <;> simp [rtn]
@[simp] theorem ctD_nm {i : Nat} : ctD (.nm i) d e = some (e.set i (some d)) := rfl
@[simp] theorem ctD_tp {is : List Nat} {ds : List DV} : ctD (.tp is) (.tup ds) e = setAll is ds e := rfl
@[simp] theorem setAll0 : setAll [] [] e = some e := rfl
@[simp] theorem setAll1 {i : Nat} {is : List Nat} {ds : List DV} : setAll (i :: is) (d :: ds) e = setAll is ds (e.set i (some d)) := rfl
@[simp] theorem wipe0 : wipeE e [] = e := rfl
@[simp] theorem wipe1 {i : Nat} {is : List Nat} : wipeE e (i :: is) = (wipeE e is).set i none := rfl
end
/-! ### loops -/
section
variable {s : Option Nat} {all : List DV}
theorem for_W {g : MG} {m : MS} {r : List DV} {e : Env} {st : Sto} {Q : Fl → Env → Sto → Prop} (P : Nat → Env → Sto → Prop) (h0 : P 0 e st) (hs : ∀ i e st, P i e st → stays s all st)
    (step : ∀ i d e st, r[i]? = some d → P i e st → V (g d e st) fun e1 s1 => W (m e1 s1) fun f e2 s2 => lp f (P (i + 1) e2 s2) (fun f => Q f e2 s2))
    (fin : ∀ e st, P r.length e st → Q .nx e st) : W (forD s all g m r e st) Q := by
  have key : ∀ (k i : Nat) (e : Env) (st : Sto), i + k = r.length → P i e st → W (forD s all g m (r.drop i) e st) Q := by
    intro k
    induction k with
    | zero =>
      intro i e st hi hp
      have ei : i = r.length := by omega
      subst ei
      rw [List.drop_length]
      unfold forD
      rw [if_pos (hs _ _ _ hp), W_some]
      exact fin _ _ hp
    | succ k ih =>
      intro i e st hi hp
      have hlt : i < r.length := by omega
      rw [List.drop_eq_getElem_cons hlt]
      obtain ⟨e1, s1, h1, f, e2, s2, h2, h3⟩ := step i r[i] e st (List.getElem?_eq_getElem hlt) hp
      unfold forD
      rw [if_pos (hs _ _ _ hp)]
      simp only [h1, h2]
      cases f with
      | nx => exact ih (i + 1) e2 s2 (by omega) h3
      | ct => exact ih (i + 1) e2 s2 (by omega) h3
      | bk => exact ⟨_, _, _, rfl, h3⟩
      | rt d => exact ⟨_, _, _, rfl, h3⟩
  have := key r.length 0 e st (by omega) h0
  simpa using this
theorem lc_V {vs : List Nat} {t : CT} {mt : ME Bool} {me : ME DV} {e : Env} {r : List DV} {st : Sto} {Q : List DV → Sto → Prop} (P : Nat → List DV → Sto → Prop) (h0 : P 0 [] st) (hs : ∀ i acc st, P i acc st → stays s all st)
    (step : ∀ i d acc st, r[i]? = some d → P i acc st → P1 (ctD t d (wipeE e vs)) fun e1 => V (mt e1 st) fun c s1 => cd c (V (me e1 s1) fun x s2 => P (i + 1) (acc ++ [x]) s2) (P (i + 1) acc s1))
    (fin : ∀ acc st, P r.length acc st → Q acc st) : V (lcD s all vs t mt me e r st) Q := by
  have key : ∀ (k i : Nat) (acc : List DV) (st : Sto), i + k = r.length → P i acc st → ∃ ys st', lcD s all vs t mt me e (r.drop i) st = some (ys, st') ∧ P r.length (acc ++ ys) st' := by
    intro k
    induction k with
    | zero =>
      intro i acc st hi hp
      have ei : i = r.length := by omega
      subst ei
      rw [List.drop_length]
      unfold lcD
      rw [if_pos (hs _ _ _ hp)]
      exact ⟨[], st, rfl, by simpa using hp⟩
    | succ k ih =>
      intro i acc st hi hp
      have hlt : i < r.length := by omega
      rw [List.drop_eq_getElem_cons hlt]
      obtain ⟨e1, h1, c, s1, h2, h3⟩ := step i r[i] acc st (List.getElem?_eq_getElem hlt) hp
      unfold lcD
      rw [if_pos (hs _ _ _ hp)]
      cases c with
      | true =>
        obtain ⟨x, s2, h4, h5⟩ := h3
        obtain ⟨ys, st', h6, h7⟩ := ih (i + 1) (acc ++ [x]) s2 (by omega) h5
        simp only [h1, h2, h4, h6]
        exact ⟨_, _, rfl, by simpa using h7⟩
      | false =>
        obtain ⟨ys, st', h6, h7⟩ := ih (i + 1) acc s1 (by omega) h3
        simp only [h1, h2, h6]
        exact ⟨_, _, rfl, h7⟩
  obtain ⟨ys, st', h1, h2⟩ := key r.length 0 [] st (by omega) h0
  rw [List.drop_zero] at h1
  exact ⟨ys, st', h1, fin _ _ (by simpa using h2)⟩
/-- a comprehension over what stands for xs, whose parts leave the store as it is -/
theorem lc_pure {β : Type} {vs : List Nat} {t : CT} {mt : ME Bool} {me : ME DV} {e : Env} {st : Sto} {Q : List DV → Sto → Prop} (xs : List β) (g : β → DV) (p : β → Bool) (f : β → DV) {r : List DV} (hr : r = xs.map g) (hs : stays s all st)
    (h : ∀ x ∈ xs, P1 (ctD t (g x) (wipeE e vs)) fun e1 => V (mt e1 st) fun c s1 => c = p x ∧ s1 = st ∧ (c = true → V (me e1 st) fun d s2 => d = f x ∧ s2 = st))
    (fin : Q ((xs.filter p).map f) st) : V (lcD s all vs t mt me e r st) Q := by
  subst hr
  refine ⟨_, _, ?_, fin⟩
  clear fin
  induction xs with
  | nil =>
    unfold lcD
    simp only [List.map_nil, if_pos hs, List.filter_nil]
  | cons x xs ih =>
    have ih := ih fun y hy => h y (List.mem_cons_of_mem _ hy)
    obtain ⟨e1, h1, c, s1, h2, rfl, rfl, h3⟩ := h x List.mem_cons_self
    rw [List.map_cons]
    unfold lcD
    rw [if_pos hs]
    simp only [h1, h2]
    cases q : p x with
    | true =>
      obtain ⟨d, s2, h4, rfl, rfl⟩ := h3 q
      simp only [h4, ih, List.filter_cons, q, if_true, List.map_cons]
    | false => simp only [ih, List.filter_cons, q]; rfl
/-- one that takes all -/
theorem lc_map {β : Type} {vs : List Nat} {t : CT} {me : ME DV} {e : Env} {st : Sto} {Q : List DV → Sto → Prop} (xs : List β) (g : β → DV) (f : β → DV) {r : List DV} (hr : r = xs.map g) (hs : stays s all st)
    (h : ∀ x ∈ xs, P1 (ctD t (g x) (wipeE e vs)) fun e1 => V (me e1 st) fun d s2 => d = f x ∧ s2 = st)
    (fin : Q (xs.map f) st) : V (lcD s all vs t (ME.pure true) me e r st) Q := by
  refine lc_pure xs g (fun _ => true) f hr hs (fun x hx => ?_) ?_
  · obtain ⟨e1, h1, h2⟩ := h x hx
    refine ⟨e1, h1, _, _, rfl, rfl, rfl, fun _ => h2⟩
  · rw [List.filter_eq_self.mpr fun _ _ => rfl]
    exact fin
theorem lc_nil {vs : List Nat} {t : CT} {mt : ME Bool} {me : ME DV} {e : Env} {st : Sto} {Q : List DV → Sto → Prop} : V (lcD s all vs t mt me e [] st) Q = gd (stays s all st) (Q [] st) := by
  unfold lcD
  by_cases h : stays s all st
  · rw [if_pos h, V_some, gd_h h]
  · rw [if_neg h, gd_n h, V_none]
theorem lc_cons {vs : List Nat} {t : CT} {mt : ME Bool} {me : ME DV} {e : Env} {d : DV} {r : List DV} {st : Sto} {Q : List DV → Sto → Prop} : V (lcD s all vs t mt me e (d :: r) st) Q = gd (stays s all st) (P1 (ctD t d (wipeE e vs)) fun e1 => V (mt e1 st) fun b s1 => cd b (V (me e1 s1) fun y s2 => V (lcD s all vs t mt me e r s2) fun ys s3 => Q (y :: ys) s3) (V (lcD s all vs t mt me e r s1) Q)) := by
  unfold lcD
  by_cases h : stays s all st
  · rw [if_pos h, gd_h h]
    cases ctD t d (wipeE e vs) with
    | none => simp
    | some e1 =>
      simp only [P1_some]
      cases mt e1 st with
      | none => simp
      | some p =>
        obtain ⟨b, s1⟩ := p
        cases b with
        | true =>
          simp only [V_some, cd_t]
          cases me e1 s1 with
          | none => simp
          | some p =>
            obtain ⟨y, s2⟩ := p
            simp only [V_some]
            cases lcD s all vs t mt me e r s2 with
            | none => simp
            | some p => obtain ⟨ys, s3⟩ := p; simp
        | false => simp only [V_some, cd_f]
  · rw [if_neg h, gd_n h, V_none]
@[simp] theorem stays_no {all : List DV} {st : Sto} : stays none all st = True := rfl
@[simp] theorem stays_at {l : Nat} {all : List DV} {st : Sto} : stays (some l) all st = (st[l]? = some (.lst all)) := rfl
/-- two for, whose parts leave the store as it is -/
theorem lc2_pure {β : Type} {vs vs1 : List Nat} {t t1 : CT} {mt mt1 : ME Bool} {mi1 : MI} {me : ME DV} {e : Env} {st : Sto} {Q : List DV → Sto → Prop} (xs : List β) (g : β → DV) (p : β → Bool) (F : β → List DV) {r : List DV} (hr : r = xs.map g) (hs : stays s all st)
    (h : ∀ x ∈ xs, P1 (ctD t (g x) (wipeE e vs)) fun e1 => V (mt e1 st) fun c s1 => c = p x ∧ s1 = st ∧ (c = true → V (mi1 e1 st) fun q s2 => s2 = st ∧ V (lcD q.1 q.2 vs1 t1 mt1 me e1 q.2 st) fun ds s3 => ds = F x ∧ s3 = st))
    (fin : Q ((xs.filter p).flatMap F) st) : V (lc2D s all vs t mt mi1 vs1 t1 mt1 me e r st) Q := by
  subst hr
  refine ⟨_, _, ?_, fin⟩
  clear fin
  induction xs with
  | nil =>
    unfold lc2D
    simp only [List.map_nil, if_pos hs, List.filter_nil, List.flatMap_nil]
  | cons x xs ih =>
    have ih := ih fun y hy => h y (List.mem_cons_of_mem _ hy)
    obtain ⟨e1, h1, c, s1, h2, rfl, rfl, h3⟩ := h x List.mem_cons_self
    rw [List.map_cons]
    unfold lc2D
    rw [if_pos hs]
    simp only [h1, h2]
    cases q : p x with
    | true =>
      obtain ⟨d, s2, h4, rfl, ds, s3, h5, rfl, rfl⟩ := h3 q
      simp only [h4, h5, ih, List.filter_cons, q, if_true, List.flatMap_cons]
    | false => simp only [ih, List.filter_cons, q]; rfl
theorem lc2_map {β : Type} {vs vs1 : List Nat} {t t1 : CT} {mt1 : ME Bool} {mi1 : MI} {me : ME DV} {e : Env} {st : Sto} {Q : List DV → Sto → Prop} (xs : List β) (g : β → DV) (F : β → List DV) (L : List DV) (hL : xs.flatMap F = L) {r : List DV} (hr : r = xs.map g) (hs : stays s all st)
    (h : ∀ x ∈ xs, P1 (ctD t (g x) (wipeE e vs)) fun e1 => V (mi1 e1 st) fun q s2 => s2 = st ∧ V (lcD q.1 q.2 vs1 t1 mt1 me e1 q.2 st) fun ds s3 => ds = F x ∧ s3 = st)
    (fin : Q L st) : V (lc2D s all vs t (ME.pure true) mi1 vs1 t1 mt1 me e r st) Q := by
  refine lc2_pure xs g (fun _ => true) F hr hs (fun x hx => ?_) ?_
  · obtain ⟨e1, h1, h2⟩ := h x hx
    exact ⟨e1, h1, _, _, rfl, rfl, rfl, fun _ => h2⟩
  · rw [List.filter_eq_self.mpr fun _ _ => rfl, hL]
    exact fin
@[simp ↓] theorem v_lc2 {mi mi1 : MI} {vs vs1 : List Nat} {t t1 : CT} {ta ta1 : ME Bool} {ma : ME DV} {e : Env} {st : Sto} {T : List DV → Sto → Prop} : V (mLc2 mi vs t ta mi1 vs1 t1 ta1 ma e st) T = V (mi e st) (fun p s => V (lc2D p.1 p.2 vs t ta mi1 vs1 t1 ta1 ma e p.2 s) (fun ys s => gd (ys.length ≤ LIM) (T ys s))) := by
  unfold mLc2
  cases mi e st with
  | none => simp
  | some p =>
    obtain ⟨⟨a, b⟩, c⟩ := p
    simp only [V_some]
    cases lc2D a b vs t ta mi1 vs1 t1 ta1 ma e b c with
    | none => simp
    | some p => obtain ⟨ys, s⟩ := p; simp [gd]
end
/-! ### ends of functions -/
/-- a store that has grown -/
def Pre (st s : Sto) : Prop := ∃ g, s = st ++ g
@[simp] theorem pre_st {st : Sto} : Pre st st = True := propext ⟨fun _ => trivial, fun _ => ⟨[], by simp⟩⟩
@[simp] theorem pre_app {st g : Sto} : Pre st (st ++ g) = True := propext ⟨fun _ => trivial, fun _ => ⟨g, rfl⟩⟩
theorem Pre.app {st s : Sto} (h : Pre st s) (g : Sto) : Pre st (s ++ g) := by
  obtain ⟨a, rfl⟩ := h
  exact ⟨a ++ g, by simp⟩
theorem Pre.trans {st s t : Sto} (h : Pre st s) (h' : Pre s t) : Pre st t := by
  obtain ⟨a, rfl⟩ := h'
  exact h.app a
theorem Pre.get {st s : Sto} (h : Pre st s) {l : Nat} {o : DO} (q : st[l]? = some o) : s[l]? = some o := by
  obtain ⟨g, rfl⟩ := h
  rw [List.getElem?_append_left (List.getElem?_eq_some_iff.mp q).1]; exact q
theorem Pre.set {st s : Sto} (h : Pre st s) {l : Nat} (hl : st.length ≤ l) (o : DO) : Pre st (s.set l o) := by
  obtain ⟨g, rfl⟩ := h
  exact ⟨g.set (l - st.length) o, List.set_append_right _ _ hl⟩
theorem Pre.len {st s : Sto} (h : Pre st s) : st.length ≤ s.length := by
  obtain ⟨g, rfl⟩ := h
  simp
theorem pre1 {st : Sto} : Pre st st := ⟨[], by simp⟩
theorem pre2 {st g : Sto} : Pre st (st ++ g) := ⟨g, rfl⟩
theorem trim_V {F : FM} {ds : List DV} {st : Sto} {d : DV} (h : V (F ds st) fun d' s' => d' = d ∧ Pre st s') (hd : ltD st.length d = true) : trim F ds st = some (d, st) := by
  obtain ⟨_, _, h1, rfl, g, rfl⟩ := h
  exact trim_pure h1 hd
theorem trimL_V {F : FM} {ds : List DV} {st : Sto} {o : DO} (h : V (F ds st) fun d' s' => ∃ l, d' = .ref (st.length + l) ∧ Pre st s' ∧ s'[st.length + l]? = some o) (ho : ltO st.length o = true) : trimL F ds st = some (.ref st.length, st ++ [o]) := by
  obtain ⟨_, _, h1, l, rfl, ⟨g, rfl⟩, h2⟩ := h
  refine trimL_eq h1 ?_ ho
  rw [List.getElem?_append_right (Nat.le_add_right _ _), Nat.add_sub_cancel_left] at h2
  exact h2
theorem app_get {st g : Sto} {k : Nat} : (st ++ g)[st.length + k]? = g[k]? := by
  rw [List.getElem?_append_right (Nat.le_add_right _ _), Nat.add_sub_cancel_left]
theorem app_get0 {st g : Sto} : (st ++ g)[st.length]? = g[0]? := app_get (k := 0)
@[simp] theorem ev_itemsR {st : Sto} {l : Nat} : itemsOf st (.ref l) = (match st[l]? with | some (.lst ds) => some ds | _ => none) := rfl
theorem app_old {st g : Sto} {l : Nat} {o : DO} (h : st[l]? = some o) : (st ++ g)[l]? = some o := by
  rw [List.getElem?_append_left (List.getElem?_eq_some_iff.mp h).1]; exact h
theorem app_set {st g : Sto} {k : Nat} {o : DO} : (st ++ g).set (st.length + k) o = st ++ g.set k o := by
  rw [List.set_append_right _ _ (Nat.le_add_right _ _), Nat.add_sub_cancel_left]
theorem app_set0 {st g : Sto} {o : DO} : (st ++ g).set st.length o = st ++ g.set 0 o := app_set (k := 0)
theorem app_oset {st g : Sto} {l : Nat} {o : DO} (h : l < st.length) : (st ++ g).set l o = st.set l o ++ g := List.set_append_left _ _ h
/-! ### slices, ends -/
theorem cut_from {α : Type} {xs : List α} {i : Int} (h : 0 ≤ i) : cutD xs (some i) none = xs.drop i.toNat := by
  unfold cutD HT.sIx
  simp only [if_neg (Int.not_lt.mpr h)]
  rw [List.take_of_length_le (by simp)]
  by_cases q : i.toNat ≤ xs.length
  · rw [Nat.min_eq_left q]
  · rw [Nat.min_eq_right (by omega), List.drop_eq_nil_of_le (Nat.le_refl _), List.drop_eq_nil_of_le (by omega)]
theorem cut_to {α : Type} {xs : List α} {i : Int} (h : 0 ≤ i) : cutD xs none (some i) = xs.take i.toNat := by
  unfold cutD HT.sIx
  simp only [if_neg (Int.not_lt.mpr h), List.drop_zero, Nat.sub_zero]
  by_cases q : i.toNat ≤ xs.length
  · rw [Nat.min_eq_left q]
  · rw [Nat.min_eq_right (by omega), List.take_of_length_le (Nat.le_refl _), List.take_of_length_le (by omega)]
theorem cut_last {α : Type} {xs : List α} : cutD xs none (some (-1)) = xs.dropLast := by
  unfold cutD HT.sIx
  simp only [if_pos (show (-1 : Int) < 0 by decide), List.drop_zero, Nat.sub_zero]
  have : (-1 + (xs.length : Int)).toNat = xs.length - 1 := by omega
  rw [this, List.dropLast_eq_take]
theorem at_last {α : Type} {xs : List α} : atI xs (-1) = xs.getLast? := by
  unfold atI ixN
  rw [if_neg (by decide), List.getLast?_eq_getElem?]
  cases xs with
  | nil => rfl
  | cons x r =>
    rw [if_pos (by simp; omega)]
    have : ((-1 : Int) + ((x :: r).length : Nat)).toNat = (x :: r).length - 1 := by omega
    simp only [Option.bind_some]
    first | rw [this] | (simp; done)
theorem at_nat {α : Type} {xs : List α} {i : Int} (h : 0 ≤ i) : atI xs i = xs[i.toNat]? := by
  obtain ⟨n, rfl⟩ := Int.eq_ofNat_of_zero_le h
  exact atI_ofNat
theorem rgD_pred (n : Nat) : rgD 0 ((n : Int) - 1) = (List.range (n - 1)).map fun k => DV.int (k : Nat) := by
  unfold rgD
  have : ((n : Int) - 1 - 0).toNat = n - 1 := by omega
  rw [this]
  simp
theorem rgD_lit (n : Nat) : rgD 0 (OfNat.ofNat (n + 2) : Int) = (List.range (n + 2)).map fun k => DV.int (k : Nat) := rgD_map (n + 2)
@[simp] theorem toBls_rep (n : Nat) (b : Bool) : toBls (List.replicate n (DV.bl b)) = some (List.replicate n b) := by
  induction n with
  | zero => rfl
  | succ n ih => simp [List.replicate_succ, toBls, ih]
theorem at_succ {α : Type} {xs : List α} {k : Nat} : atI xs ((k : Int) + 1) = xs[k + 1]? := by
  rw [show (k : Int) + 1 = ((k + 1 : Nat) : Int) by omega, atI_ofNat]
@[simp] theorem tyN_ref {st : Sto} {l : Nat} : tyN st (.ref l) = (match st[l]? with | some (.lst _) => some "list" | some (.dct _) => some "dict" | _ => none) := rfl
/-- the same data, nested at most so deep -/
inductive Same (st : Sto) : Nat → DV → DV → Prop
  | non (n : Nat) : Same st n .non .non
  | bl (n : Nat) (b : Bool) : Same st n (.bl b) (.bl b)
  | int (n : Nat) (i : Int) : Same st n (.int i) (.int i)
  | str (n : Nat) (s : String) : Same st n (.str (Str.ofString s)) (.str (Str.ofString s))
  | tup {n : Nat} {xs ys : List DV} (hl : xs.length = ys.length) (hz : xs.length ≤ 1000) (h : ∀ (i : Nat) (x y : DV), xs[i]? = some x → ys[i]? = some y → Same st n x y) : Same st (n + 1) (.tup xs) (.tup ys)
  | lst {n a b : Nat} {xs ys : List DV} (h1 : st[a]? = some (.lst xs)) (h2 : st[b]? = some (.lst ys)) (hl : xs.length = ys.length) (hz : xs.length ≤ 1000) (h : ∀ (i : Nat) (x y : DV), xs[i]? = some x → ys[i]? = some y → Same st n x y) : Same st (n + 1) (.ref a) (.ref b)
theorem Same.pre {st s : Sto} (p : Pre st s) {n : Nat} {a b : DV} (h : Same st n a b) : Same s n a b := by
  induction h with
  | non n => exact .non n
  | bl n b => exact .bl n b
  | int n i => exact .int n i
  | str n s => exact .str n s
  | tup hl hz _ ih => exact .tup hl hz ih
  | lst h1 h2 hl hz _ ih => exact .lst (p.get h1) (p.get h2) hl hz ih
theorem Same.mono {st : Sto} {n m : Nat} {a b : DV} (h : Same st n a b) : n ≤ m → Same st m a b := by
  induction h generalizing m with
  | non n => exact fun _ => .non m
  | bl n b => exact fun _ => .bl m b
  | int n i => exact fun _ => .int m i
  | str n s => exact fun _ => .str m s
  | tup hl hz _ ih =>
    intro hm
    obtain ⟨m, rfl⟩ : ∃ k, m = k + 1 := ⟨m - 1, by omega⟩
    exact .tup hl hz fun i x y h1 h2 => ih i x y h1 h2 (by omega)
  | lst h1 h2 hl hz _ ih =>
    intro hm
    obtain ⟨m, rfl⟩ : ∃ k, m = k + 1 := ⟨m - 1, by omega⟩
    exact .lst h1 h2 hl hz fun i x y h1 h2 => ih i x y h1 h2 (by omega)
theorem same_two {st : Sto} {n : Nat} {a b c d : DV} (h1 : Same st n a c) (h2 : Same st n b d) : ∀ (i : Nat) (x y : DV), [a, b][i]? = some x → [c, d][i]? = some y → Same st n x y := by
  intro i x y hx hy
  match i, hx, hy with
  | 0, hx, hy => cases hx; cases hy; exact h1
  | 1, hx, hy => cases hx; cases hy; exact h2
theorem same_ints {st : Sto} {ns : List Int} : ∀ (i : Nat) (x y : DV), (ns.map DV.int)[i]? = some x → (ns.map DV.int)[i]? = some y → Same st 0 x y := by
  intro i x y hx hy
  rw [hx] at hy
  cases hy
  rw [List.getElem?_map] at hx
  obtain ⟨c, _, rfl⟩ := Option.map_eq_some_iff.mp hx
  exact .int 0 c
@[simp] theorem ev_slS {st : Sto} {ds : List DV} {lo hi : Option Int} : gSl (.scr ds) lo hi st = some (.ref st.length, st ++ [.lst (cutD ds lo hi)]) := rfl
@[simp] theorem ev_slR {st : Sto} {l : Nat} {lo hi : Option Int} : gSl (.ref l) lo hi st = (match st[l]? with | some (.lst ds) => some (.ref st.length, st ++ [.lst (cutD ds lo hi)]) | _ => none) := by
  show (match itemsOf st (.ref l) with | some ds => some (DV.ref st.length, st ++ [DO.lst (cutD ds lo hi)]) | none => none) = _
  rw [ev_itemsR]
  cases st[l]? with
  | none => rfl
  | some c => cases c <;> rfl
end DL

/-! PL5: calls of objects, told plainly. -/
namespace DL
open PySem PySem.Spec PyProof.Rows L2

/-! ### states -/
/-- a state of a kind, with at most so many items -/
def Okk (kind : String) (n : Nat) (s : SV) : Prop := if kind = "cell" ∨ kind = "counter" then ∃ i, s = .n i ∧ 0 ≤ i ∧ i ≤ 99 else ∃ ns, s = .l ns ∧ ns.length ≤ n ∧ ∀ x ∈ ns, 0 ≤ x ∧ x ≤ 99
theorem Okk.ok {kind : String} {n : Nat} {s : SV} (h : Okk kind n s) (hn : n ≤ 1000) : OkS kind s := by
  unfold Okk at h
  unfold OkS
  by_cases q : kind = "cell" ∨ kind = "counter"
  · rw [if_pos q] at h ⊢
    obtain ⟨i, rfl, _⟩ := h
    exact ⟨i, rfl⟩
  · rw [if_neg q] at h ⊢
    obtain ⟨ns, rfl, h, _⟩ := h
    exact ⟨ns, rfl, by omega⟩
theorem Okk.mono {kind : String} {n m : Nat} {s : SV} (h : Okk kind n s) (hn : n ≤ m) : Okk kind m s := by
  unfold Okk at h ⊢
  by_cases q : kind = "cell" ∨ kind = "counter"
  · rw [if_pos q] at h ⊢
    exact h
  · rw [if_neg q] at h ⊢
    obtain ⟨ns, rfl, h, h2⟩ := h
    exact ⟨ns, rfl, by omega, h2⟩
theorem okk_init (kind : String) (n : Nat) : Okk kind n (initV kind) := by
  unfold Okk initV
  split
  · exact ⟨0, rfl, by decide, by decide⟩
  · exact ⟨[], rfl, Nat.zero_le _, by simp⟩
theorem isort_mem {x : Int} {ns : List Int} : x ∈ isort ns ↔ x ∈ ns := (isort_perm ns).mem_iff
theorem call_ok {kind : String} {n : Nat} {s : SV} {w : String} {a : Int} (hk : kind ∈ kinds5) (h : Okk kind n s) (ha : 0 ≤ a ∧ a ≤ 99) : Okk kind (n + 1) (callV kind s w a).1 ∧ -1 ≤ (callV kind s w a).2 ∧ (callV kind s w a).2 ≤ 99 := by
  simp only [kinds5, List.mem_cons, List.not_mem_nil, or_false] at hk
  rcases hk with rfl | rfl | rfl | rfl | rfl
  · obtain ⟨i, rfl, h1, h2⟩ := h
    by_cases hw : w = "get"
    · exact ⟨⟨i, by simp [callV, cellV, hw], h1, h2⟩, by simp [callV, cellV, hw]; omega⟩
    · exact ⟨⟨a, by simp [callV, cellV, hw], ha⟩, by simp [callV, cellV, hw]⟩
  · obtain ⟨i, rfl, h1, h2⟩ := h
    by_cases hw : w = "get"
    · exact ⟨⟨i, by simp [callV, counterV, hw], h1, h2⟩, by simp [callV, counterV, hw]; omega⟩
    · exact ⟨⟨(i + a) % 100, by simp [callV, counterV, hw], by omega, by omega⟩, by simp [callV, counterV, hw]⟩
  · obtain ⟨ns, rfl, h1, h2⟩ := h
    by_cases hw : w = "put"
    · refine ⟨⟨ns ++ [a], by simp [callV, lineV, hw], by simp; omega, fun x hx => ?_⟩, by simp [callV, lineV, hw]⟩
      rcases List.mem_append.mp hx with hx | hx
      · exact h2 x hx
      · rw [List.mem_singleton.mp hx]; exact ha
    · cases ns with
      | nil => exact ⟨⟨[], by simp [callV, lineV, hw], by simp, by simp⟩, by simp [callV, lineV, hw]⟩
      | cons x r =>
        have hx := h2 x List.mem_cons_self
        exact ⟨⟨r, by simp [callV, lineV, hw], by simp at h1; omega, fun y hy => h2 y (List.mem_cons_of_mem _ hy)⟩, by simp [callV, lineV, hw]; omega⟩
  · obtain ⟨ns, rfl, h1, h2⟩ := h
    by_cases hw : w = "put"
    · refine ⟨⟨ns ++ [a], by simp [callV, pileV, hw], by simp; omega, fun x hx => ?_⟩, by simp [callV, pileV, hw]⟩
      rcases List.mem_append.mp hx with hx | hx
      · exact h2 x hx
      · rw [List.mem_singleton.mp hx]; exact ha
    · cases q : ns.getLast? with
      | none => exact ⟨⟨[], by simp [callV, pileV, hw, q], by simp, by simp⟩, by simp [callV, pileV, hw, q]⟩
      | some x =>
        have hx := h2 x (List.mem_of_getLast? q)
        exact ⟨⟨ns.dropLast, by simp [callV, pileV, hw, q], by simp; omega, fun y hy => h2 y (List.dropLast_subset _ hy)⟩, by simp [callV, pileV, hw, q]; omega⟩
  · obtain ⟨ns, rfl, h1, h2⟩ := h
    have hb : ∀ p : Prop, ∀ [Decidable p], -1 ≤ (if p then (1 : Int) else 0) ∧ (if p then (1 : Int) else 0) ≤ 99 := fun p _ => by split <;> omega
    by_cases hw : w = "add" ∧ a ∉ ns
    · refine ⟨⟨isort (ns ++ [a]), by simp [callV, setV, hw], by rw [isort_len]; simp; omega, fun x hx => ?_⟩, by simp [callV, setV, hw]⟩
      rcases List.mem_append.mp (isort_mem.mp hx) with hx | hx
      · exact h2 x hx
      · rw [List.mem_singleton.mp hx]; exact ha
    · have e : callV "set" (.l ns) w a = if w = "take" then (.l (ns.filter fun x => x != a), if a ∈ ns then 1 else 0) else (.l ns, if a ∈ ns then 1 else 0) := by
        show setV (.l ns) w a = _
        unfold setV
        simp only [if_neg hw]
      rw [e]
      by_cases hw2 : w = "take"
      · rw [if_pos hw2]
        exact ⟨⟨_, rfl, Nat.le_trans (List.length_filter_le _ _) (by omega), fun y hy => h2 y (List.mem_filter.mp hy).1⟩, hb _⟩
      · rw [if_neg hw2]
        exact ⟨⟨_, rfl, by omega, h2⟩, hb _⟩
theorem sv_inj {s t : SV} : s.d = t.d ↔ s = t := by
  constructor
  · intro h
    cases s with
    | n i => cases t with
      | n j => cases h; rfl
      | l _ => cases h
    | l ns => cases t with
      | n j => cases h
      | l ms =>
        have h : DV.tup (ns.map DV.int) = DV.tup (ms.map DV.int) := h
        have h := DV.tup.inj h
        rw [List.map_inj_right (fun x y e => DV.int.inj e) |>.mp h]
  · rintro rfl; rfl
theorem eqv_ints : ∀ a b : List Int, PyData.eqvAll (toPs (a.map DV.int)) (toPs (b.map DV.int)) = decide (a = b)
  | [], [] => rfl
  | [], _ :: _ => rfl
  | _ :: _, [] => rfl
  | x :: a, y :: b => by
    show (PyData.eqv (.int x) (.int y) && PyData.eqvAll _ _) = _
    rw [eqv_ints a b]
    simp only [PyData.eqv, Bool.beq_eq_decide_eq]
    by_cases h : x = y <;> simp [h]
theorem eqv_sv (s t : SV) : PyData.eqv (toP s.d) (toP t.d) = decide (s = t) := by
  cases s with
  | n i => cases t with
    | n j =>
      show (i == j) = _
      rw [Bool.beq_eq_decide_eq]
      by_cases h : i = j <;> simp [h]
    | l _ => rfl
  | l ns => cases t with
    | n j => rfl
    | l ms =>
      show PyData.eqvAll (toPs (ns.map DV.int)) (toPs (ms.map DV.int)) = _
      rw [eqv_ints]
      simp
theorem ok_ints (n : Nat) (ns : List Int) : (ns.map DV.int).all (okD n) = true := by
  induction ns with
  | nil => rfl
  | cons x r ih =>
    rw [List.map_cons, List.all_cons, ih, Bool.and_true]
    cases n <;> rfl
theorem ok_sv (n : Nat) (s : SV) : okD (n + 1) s.d = true := by
  cases s with
  | n i => rfl
  | l ns => show (ns.map DV.int).all (okD n) = true; exact ok_ints _ _
theorem toPS_sv (st : Sto) (s : SV) : toPS st s.d = some (toP s.d) := by
  have h := ok_sv 7 s
  cases s with
  | n i => rfl
  | l ns =>
    show (if okD 8 _ = true then some (toP _) else none) = _
    rw [if_pos h]
@[simp] theorem ev_eqSV {s t : SV} {st : Sto} : gEq s.d t.d st = some (.bl (decide (s = t)), st) := by
  unfold gEq
  rw [toPS_sv, toPS_sv]
  simp only [eqv_sv]

/-! ### a run of calls -/
def dC (c : String × Int) : DV := .tup [.str (Str.ofString c.1), .int c.2]
def runV (kind : String) : SV → List (String × Int) → SV × List Int
  | s, [] => (s, [])
  | s, c :: r => ((runV kind (callV kind s c.1 c.2).1 r).1, (callV kind s c.1 c.2).2 :: (runV kind (callV kind s c.1 c.2).1 r).2)
theorem run_snoc (kind : String) (c : String × Int) : ∀ (r : List (String × Int)) (s : SV), runV kind s (r ++ [c]) = ((callV kind (runV kind s r).1 c.1 c.2).1, (runV kind s r).2 ++ [(callV kind (runV kind s r).1 c.1 c.2).2])
  | [], s => rfl
  | d :: r, s => by
    rw [List.cons_append]
    unfold runV
    rw [run_snoc kind c r]
    rfl
theorem run_len (kind : String) : ∀ (r : List (String × Int)) (s : SV), (runV kind s r).2.length = r.length
  | [], s => rfl
  | d :: r, s => by
    unfold runV
    simp [run_len kind r]
theorem run_ok {kind : String} (hk : kind ∈ kinds5) : ∀ (r : List (String × Int)) (n : Nat) (s : SV), Okk kind n s → (∀ c ∈ r, 0 ≤ c.2 ∧ c.2 ≤ 99) → Okk kind (n + r.length) (runV kind s r).1 ∧ ∀ x ∈ (runV kind s r).2, -1 ≤ x ∧ x ≤ 99
  | [], n, s, h, _ => ⟨h, by simp [runV]⟩
  | d :: r, n, s, h, ha => by
    obtain ⟨h1, h2⟩ := call_ok (w := d.1) (a := d.2) hk h (ha d List.mem_cons_self)
    obtain ⟨h3, h4⟩ := run_ok hk r (n + 1) _ h1 fun c hc => ha c (List.mem_cons_of_mem _ hc)
    unfold runV
    refine ⟨by rw [List.length_cons, show n + (r.length + 1) = n + 1 + r.length by omega]; exact h3, fun x hx => ?_⟩
    rcases List.mem_cons.mp hx with rfl | hx
    · exact h2
    · exact h4 x hx
theorem run_take {kind : String} {s : SV} {r : List (String × Int)} {i : Nat} {c : String × Int} (h : r[i]? = some c) : runV kind s (r.take (i + 1)) = ((callV kind (runV kind s (r.take i)).1 c.1 c.2).1, (runV kind s (r.take i)).2 ++ [(callV kind (runV kind s (r.take i)).1 c.1 c.2).2]) := by
  rw [List.take_add_one, h]
  exact run_snoc kind c _ s

/-! ### calls of a history -/
structure CR where
  hand : Int
  thing : Int
  kind : String
  word : String
  arg : Int
  ans : Option Int
  beg : Int
  fin : Option Int
def oI : Option Int → DV
  | none => .non
  | some i => .int i
@[simp] theorem oI_none : oI none = .non := rfl
@[simp] theorem oI_some {i : Int} : oI (some i) = .int i := rfl
@[simp] theorem isN_oI {o : Option Int} : isN (oI o) = o.isNone := by cases o <;> rfl
@[simp ↓] theorem in_ans {o : Option Int} {t : Int} {st : Sto} : gIn (oI o) (.tup [.non, .int t]) st = some (.bl (decide (o = none ∨ o = some t)), st) := by
  cases o with
  | none => rfl
  | some i =>
    by_cases h : t = i
    · subst h; simp
    · have h2 : ¬ i = t := fun e => h e.symm
      simp [h, h2, eqF]
@[simp ↓] theorem notin_ans {o : Option Int} {t : Int} {st : Sto} : gNotIn (oI o) (.tup [.non, .int t]) st = some (.bl (!decide (o = none ∨ o = some t)), st) := by
  cases o with
  | none => rfl
  | some i =>
    by_cases h : t = i
    · subst h; simp
    · have h2 : ¬ i = t := fun e => h e.symm
      simp [h, h2, eqF]
def CR.d (c : CR) : DV := .tup [.int c.hand, .int c.thing, .str (Str.ofString c.kind), .str (Str.ofString c.word), .int c.arg, oI c.ans, .int c.beg, oI c.fin]
def bareW (kind word : String) : Bool := decide (word = "get") || (decide (word = "take") && (decide (kind = "line") || decide (kind = "pile")))
structure OkC (c : CR) : Prop where
  hand : 1 ≤ c.hand ∧ c.hand ≤ 9
  thing : 0 ≤ c.thing ∧ c.thing ≤ 9
  kind : c.kind ∈ kinds5
  word : c.word ∈ kWords c.kind
  arg : 0 ≤ c.arg ∧ c.arg ≤ 99
  bare : bareW c.kind c.word = true → c.arg = 0
  beg : 0 ≤ c.beg ∧ c.beg ≤ 1000
  both : c.ans = none ↔ c.fin = none
  ans : ∀ a, c.ans = some a → -1 ≤ a ∧ a ≤ 99
  fin : ∀ f, c.fin = some f → c.beg + 1 ≤ f ∧ f ≤ 1000
def mcfV (a b : CR) (i j : Nat) (bt : Bool) : Bool := if bt then (match a.fin with | some f => decide (f < b.beg) | none => false) else decide (a.hand = b.hand) && decide (i < j)

def finL (c : CR) : List Int := match c.fin with
  | some f => [f]
  | none => []
def timesOf (cs : List CR) : List Int := cs.flatMap fun c => c.beg :: finL c
/-- a history of calls without a fault -/
structure OkH (cs : List CR) : Prop where
  ok : ∀ c ∈ cs, OkC c
  times : (timesOf cs).Nodup
  sorted : ∀ (k : Nat) (a b : CR), cs[k]? = some a → cs[k + 1]? = some b → a.beg ≤ b.beg
  hand : ∀ (i j : Nat) (a b : CR), i < j → cs[i]? = some a → cs[j]? = some b → a.hand = b.hand → ∃ f, a.fin = some f ∧ f ≤ b.beg
  kind : ∀ (i j : Nat) (a b : CR), i < j → cs[i]? = some a → cs[j]? = some b → a.thing = b.thing → a.kind = b.kind
/-! ### states of objects -/
abbrev SS := List (Int × SV)
def encS (S : SS) : List (Key × DV) := S.map fun p => (.inl p.1, p.2.d)
def lookA (S : SS) (k : Int) : Option SV := (S.find? fun p => decide (p.1 = k)).map (·.2)
def putA (S : SS) (k : Int) (v : SV) : SS := if (lookA S k).isSome then S.map (fun p => if p.1 = k then (p.1, v) else p) else S ++ [(k, v)]
theorem val_enc (S : SS) (k : Int) : valD (encS S) (.inl k) = (lookA S k).map SV.d := by
  unfold valD encS lookA
  rw [List.find?_map, Option.map_map, Option.map_map]
  have : ((fun kv : Key × DV => decide (kv.1 = .inl k)) ∘ fun p : Int × SV => ((.inl p.1 : Key), p.2.d)) = fun p : Int × SV => decide (p.1 = k) := by
    funext p
    simp
  rw [this]
  rfl
theorem put_enc (S : SS) (k : Int) (v : SV) : putD (encS S) (.inl k) v.d = encS (putA S k v) := by
  unfold putD putA
  rw [val_enc]
  cases h : lookA S k with
  | none => simp [encS]
  | some w =>
    simp only [Option.map_some, Option.isSome_some, if_true]
    unfold encS
    rw [List.map_map, List.map_map]
    congr 1
    funext p
    simp only [Function.comp]
    by_cases e : p.1 = k
    · simp [e]
    · simp [e]
theorem putA_len (S : SS) (k : Int) (v : SV) : (putA S k v).length ≤ S.length + 1 := by
  unfold putA
  split <;> simp
theorem putA_all {S : SS} {k : Int} {v : SV} {P : Int × SV → Prop} (h : ∀ p ∈ S, P p) (hv : P (k, v)) : ∀ p ∈ putA S k v, P p := by
  unfold putA
  split
  · intro p hp
    obtain ⟨q, hq, rfl⟩ := List.mem_map.mp hp
    split
    · rename_i e
      rw [e]; exact hv
    · exact h q hq
  · intro p hp
    rcases List.mem_append.mp hp with hp | hp
    · exact h p hp
    · rw [List.mem_singleton.mp hp]; exact hv
theorem lookA_mem {S : SS} {k : Int} {v : SV} (h : lookA S k = some v) : (k, v) ∈ S := by
  unfold lookA at h
  cases q : S.find? fun p => decide (p.1 = k) with
  | none => rw [q] at h; cases h
  | some p =>
    rw [q] at h
    cases h
    have h1 := List.mem_of_find?_eq_some q
    have h2 := List.find?_some q
    simp only [decide_eq_true_eq] at h2
    rw [← h2]; exact h1
def stOf (S : SS) (c : CR) : SV := (lookA S c.thing).getD (initV c.kind)
theorem getD_enc (S : SS) (c : CR) : ((lookA S c.thing).map SV.d).getD (initV c.kind).d = (stOf S c).d := by
  unfold stOf
  cases lookA S c.thing <;> rfl

@[simp] theorem keyD_int {i : Int} : keyD (.int i) = some (.inl i) := rfl
@[simp] theorem keyD_str {z : Str} : keyD (.str z) = some (.inr z) := rfl
theorem val_st (S : SS) (c : CR) : (valD (encS S) (.inl c.thing)).getD (initV c.kind).d = (stOf S c).d := by
  rw [val_enc, getD_enc]
@[simp] theorem encS_len (S : SS) : (encS S).length = S.length := by simp [encS]
theorem st_ok {S : SS} {c : CR} {kd : Int → String} {n : Nat} (hk : c.kind = kd c.thing) (h : ∀ p ∈ S, Okk (kd p.1) n p.2) : Okk c.kind n (stOf S c) := by
  unfold stOf
  cases q : lookA S c.thing with
  | none => exact okk_init _ _
  | some v => rw [hk]; exact h _ (lookA_mem q)
theorem gset_dct {st : Sto} {l : Nat} {y d : DV} {kvs : List (Key × DV)} {k : Key} (h : st[l]? = some (.dct kvs)) (hk : keyD y = some k) (hz : kvs.length < LIM) : gSet (.ref l) y d st = some (st.set l (.dct (putD kvs k d))) := by
  unfold gSet
  simp only [h, hk, if_pos hz]
theorem gset_lst {st : Sto} {l : Nat} {i : Int} {j : Nat} {d : DV} {ds : List DV} (h : st[l]? = some (.lst ds)) (hj : ixN ds.length i = some j) : gSet (.ref l) (.int i) d st = some (st.set l (.lst (ds.set j d))) := by
  unfold gSet
  simp only [h, hj]
/-! ### the search -/
def leftOf (n : Nat) (done : List Nat) : List Nat := (List.range n).filter fun k => decide (k ∉ done)
def stepS (S : SS) (c : CR) : SS := putA S c.thing (callV c.kind (stOf S c) c.word c.arg).1
def fits (S : SS) (c : CR) : Prop := c.ans = none ∨ c.ans = some (callV c.kind (stOf S c) c.word c.arg).2
instance {S : SS} {c : CR} : Decidable (fits S c) := by unfold fits; infer_instance
def mcfA (cs : List CR) (bt : Bool) (i j : Nat) : Bool := match cs[i]?, cs[j]? with
  | some a, some b => mcfV a b i j bt
  | _, _ => false
def allNone (cs : List CR) (l : List Nat) : Bool := l.all fun k => match cs[k]? with | some c => c.ans.isNone | none => true
def blocked (cs : List CR) (bt : Bool) (l : List Nat) (k : Nat) : Bool := l.any fun o => decide (o ≠ k) && mcfA cs bt o k
def srch (cs : List CR) (bt : Bool) : Nat → List Nat → SS → Option (List Nat)
  | 0, _, _ => none
  | n + 1, done, S => match allNone cs (leftOf cs.length done) with
    | true => some done
    | false => (leftOf cs.length done).findSome? fun k => match cs[k]? with
      | some c => (match blocked cs bt (leftOf cs.length done) k with
        | true => none
        | false => (match decide (fits S c) with
          | true => srch cs bt n (done ++ [k]) (stepS S c)
          | false => none))
      | none => none
/-- what the search finds by way of k -/
def tryV (cs : List CR) (bt : Bool) (n : Nat) (done : List Nat) (S : SS) (k : Nat) : Option (List Nat) := match cs[k]? with
  | some c => (match blocked cs bt (leftOf cs.length done) k with
    | true => none
    | false => (match decide (fits S c) with
      | true => srch cs bt n (done ++ [k]) (stepS S c)
      | false => none))
  | none => none
theorem srch_all {cs : List CR} {bt : Bool} {n : Nat} {done : List Nat} {S : SS} (h : allNone cs (leftOf cs.length done) = true) : srch cs bt (n + 1) done S = some done := by
  unfold srch
  rw [h]
theorem srch_try {cs : List CR} {bt : Bool} {n : Nat} {done : List Nat} {S : SS} (h : allNone cs (leftOf cs.length done) = false) : srch cs bt (n + 1) done S = (leftOf cs.length done).findSome? (tryV cs bt n done S) := by
  rw [srch, h]
  rfl
theorem try_blocked {cs : List CR} {bt : Bool} {n : Nat} {done : List Nat} {S : SS} {k : Nat} (h : blocked cs bt (leftOf cs.length done) k = true) : tryV cs bt n done S k = none := by
  unfold tryV
  cases cs[k]? with
  | none => rfl
  | some c => simp only [h]
theorem try_unfit {cs : List CR} {bt : Bool} {n : Nat} {done : List Nat} {S : SS} {k : Nat} {c : CR} (hc : cs[k]? = some c) (hf : ¬ fits S c) : tryV cs bt n done S k = none := by
  unfold tryV
  rw [hc]
  cases blocked cs bt (leftOf cs.length done) k with
  | true => rfl
  | false => simp only [decide_eq_false hf]
theorem try_go {cs : List CR} {bt : Bool} {n : Nat} {done : List Nat} {S : SS} {k : Nat} {c : CR} (hc : cs[k]? = some c) (h : blocked cs bt (leftOf cs.length done) k = false) (hf : fits S c) : tryV cs bt n done S k = srch cs bt n (done ++ [k]) (stepS S c) := by
  unfold tryV
  rw [hc]
  simp only [h, decide_eq_true hf]
theorem all_id {α : Type} {l : List α} {h : α → Bool} : (l.map h).all id = l.all h := by
  rw [List.all_map]; rfl
theorem any_id {α : Type} {l : List α} {h : α → Bool} : (l.map h).any id = l.any h := by
  rw [List.any_map]; rfl
theorem any_fid {α : Type} {l : List α} {p h : α → Bool} : ((l.filter p).map h).any id = l.any fun x => p x && h x := by
  rw [any_id, List.any_filter]
def nsD (l : List Nat) : DV := .tup (l.map fun (n : Nat) => .int n)
def oT : Option (List Nat) → DV
  | none => .non
  | some l => nsD l
theorem left_lt {n : Nat} {done : List Nat} {k : Nat} (h : k ∈ leftOf n done) : k < n := by
  have := (List.mem_filter.mp h).1
  simpa using this
theorem left_snoc (n : Nat) (done : List Nat) (k : Nat) : leftOf n (done ++ [k]) = (leftOf n done).filter fun x => decide (x ≠ k) := by
  unfold leftOf
  rw [List.filter_filter]
  congr 1
  funext x
  by_cases h1 : x ∈ done <;> by_cases h2 : x = k <;> simp [h1, h2]
theorem left_dec {n : Nat} {done : List Nat} {k : Nat} (h : k ∈ leftOf n done) : (leftOf n (done ++ [k])).length < (leftOf n done).length := by
  rw [left_snoc, List.length_filter_lt_length_iff_exists]
  exact ⟨k, h, by simp⟩
theorem inD_nats (a : Nat) (ns : List Nat) : inD (.int a) (ns.map fun (n : Nat) => DV.int n) = decide (a ∈ ns) := by
  have h := inD_ints (a : Int) (ns.map fun (n : Nat) => (n : Int))
  rw [List.map_map] at h
  rw [show (ns.map fun (n : Nat) => DV.int n) = ns.map (DV.int ∘ fun (n : Nat) => (n : Int)) from rfl, h]
  congr 1
  simp [Int.ofNat_inj]
theorem flat_nats (ns : List Nat) : (ns.map fun (n : Nat) => DV.int n).all flatD = true := by
  have := flat_ints (ns.map fun (n : Nat) => (n : Int))
  rw [List.map_map] at this
  exact this
/-! ### an order's fault -/
def ofRun (cs : List CR) (bt : Bool) : Nat → List Nat → SS → Option (String × Nat)
  | _, [], _ => none
  | p, k :: r, S =>
    if r.any (fun o => mcfA cs bt o k) then some ("late", p)
    else match cs[k]? with
      | some c => if fits S c then ofRun cs bt (p + 1) r (stepS S c) else some ("answer", p)
      | none => none
theorem of_cons {cs : List CR} {bt : Bool} {p k : Nat} {r : List Nat} {S : SS} : ofRun cs bt p (k :: r) S = if r.any (fun o => mcfA cs bt o k) then some ("late", p) else match cs[k]? with
  | some c => if fits S c then ofRun cs bt (p + 1) r (stepS S c) else some ("answer", p)
  | none => none := rfl
def missL (cs : List CR) (order : List Nat) : List Nat := (List.range cs.length).filter fun k => decide (k ∉ order) && (match cs[k]? with | some c => c.ans.isSome | none => false)
def ofV (cs : List CR) (order : List Nat) (bt : Bool) : Option (String × Nat) := match missL cs order with
  | k :: _ => some ("missing", k)
  | [] => ofRun cs bt 0 order []
def oF : Option (String × Nat) → DV
  | none => .non
  | some p => .tup [.str (Str.ofString p.1), .int p.2]
theorem isN_oF {o : Option (String × Nat)} : isN (oF o) = o.isNone := by cases o <;> rfl
/-! ### lists -/
theorem findSome_at {α β : Type} {l : List α} {f : α → Option β} {i : Nat} {x : α} {r : β} (h1 : ∀ (j : Nat) (y : α), j < i → l[j]? = some y → f y = none) (h2 : l[i]? = some x) (h3 : f x = some r) : l.findSome? f = some r := by
  induction l generalizing i with
  | nil => cases h2
  | cons y l ih =>
    cases i with
    | zero =>
      cases h2
      simp [h3]
    | succ i =>
      rw [List.findSome?_cons, h1 0 y (by omega) rfl]
      exact ih (fun j z hj hz => h1 (j + 1) z (by omega) hz) h2
theorem findSome_none {α β : Type} {l : List α} {f : α → Option β} (h1 : ∀ (j : Nat) (y : α), l[j]? = some y → f y = none) : l.findSome? f = none := by
  rw [List.findSome?_eq_none_iff]
  intro x hx
  obtain ⟨j, hj⟩ := List.getElem?_of_mem hx
  exact h1 j x hj
@[simp] theorem toBls_map {α : Type} (l : List α) (f : α → Bool) : toBls (l.map fun x => DV.bl (f x)) = some (l.map f) := by
  induction l with
  | nil => rfl
  | cons x r ih => simp [toBls, ih]
@[simp] theorem all_tt {α : Type} {l : List α} : (l.all fun _ => true) = true := List.all_eq_true.mpr fun _ _ => rfl
@[simp] theorem any_ff {α : Type} {l : List α} : (l.any fun _ => false) = false := by
  rw [List.any_eq_false]
  intro x _ h
  cases h
theorem cut_succ {α : Type} {xs : List α} {k : Nat} : cutD xs (some ((k : Int) + 1)) none = xs.drop (k + 1) := by
  rw [cut_from (by omega)]
  congr 1
theorem toIs_nats (l : List Nat) : toIs (l.map fun (n : Nat) => DV.int n) = some (l.map fun (n : Nat) => (n : Int)) := by
  have := toIs_map (l.map fun (n : Nat) => (n : Int))
  rw [List.map_map] at this
  exact this
theorem nodup_cast {l : List Nat} (h : l.Nodup) : (l.map fun (n : Nat) => (n : Int)).Nodup := by
  unfold List.Nodup at h ⊢
  rw [List.pairwise_map]
  exact h.imp fun e q => e (Int.ofNat_inj.mp q)
@[simp] theorem filter_tt {α : Type} {l : List α} : l.filter (fun _ => true) = l := List.filter_eq_self.mpr fun _ _ => rfl
/-! ### the drawn numbers -/
structure PS where
  ns : List Int
  i : Int
  r : Int
  c : Int
  salt : Int
def PS.st (p : PS) : Sto := [.lst (p.ns.map DV.int), .lst (p.ns.map DV.int), .lst [.ref 1, .int p.i, .int p.r, .int p.c, .int p.salt]]
def OkP (p : PS) : Prop := 0 ≤ p.i ∧ p.i ≤ (p.ns.length : Int) ∧ p.ns.length ≤ 63
def DrawOk (g : Sto) (many : Int) (d : DV) (s : Sto) : Prop := ∃ v p, d = .int v ∧ s = p.st ++ g ∧ 0 ≤ v ∧ v < many ∧ OkP p
theorem draw_ok {g : Sto} {many v i r c salt : Int} {ns : List Int} (h1 : 0 ≤ v) (h2 : v < many) (h : OkP ⟨ns, i, r, c, salt⟩) : DrawOk g many (.int v) (.lst (ns.map DV.int) :: .lst (ns.map DV.int) :: .lst [.ref 1, .int i, .int r, .int c, .int salt] :: g) := ⟨v, ⟨ns, i, r, c, salt⟩, rfl, rfl, h1, h2, h⟩
theorem trim_draw {F : FM} {ds : List DV} {p : PS} {g : Sto} {many : Int} (h : V (F ds (p.st ++ g)) (DrawOk g many)) : ∃ v p', trim F ds (p.st ++ g) = some (.int v, p'.st ++ g) ∧ 0 ≤ v ∧ v < many ∧ OkP p' := by
  obtain ⟨_, _, h1, v, p', rfl, rfl, h2, h3, h4⟩ := h
  refine ⟨v, p', trim_eq (g := []) (by rw [List.append_nil]; exact h1) (by simp [PS.st]) (fun l o hl => ?_) rfl, h2, h3, h4⟩
  match l, hl with
  | 0, hl => cases hl; exact .inr (by simp [ltO, ltDs_ints])
  | 1, hl => cases hl; exact .inr (by simp [ltO, ltDs_ints])
  | 2, hl => cases hl; exact .inr (by simp [ltO, ltDs, ltD, PS.st])
  | l + 3, hl => exact .inl hl
@[simp] theorem ps_len {p : PS} : p.st.length = 3 := rfl
@[simp ↓] theorem ps_alen {p : PS} {g : Sto} : (p.st ++ g).length = g.length + 3 := by
  rw [List.length_append, ps_len, Nat.add_comm]
@[simp ↓] theorem ps_alen2 {p : PS} {g h : Sto} : ((p.st ++ g) ++ h).length = (g ++ h).length + 3 := by
  rw [List.append_assoc, ps_alen]
@[simp high] theorem ps_alen3 {p : PS} {g : Sto} : (p.st ++ g).length = g.length + 3 := ps_alen
@[simp ↓] theorem ps_get {p : PS} {g : Sto} {j : Nat} : (p.st ++ g)[j + 3]? = g[j]? := by
  rw [List.getElem?_append_right (by simp), ps_len, Nat.add_sub_cancel]
theorem ps_set {p : PS} {g : Sto} {j : Nat} {o : DO} : (p.st ++ g).set (j + 3) o = p.st ++ g.set j o := by
  rw [List.set_append_right _ _ (by simp), ps_len, Nat.add_sub_cancel]
/-- a pool was drawn from; what stands behind it is as it was -/
def PoolOk (g : Sto) (R : DV → Prop) (d : DV) (s : Sto) : Prop := ∃ p, Pre (p.st ++ g) s ∧ OkP p ∧ R d
theorem trim_pool {F : FM} {ds : List DV} {p : PS} {g : Sto} {R : DV → Prop} (h : V (F ds (p.st ++ g)) (PoolOk g R)) (hR : ∀ d, R d → ltD 3 d = true) : ∃ d p', trim F ds (p.st ++ g) = some (d, p'.st ++ g) ∧ OkP p' ∧ R d := by
  obtain ⟨d, _, h1, p', ⟨u, rfl⟩, h2, h3⟩ := h
  refine ⟨d, p', trim_eq (g := u) h1 (by simp [PS.st]) (fun l o hl => ?_) (ltD_mono (by simp) (hR d h3)), h2, h3⟩
  match l, hl with
  | 0, hl => cases hl; exact .inr (by simp [ltO, ltDs_ints])
  | 1, hl => cases hl; exact .inr (by simp [ltO, ltDs_ints])
  | 2, hl => cases hl; exact .inr (by simp [ltO, ltDs, ltD])
  | l + 3, hl => exact .inl hl
def strD (s : String) : DV := .str (Str.ofString s)
/-- a word and an argument that a kind may be called with -/
def OkW (kind : String) (c : String × Int) : Prop := c.1 ∈ kWords kind ∧ 0 ≤ c.2 ∧ c.2 ≤ 99 ∧ (bareW kind c.1 = true → c.2 = 0)
theorem ixN_nat {n : Nat} {i : Int} (h : 0 ≤ i) (h' : i < n) : ixN n i = some i.toNat := by
  unfold ixN
  rw [if_pos h, if_pos (by omega)]
end DL

/-! PL6: calls one after another, then two beside each other, then one behind. -/
namespace DL
open PySem PySem.Spec PyProof.Rows L2

theorem left_range {N k : Nat} (h : k ≤ N) : leftOf N (List.range k) = List.range' k (N - k) := by
  unfold leftOf
  have e : List.range N = List.range k ++ List.range' k (N - k) := by
    rw [List.range_eq_range', List.range_eq_range']
    have := List.range'_append_1 (s := 0) (m := k) (n := N - k)
    rw [Nat.zero_add] at this
    rw [this]
    congr 1
    omega
  rw [e, List.filter_append]
  have h1 : (List.range k).filter (fun x => decide (x ∉ List.range k)) = [] := by
    rw [List.filter_eq_nil_iff]
    intro x hx
    simp at hx ⊢
    exact hx
  have h2 : (List.range' k (N - k)).filter (fun x => decide (x ∉ List.range k)) = List.range' k (N - k) := by
    rw [List.filter_eq_self]
    intro x hx
    have := List.mem_range'_1.mp hx
    simp
    omega
  rw [h1, h2, List.nil_append]
/-- the states of the one object -/
def SSt (kind : String) (s : SV) (S : SS) : Prop := S = [(0, s)] ∨ (S = [] ∧ s = initV kind)
theorem sst_of {kind : String} {s : SV} {S : SS} {c : CR} (h : SSt kind s S) (h1 : c.thing = 0) (h2 : c.kind = kind) : stOf S c = s := by
  unfold stOf lookA
  rw [h1, h2]
  rcases h with rfl | ⟨rfl, rfl⟩
  · simp
  · simp
theorem sst_step {kind : String} {s : SV} {S : SS} {c : CR} (h : SSt kind s S) (h1 : c.thing = 0) (h2 : c.kind = kind) : SSt kind (callV kind s c.word c.arg).1 (stepS S c) := by
  have e := sst_of h h1 h2
  unfold stepS putA lookA
  rw [e, h1, h2]
  rcases h with rfl | ⟨rfl, rfl⟩
  · exact .inl (by simp)
  · exact .inl (by simp)
theorem sst_fits {kind : String} {s : SV} {S : SS} {c : CR} {a : Int} (h : SSt kind s S) (h1 : c.thing = 0) (h2 : c.kind = kind) (ha : c.ans = some a) : fits S c ↔ a = (callV kind s c.word c.arg).2 := by
  unfold fits
  rw [sst_of h h1 h2, ha, h2]
  simp
/-- calls one after another, and later ones -/
structure Line (kind : String) (n : Nat) (st : Nat → SV) (cs : List CR) : Prop where
  init : st 0 = initV kind
  one : ∀ k, k < n → ∃ c : CR, cs[k]? = some c ∧ c.thing = 0 ∧ c.kind = kind ∧ c.beg = 2 * (k : Int) ∧ c.fin = some (2 * (k : Int) + 1) ∧ c.ans = some (callV kind (st k) c.word c.arg).2 ∧ st (k + 1) = (callV kind (st k) c.word c.arg).1
  late : ∀ (k : Nat) (c : CR), n ≤ k → cs[k]? = some c → 50 ≤ c.beg ∧ (∃ f, c.fin = some f ∧ 60 ≤ f) ∧ ∃ a, c.ans = some a
  small : n ≤ 4
section
variable {kind : String} {n : Nat} {st : Nat → SV} {cs : List CR}
/-- nothing later must come first -/
theorem Line.free (L : Line kind n st cs) {k o : Nat} (hk : k < n) (ho : k ≤ o) : mcfA cs true o k = false := by
  obtain ⟨c, hc, _, _, hb, _⟩ := L.one k hk
  have hs := L.small
  unfold mcfA
  rw [hc]
  cases ho2 : cs[o]? with
  | none => rfl
  | some d =>
    simp only [mcfV, if_true]
    by_cases h : o < n
    · obtain ⟨d', hd, _, _, _, hf, _⟩ := L.one o h
      rw [ho2] at hd
      cases hd
      rw [hf, hb]
      simp
      omega
    · obtain ⟨_, ⟨f, hf, hf2⟩, _⟩ := L.late o d (by omega) ho2
      rw [hf, hb]
      simp
      omega
/-- what is earlier must come first -/
theorem Line.must (L : Line kind n st cs) {k o : Nat} (hk : k < n) (ho : k < o) (hl : o < cs.length) : mcfA cs true k o = true := by
  obtain ⟨c, hc, _, _, _, hf, _⟩ := L.one k hk
  have hs := L.small
  have ho2 : cs[o]? = some cs[o] := List.getElem?_eq_getElem hl
  unfold mcfA
  rw [hc, ho2]
  simp only [mcfV, if_true, hf]
  by_cases h : o < n
  · obtain ⟨d', hd, _, _, hb, _⟩ := L.one o h
    rw [ho2] at hd
    cases hd
    rw [hb]
    simp
    omega
  · obtain ⟨hb, _⟩ := L.late o _ (by omega) ho2
    simp
    omega
theorem Line.ans (L : Line kind n st cs) {k : Nat} (hl : k < cs.length) : ∃ c a, cs[k]? = some c ∧ c.ans = some a := by
  by_cases h : k < n
  · obtain ⟨c, hc, _, _, _, _, ha, _⟩ := L.one k h
    exact ⟨c, _, hc, ha⟩
  · have hc : cs[k]? = some cs[k] := List.getElem?_eq_getElem hl
    obtain ⟨_, _, a, ha⟩ := L.late k _ (by omega) hc
    exact ⟨_, a, hc, ha⟩
theorem Line.some_left (L : Line kind n st cs) {k : Nat} {r : List Nat} (hl : k < cs.length) : allNone cs (k :: r) = false := by
  obtain ⟨c, a, hc, ha⟩ := L.ans hl
  unfold allNone
  rw [List.all_cons, hc]
  simp only
  rw [ha]
  rfl
theorem Line.of (L : Line kind n st cs) (rest : List Nat) (hr : ∀ o ∈ rest, n ≤ o) (k : Nat) (hk : k ≤ n) : ∃ S, SSt kind (st k) S ∧ ofRun cs true 0 (List.range n ++ rest) [] = ofRun cs true k (List.range' k (n - k) ++ rest) S := by
  induction k with
  | zero => exact ⟨[], .inr ⟨rfl, L.init⟩, by rw [List.range_eq_range']; rfl⟩
  | succ k ih =>
    obtain ⟨S, hS, e⟩ := ih (by omega)
    obtain ⟨c, hc, h1, h2, _, _, ha, hst⟩ := L.one k (by omega)
    refine ⟨stepS S c, by rw [hst]; exact sst_step hS h1 h2, ?_⟩
    rw [e, show n - k = (n - (k + 1)) + 1 by omega, List.range'_succ, List.cons_append, of_cons, if_neg, hc]
    · simp only
      rw [if_pos ((sst_fits hS h1 h2 ha).mpr rfl)]
    · rw [Bool.not_eq_true, List.any_eq_false]
      intro o ho
      rw [L.free (by omega)]
      · simp
      · rcases List.mem_append.mp ho with ho | ho
        · have := List.mem_range'_1.mp ho
          omega
        · have := hr o ho
          omega
theorem Line.srch (L : Line kind n st cs) (hn : n < cs.length) (m k : Nat) (hk : k ≤ n) : ∃ S, SSt kind (st k) S ∧ srch cs true (m + k) [] [] = srch cs true m (List.range k) S := by
  induction k generalizing m with
  | zero => exact ⟨[], .inr ⟨rfl, L.init⟩, rfl⟩
  | succ k ih =>
    obtain ⟨S, hS, e⟩ := ih (m + 1) (by omega)
    obtain ⟨c, hc, h1, h2, _, _, ha, hst⟩ := L.one k (by omega)
    refine ⟨stepS S c, by rw [hst]; exact sst_step hS h1 h2, ?_⟩
    rw [show m + (k + 1) = m + 1 + k by omega, e]
    have hl := left_range (N := cs.length) (k := k) (by omega)
    rw [show cs.length - k = (cs.length - (k + 1)) + 1 by omega, List.range'_succ] at hl
    rw [srch_try (by rw [hl]; exact L.some_left (by omega)), hl, List.findSome?_cons]
    have hb : blocked cs true (leftOf cs.length (List.range k)) k = false := by
      unfold blocked
      rw [hl, List.any_eq_false]
      intro o ho
      have ho2 : k ≤ o := by
        rcases List.mem_cons.mp ho with rfl | ho
        · exact Nat.le_refl _
        · have := List.mem_range'_1.mp ho
          omega
      rw [L.free (by omega) ho2]
      simp
    rw [try_go hc hb ((sst_fits hS h1 h2 ha).mpr rfl), ← List.range_succ]
    cases q : DL.srch cs true m (List.range (k + 1)) (stepS S c) with
    | some r => rfl
    | none =>
      simp only
      rw [List.findSome?_eq_none_iff]
      intro o ho
      have ho2 := List.mem_range'_1.mp ho
      refine try_blocked ?_
      unfold blocked
      rw [hl, List.any_eq_true]
      refine ⟨k, List.mem_cons_self, ?_⟩
      rw [L.must (by omega) (by omega) (by omega)]
      simp
      omega
end
theorem of_step {cs : List CR} {bt : Bool} {p k : Nat} {r : List Nat} {S : SS} {c : CR} (hc : cs[k]? = some c) (hr : ∀ o ∈ r, mcfA cs bt o k = false) (hf : fits S c) : ofRun cs bt p (k :: r) S = ofRun cs bt (p + 1) r (stepS S c) := by
  rw [of_cons, if_neg, hc]
  · simp only
    rw [if_pos hf]
  · rw [Bool.not_eq_true, List.any_eq_false]
    intro o ho
    rw [hr o ho]
    simp
theorem of_unfit {cs : List CR} {bt : Bool} {p k : Nat} {r : List Nat} {S : SS} {c : CR} (hc : cs[k]? = some c) (hr : ∀ o ∈ r, mcfA cs bt o k = false) (hf : ¬ fits S c) : ofRun cs bt p (k :: r) S = some ("answer", p) := by
  rw [of_cons, if_neg, hc]
  · simp only
    rw [if_neg hf]
  · rw [Bool.not_eq_true, List.any_eq_false]
    intro o ho
    rw [hr o ho]
    simp
theorem blocked_f {cs : List CR} {bt : Bool} {l : List Nat} {k : Nat} (h : ∀ o ∈ l, o = k ∨ mcfA cs bt o k = false) : blocked cs bt l k = false := by
  unfold blocked
  rw [List.any_eq_false]
  intro o ho
  rcases h o ho with e | e
  · simp [e]
  · simp [e]
theorem blocked_t {cs : List CR} {bt : Bool} {l : List Nat} {k o : Nat} (ho : o ∈ l) (hk : o ≠ k) (h : mcfA cs bt o k = true) : blocked cs bt l k = true := by
  unfold blocked
  rw [List.any_eq_true]
  exact ⟨o, ho, by simp [hk, h]⟩
/-- two calls beside each other behind a line -/
structure Duo (kind : String) (n : Nat) (s : SV) (cs : List CR) (c d : CR) : Prop where
  c1 : cs[n]? = some c
  c2 : c.thing = 0
  c3 : c.kind = kind
  c4 : c.beg = 50
  c5 : c.fin = some 60
  c6 : c.ans = some (callV kind s c.word c.arg).2
  d1 : cs[n + 1]? = some d
  d2 : d.thing = 0
  d3 : d.kind = kind
  d4 : d.beg = 51
  d5 : d.fin = some 61
  d6 : d.ans = some (callV kind (callV kind s c.word c.arg).1 d.word d.arg).2
section
variable {kind : String} {n : Nat} {st : Nat → SV} {s : SV} {cs : List CR} {c d e : CR} {S : SS}
theorem Duo.m1 (D : Duo kind n s cs c d) : mcfA cs true n (n + 1) = false := by
  unfold mcfA
  rw [D.c1, D.d1]
  simp [mcfV, D.c5, D.d4]
theorem Duo.m2 (D : Duo kind n s cs c d) : mcfA cs true (n + 1) n = false := by
  unfold mcfA
  rw [D.c1, D.d1]
  simp [mcfV, D.d5, D.c4]
/-- told answers of both orders -/
def twin (kind : String) (s : SV) (c d : CR) : Bool :=
  decide ((callV kind s c.word c.arg).2 = (callV kind (callV kind s d.word d.arg).1 c.word c.arg).2) && decide ((callV kind (callV kind s c.word c.arg).1 d.word d.arg).2 = (callV kind s d.word d.arg).2)
theorem twin_t (h1 : (callV kind s c.word c.arg).2 = (callV kind (callV kind s d.word d.arg).1 c.word c.arg).2) (h2 : (callV kind (callV kind s c.word c.arg).1 d.word d.arg).2 = (callV kind s d.word d.arg).2) : twin kind s c d = true := by
  unfold twin
  rw [decide_eq_true h1, decide_eq_true h2]
  rfl
theorem twin_f1 (h1 : ¬ (callV kind s c.word c.arg).2 = (callV kind (callV kind s d.word d.arg).1 c.word c.arg).2) : twin kind s c d = false := by
  unfold twin
  rw [decide_eq_false h1, Bool.false_and]
theorem twin_f2 (h2 : ¬ (callV kind (callV kind s c.word c.arg).1 d.word d.arg).2 = (callV kind s d.word d.arg).2) : twin kind s c d = false := by
  unfold twin
  rw [decide_eq_false h2, Bool.and_false]
theorem Duo.straight (D : Duo kind n s cs c d) (hS : SSt kind s S) (p : Nat) (r : List Nat) (hr : ∀ o ∈ r, mcfA cs true o n = false ∧ mcfA cs true o (n + 1) = false) : ∃ S', SSt kind (callV kind (callV kind s c.word c.arg).1 d.word d.arg).1 S' ∧ ofRun cs true p ([n, n + 1] ++ r) S = ofRun cs true (p + 2) r S' := by
  have h1 := sst_step hS D.c2 D.c3
  have h2 := sst_step h1 D.d2 D.d3
  refine ⟨_, h2, ?_⟩
  show ofRun cs true p (n :: (n + 1) :: r) S = _
  rw [of_step D.c1 (fun o ho => ?_) ((sst_fits hS D.c2 D.c3 D.c6).mpr rfl), of_step D.d1 (fun o ho => (hr o ho).2) ((sst_fits h1 D.d2 D.d3 D.d6).mpr rfl)]
  rcases List.mem_cons.mp ho with rfl | ho
  · exact D.m2
  · exact (hr o ho).1
theorem Duo.turned (D : Duo kind n s cs c d) (hS : SSt kind s S) (p : Nat) (r : List Nat) (hr : ∀ o ∈ r, mcfA cs true o n = false ∧ mcfA cs true o (n + 1) = false) : (twin kind s c d = true ∧ ∃ S', SSt kind (callV kind (callV kind s d.word d.arg).1 c.word c.arg).1 S' ∧ ofRun cs true p ([n + 1, n] ++ r) S = ofRun cs true (p + 2) r S') ∨ (twin kind s c d = false ∧ ∃ q, ofRun cs true p ([n + 1, n] ++ r) S = some q) := by
  have h1 := sst_step hS D.d2 D.d3
  have h2 := sst_step h1 D.c2 D.c3
  have hm : ∀ o ∈ n :: r, mcfA cs true o (n + 1) = false := fun o ho => by
    rcases List.mem_cons.mp ho with rfl | ho
    · exact D.m1
    · exact (hr o ho).2
  have hm2 : ∀ o ∈ r, mcfA cs true o n = false := fun o ho => (hr o ho).1
  show (_ ∧ ∃ S', _ ∧ ofRun cs true p ((n + 1) :: n :: r) S = _) ∨ (_ ∧ ∃ q, ofRun cs true p ((n + 1) :: n :: r) S = _)
  by_cases f1 : fits S d
  · have g1 := (sst_fits hS D.d2 D.d3 D.d6).mp f1
    rw [of_step D.d1 hm f1]
    by_cases f2 : fits (stepS S d) c
    · have g2 := (sst_fits h1 D.c2 D.c3 D.c6).mp f2
      refine .inl ⟨twin_t g2 g1, _, h2, ?_⟩
      rw [of_step D.c1 hm2 f2]
    · refine .inr ⟨?_, _, of_unfit D.c1 hm2 f2⟩
      have g2 := fun q => f2 ((sst_fits h1 D.c2 D.c3 D.c6).mpr q)
      exact twin_f1 g2
  · refine .inr ⟨?_, _, of_unfit D.d1 hm f1⟩
    have g1 := fun q => f1 ((sst_fits hS D.d2 D.d3 D.d6).mpr q)
    exact twin_f2 g1
/-- the search, where just the two are left -/
theorem Duo.srch (D : Duo kind n s cs c d) (hS : SSt kind s S) (hl : cs.length = n + 2) (m : Nat) : DL.srch cs true (m + 3) (List.range n) S = some (List.range n ++ [n, n + 1]) := by
  have l0 : leftOf cs.length (List.range n) = [n, n + 1] := by
    rw [left_range (by omega), hl, show n + 2 - n = 2 by omega]
    rfl
  have l1 : leftOf cs.length (List.range n ++ [n]) = [n + 1] := by
    rw [left_snoc, l0]
    simp
  have l2 : leftOf cs.length (List.range n ++ [n] ++ [n + 1]) = [] := by
    rw [left_snoc, l1]
    simp
  have h1 := sst_step hS D.c2 D.c3
  have a0 : allNone cs [n, n + 1] = false := by simp [allNone, D.c1, D.c6]
  have a1 : allNone cs [n + 1] = false := by simp [allNone, D.d1, D.d6]
  have b0 : blocked cs true (leftOf cs.length (List.range n)) n = false := by
    rw [l0]
    exact blocked_f fun o ho => by
      simp at ho
      rcases ho with rfl | rfl
      · exact .inl rfl
      · exact .inr D.m2
  have b1 : blocked cs true (leftOf cs.length (List.range n ++ [n])) (n + 1) = false := by
    rw [l1]
    exact blocked_f fun o ho => by
      simp at ho
      exact .inl ho
  have e2 : DL.srch cs true (m + 1) (List.range n ++ [n] ++ [n + 1]) (stepS (stepS S c) d) = some (List.range n ++ [n] ++ [n + 1]) := srch_all (by rw [l2]; rfl)
  have e1 : DL.srch cs true (m + 2) (List.range n ++ [n]) (stepS S c) = some (List.range n ++ [n] ++ [n + 1]) := by
    rw [srch_try (by rw [l1]; exact a1), l1, List.findSome?_cons, try_go D.d1 b1 ((sst_fits h1 D.d2 D.d3 D.d6).mpr rfl), e2]
  rw [srch_try (by rw [l0]; exact a0), l0, List.findSome?_cons, try_go D.c1 b0 ((sst_fits hS D.c2 D.c3 D.c6).mpr rfl), e1]
  simp
/-- one behind both -/
structure Trio (kind : String) (n : Nat) (s : SV) (cs : List CR) (c d e : CR) : Prop extends Duo kind n s cs c d where
  e1 : cs[n + 2]? = some e
  e2 : e.thing = 0
  e3 : e.kind = kind
  e4 : e.beg = 70
  e5 : e.fin = some 71
  e6 : e.ans = some (callV kind (callV kind (callV kind s d.word d.arg).1 c.word c.arg).1 e.word e.arg).2
theorem Trio.m3 (D : Trio kind n s cs c d e) : mcfA cs true n (n + 2) = true := by
  unfold mcfA
  rw [D.c1, D.e1]
  simp [mcfV, D.c5, D.e4]
theorem Trio.m4 (D : Trio kind n s cs c d e) : mcfA cs true (n + 1) (n + 2) = true := by
  unfold mcfA
  rw [D.d1, D.e1]
  simp [mcfV, D.d5, D.e4]
theorem Trio.m5 (D : Trio kind n s cs c d e) : mcfA cs true (n + 2) n = false := by
  unfold mcfA
  rw [D.c1, D.e1]
  simp [mcfV, D.e5, D.c4]
theorem Trio.m6 (D : Trio kind n s cs c d e) : mcfA cs true (n + 2) (n + 1) = false := by
  unfold mcfA
  rw [D.d1, D.e1]
  simp [mcfV, D.e5, D.d4]
/-- the last answer is the same behind both orders -/
def lastly (kind : String) (s : SV) (c d e : CR) : Bool := decide ((callV kind (callV kind (callV kind s c.word c.arg).1 d.word d.arg).1 e.word e.arg).2 = (callV kind (callV kind (callV kind s d.word d.arg).1 c.word c.arg).1 e.word e.arg).2)
theorem Trio.srch (D : Trio kind n s cs c d e) (hS : SSt kind s S) (hl : cs.length = n + 3) (m : Nat) : DL.srch cs true (m + 4) (List.range n) S = if lastly kind s c d e then some (List.range n ++ [n, n + 1, n + 2]) else if twin kind s c d then some (List.range n ++ [n + 1, n, n + 2]) else none := by
  have l0 : leftOf cs.length (List.range n) = [n, n + 1, n + 2] := by
    rw [left_range (by omega), hl, show n + 3 - n = 3 by omega]
    rfl
  have l1 : leftOf cs.length (List.range n ++ [n]) = [n + 1, n + 2] := by
    rw [left_snoc, l0]
    simp
  have l2 : leftOf cs.length (List.range n ++ [n] ++ [n + 1]) = [n + 2] := by
    rw [left_snoc, l1]
    simp
  have l3 : leftOf cs.length (List.range n ++ [n] ++ [n + 1] ++ [n + 2]) = [] := by
    rw [left_snoc, l2]
    simp
  have k1 : leftOf cs.length (List.range n ++ [n + 1]) = [n, n + 2] := by
    rw [left_snoc, l0]
    simp
  have k2 : leftOf cs.length (List.range n ++ [n + 1] ++ [n]) = [n + 2] := by
    rw [left_snoc, k1]
    simp
  have k3 : leftOf cs.length (List.range n ++ [n + 1] ++ [n] ++ [n + 2]) = [] := by
    rw [left_snoc, k2]
    simp
  have h1 := sst_step hS D.c2 D.c3
  have h2 := sst_step h1 D.d2 D.d3
  have i1 := sst_step hS D.d2 D.d3
  have i2 := sst_step i1 D.c2 D.c3
  have a0 : allNone cs [n, n + 1, n + 2] = false := by simp [allNone, D.c1, D.c6]
  have a1 : allNone cs [n + 1, n + 2] = false := by simp [allNone, D.d1, D.d6]
  have a2 : allNone cs [n + 2] = false := by simp [allNone, D.e1, D.e6]
  have a3 : allNone cs [n, n + 2] = false := by simp [allNone, D.c1, D.c6]
  have b0 : blocked cs true (leftOf cs.length (List.range n)) n = false := by
    rw [l0]
    exact blocked_f fun o ho => by
      simp at ho
      rcases ho with rfl | rfl | rfl
      · exact .inl rfl
      · exact .inr D.m2
      · exact .inr D.m5
  have b1 : blocked cs true (leftOf cs.length (List.range n ++ [n])) (n + 1) = false := by
    rw [l1]
    exact blocked_f fun o ho => by
      simp at ho
      rcases ho with rfl | rfl
      · exact .inl rfl
      · exact .inr D.m6
  have b2 : blocked cs true (leftOf cs.length (List.range n ++ [n] ++ [n + 1])) (n + 2) = false := by
    rw [l2]
    exact blocked_f fun o ho => by
      simp at ho
      exact .inl ho
  have b3 : blocked cs true (leftOf cs.length (List.range n)) (n + 1) = false := by
    rw [l0]
    exact blocked_f fun o ho => by
      simp at ho
      rcases ho with rfl | rfl | rfl
      · exact .inr D.m1
      · exact .inl rfl
      · exact .inr D.m6
  have b4 : blocked cs true (leftOf cs.length (List.range n ++ [n + 1])) n = false := by
    rw [k1]
    exact blocked_f fun o ho => by
      simp at ho
      rcases ho with rfl | rfl
      · exact .inl rfl
      · exact .inr D.m5
  have b5 : blocked cs true (leftOf cs.length (List.range n ++ [n + 1] ++ [n])) (n + 2) = false := by
    rw [k2]
    exact blocked_f fun o ho => by
      simp at ho
      exact .inl ho
  have t0 : blocked cs true (leftOf cs.length (List.range n)) (n + 2) = true := by
    rw [l0]
    exact blocked_t (o := n) (by simp) (by omega) D.m3
  have t1 : blocked cs true (leftOf cs.length (List.range n ++ [n])) (n + 2) = true := by
    rw [l1]
    exact blocked_t (o := n + 1) (by simp) (by omega) D.m4
  have t2 : blocked cs true (leftOf cs.length (List.range n ++ [n + 1])) (n + 2) = true := by
    rw [k1]
    exact blocked_t (o := n) (by simp) (by omega) D.m3
  -- one way
  have x2 : DL.srch cs true (m + 2) (List.range n ++ [n] ++ [n + 1]) (stepS (stepS S c) d) = if lastly kind s c d e then some (List.range n ++ [n, n + 1, n + 2]) else none := by
    rw [srch_try (by rw [l2]; exact a2), l2, List.findSome?_cons, List.findSome?_nil]
    by_cases f : fits (stepS (stepS S c) d) e
    · have g := (sst_fits h2 D.e2 D.e3 D.e6).mp f
      rw [try_go D.e1 b2 f, srch_all (by rw [l3]; rfl), if_pos (by simp [lastly, g])]
      simp
    · have g := fun q => f ((sst_fits h2 D.e2 D.e3 D.e6).mpr q)
      rw [try_unfit D.e1 f, if_neg (by simp [lastly]; exact fun q => g q.symm)]
  have x1 : DL.srch cs true (m + 3) (List.range n ++ [n]) (stepS S c) = if lastly kind s c d e then some (List.range n ++ [n, n + 1, n + 2]) else none := by
    rw [srch_try (by rw [l1]; exact a1), l1, List.findSome?_cons, List.findSome?_cons, List.findSome?_nil, try_go D.d1 b1 ((sst_fits h1 D.d2 D.d3 D.d6).mpr rfl), x2, try_blocked t1]
    cases lastly kind s c d e <;> rfl
  -- the other
  have y2 : DL.srch cs true (m + 2) (List.range n ++ [n + 1] ++ [n]) (stepS (stepS S d) c) = some (List.range n ++ [n + 1, n, n + 2]) := by
    rw [srch_try (by rw [k2]; exact a2), k2, List.findSome?_cons, List.findSome?_nil, try_go D.e1 b5 ((sst_fits i2 D.e2 D.e3 D.e6).mpr rfl), srch_all (by rw [k3]; rfl)]
    simp
  have y0 : tryV cs true (m + 3) (List.range n) S (n + 1) = if twin kind s c d then some (List.range n ++ [n + 1, n, n + 2]) else none := by
    by_cases f1 : fits S d
    · have g1 := (sst_fits hS D.d2 D.d3 D.d6).mp f1
      rw [try_go D.d1 b3 f1, srch_try (by rw [k1]; exact a3), k1, List.findSome?_cons, List.findSome?_cons, List.findSome?_nil, try_blocked t2]
      by_cases f2 : fits (stepS S d) c
      · have g2 := (sst_fits i1 D.c2 D.c3 D.c6).mp f2
        rw [try_go D.c1 b4 f2, y2, if_pos (twin_t g2 g1)]
      · have g2 := fun q => f2 ((sst_fits i1 D.c2 D.c3 D.c6).mpr q)
        rw [try_unfit D.c1 f2, twin_f1 g2]
        rfl
    · have g1 := fun q => f1 ((sst_fits hS D.d2 D.d3 D.d6).mpr q)
      rw [try_unfit D.d1 f1, twin_f2 g1]
      rfl
  rw [srch_try (by rw [l0]; exact a0), l0, List.findSome?_cons, List.findSome?_cons, List.findSome?_cons, List.findSome?_nil, try_go D.c1 b0 ((sst_fits hS D.c2 D.c3 D.c6).mpr rfl), x1, y0, try_blocked t0]
  cases lastly kind s c d e with
  | true => rfl
  | false => cases twin kind s c d <;> rfl
end
/-! ### the calls as a law lays them -/
def pCR (kind : String) (k : Nat) (c : String × Int) (t : Int) : CR := ⟨1, 0, kind, c.1, c.2, some t, 2 * (k : Int), some (2 * (k : Int) + 1)⟩
def toldL (kind : String) (past : List (String × Int)) : List Int := (runV kind (initV kind) past).2
def lineC (kind : String) (past : List (String × Int)) : List CR := (List.range past.length).map fun k => pCR kind k (past.getD k ("", 0)) ((toldL kind past).getD k 0)
theorem told_get {kind : String} {c : String × Int} : ∀ {past : List (String × Int)} {s : SV} {k : Nat}, past[k]? = some c → (runV kind s past).2[k]? = some (callV kind (runV kind s (past.take k)).1 c.1 c.2).2
  | [], _, _, h => by cases h
  | d :: r, s, 0, h => by cases h; rfl
  | d :: r, s, k + 1, h => by
    have h : r[k]? = some c := h
    exact told_get (kind := kind) (s := (callV kind s d.1 d.2).1) h
theorem lineC_len (kind : String) (past : List (String × Int)) : (lineC kind past).length = past.length := by simp [lineC]
theorem lineC_get {kind : String} {past : List (String × Int)} {k : Nat} {c : String × Int} (h : past[k]? = some c) : (lineC kind past)[k]? = some (pCR kind k c (callV kind (runV kind (initV kind) (past.take k)).1 c.1 c.2).2) := by
  have hk := (List.getElem?_eq_some_iff.mp h).1
  unfold lineC toldL
  rw [List.getElem?_map, List.getElem?_range hk, Option.map_some, List.getD_eq_getElem?_getD, List.getD_eq_getElem?_getD, h, told_get h]
  rfl
theorem line_ok {kind : String} {past : List (String × Int)} {late : List CR} (hn : past.length ≤ 4) (hl : ∀ c ∈ late, 50 ≤ c.beg ∧ (∃ f, c.fin = some f ∧ 60 ≤ f) ∧ ∃ a, c.ans = some a) : Line kind past.length (fun k => (runV kind (initV kind) (past.take k)).1) (lineC kind past ++ late) where
  init := rfl
  one k hk := by
    have hc : past[k]? = some past[k] := List.getElem?_eq_getElem hk
    refine ⟨_, by rw [List.getElem?_append_left (by rw [lineC_len]; exact hk)]; exact lineC_get hc, rfl, rfl, rfl, rfl, rfl, ?_⟩
    simp only [run_take hc]
    rfl
  late k c hk hc := by
    rw [List.getElem?_append_right (by rw [lineC_len]; exact hk)] at hc
    exact hl c (List.mem_of_getElem? hc)
  small := hn
def qCR (hand : Int) (kind : String) (c : String × Int) (t b f : Int) : CR := ⟨hand, 0, kind, c.1, c.2, some t, b, some f⟩
theorem times_line (kind : String) (past : List (String × Int)) (late : List CR) : timesOf (lineC kind past ++ late) = ((List.range past.length).flatMap fun (k : Nat) => [2 * (k : Int), 2 * (k : Int) + 1]) ++ timesOf late := by
  unfold timesOf lineC
  rw [List.flatMap_append, List.flatMap_map]
  rfl
theorem oks_line {kind : String} {past : List (String × Int)} (hk : kind ∈ kinds5) (hw : ∀ c ∈ past, OkW kind c) (hn : past.length ≤ 4) : ∀ c ∈ lineC kind past, OkC c := by
  intro c hc
  obtain ⟨k, hk2⟩ := List.getElem?_of_mem hc
  have hlt : k < past.length := by
    have := (List.getElem?_eq_some_iff.mp hk2).1
    rwa [lineC_len] at this
  have hp : past[k]? = some past[k] := List.getElem?_eq_getElem hlt
  rw [lineC_get hp] at hk2
  cases hk2
  obtain ⟨h1, h2, h3, h4⟩ := hw _ (List.getElem_mem hlt)
  have hr := (run_ok hk past 0 (initV kind) (okk_init _ _) fun c hc => ⟨(hw c hc).2.1, (hw c hc).2.2.1⟩).2
  have ht := hr _ (List.mem_of_getElem? (told_get hp))
  constructor
  · exact ⟨by simp [pCR], by simp [pCR]⟩
  · exact ⟨by simp [pCR], by simp [pCR]⟩
  · exact hk
  · exact h1
  · exact ⟨h2, h3⟩
  · exact h4
  · simp only [pCR]; omega
  · simp [pCR]
  · intro a ha; cases ha; exact ht
  · intro f hf
    simp only [pCR, Option.some.injEq] at hf ⊢
    omega
/-- two calls beside each other behind a line: no fault -/
theorem okh_two {kind : String} {past : List (String × Int)} (hk : kind ∈ kinds5) (hw : ∀ c ∈ past, OkW kind c) (hn : past.length ≤ 4) {c d : String × Int} (hc : OkW kind c) (hd : OkW kind d) {t u : Int} (ht : -1 ≤ t ∧ t ≤ 99) (hu : -1 ≤ u ∧ u ≤ 99) : OkH (lineC kind past ++ [qCR 2 kind c t 50 60, qCR 3 kind d u 51 61]) := by
  have hlen : (lineC kind past ++ [qCR 2 kind c t 50 60, qCR 3 kind d u 51 61]).length = past.length + 2 := by simp [lineC_len]
  have get : ∀ (k : Nat) (a : CR), (lineC kind past ++ [qCR 2 kind c t 50 60, qCR 3 kind d u 51 61])[k]? = some a → (k < past.length ∧ a.hand = 1 ∧ a.kind = kind ∧ a.beg = 2 * (k : Int) ∧ a.fin = some (2 * (k : Int) + 1)) ∨ (k = past.length ∧ a = qCR 2 kind c t 50 60) ∨ (k = past.length + 1 ∧ a = qCR 3 kind d u 51 61) := by
    intro k a h
    by_cases q : k < past.length
    · rw [List.getElem?_append_left (by rw [lineC_len]; exact q), lineC_get (List.getElem?_eq_getElem q)] at h
      cases h
      exact .inl ⟨q, rfl, rfl, rfl, rfl⟩
    · rw [List.getElem?_append_right (by rw [lineC_len]; omega), lineC_len] at h
      match e : k - past.length, h with
      | 0, h => cases h; exact .inr (.inl ⟨by omega, rfl⟩)
      | 1, h => cases h; exact .inr (.inr ⟨by omega, rfl⟩)
      | j + 2, h => cases h
  constructor
  · intro a ha
    rcases List.mem_append.mp ha with ha | ha
    · exact oks_line hk hw hn a ha
    · have one : ∀ (hand : Int) (x : String × Int) (v b f : Int), 1 ≤ hand ∧ hand ≤ 9 → OkW kind x → -1 ≤ v ∧ v ≤ 99 → 0 ≤ b ∧ b + 1 ≤ f ∧ f ≤ 1000 → OkC (qCR hand kind x v b f) := by
        intro hand x v b f h1 h2 h3 h4
        obtain ⟨w1, w2, w3, w4⟩ := h2
        constructor
        · exact h1
        · exact ⟨by simp [qCR], by simp [qCR]⟩
        · exact hk
        · exact w1
        · exact ⟨w2, w3⟩
        · exact w4
        · exact ⟨h4.1, by simp only [qCR]; omega⟩
        · simp [qCR]
        · intro a ha; cases ha; exact h3
        · intro g hg
          simp only [qCR, Option.some.injEq] at hg ⊢
          omega
      simp only [List.mem_cons, List.not_mem_nil, or_false] at ha
      rcases ha with rfl | rfl
      · exact one _ _ _ _ _ (by decide) hc ht (by decide)
      · exact one _ _ _ _ _ (by decide) hd hu (by decide)
  · rw [times_line]
    have : timesOf [qCR 2 kind c t 50 60, qCR 3 kind d u 51 61] = [50, 60, 51, 61] := rfl
    rw [this]
    generalize past.length = n at hn
    match n, hn with
    | 0, _ => decide
    | 1, _ => decide
    | 2, _ => decide
    | 3, _ => decide
    | 4, _ => decide
  · intro k a b ha hb
    rcases get k a ha with ⟨h1, _, _, h2, _⟩ | ⟨h1, rfl⟩ | ⟨h1, rfl⟩ <;> rcases get (k + 1) b hb with ⟨i1, _, _, i2, _⟩ | ⟨i1, rfl⟩ | ⟨i1, rfl⟩ <;> simp only [qCR] at * <;> omega
  · intro i j a b hij ha hb e
    rcases get i a ha with ⟨h1, g1, _, h2, h3⟩ | ⟨h1, rfl⟩ | ⟨h1, rfl⟩
    · rcases get j b hb with ⟨i1, g2, _, i2, i3⟩ | ⟨i1, rfl⟩ | ⟨i1, rfl⟩
      · exact ⟨_, h3, by rw [i2]; omega⟩
      · rw [g1] at e; cases e
      · rw [g1] at e; cases e
    · rcases get j b hb with ⟨i1, g2, _, i2, i3⟩ | ⟨i1, rfl⟩ | ⟨i1, rfl⟩
      · omega
      · omega
      · cases e
    · rcases get j b hb with ⟨i1, g2, _, i2, i3⟩ | ⟨i1, rfl⟩ | ⟨i1, rfl⟩ <;> omega
  · intro i j a b hij ha hb e
    have : ∀ (k : Nat) (a : CR), (lineC kind past ++ [qCR 2 kind c t 50 60, qCR 3 kind d u 51 61])[k]? = some a → a.kind = kind := fun k a h => by
      rcases get k a h with ⟨_, _, h, _⟩ | ⟨_, rfl⟩ | ⟨_, rfl⟩
      · exact h
      · rfl
      · rfl
    rw [this i a ha, this j b hb]
theorem miss_nil {cs : List CR} {o : List Nat} (h : ∀ k, k < cs.length → k ∈ o) : missL cs o = [] := by
  unfold missL
  rw [List.filter_eq_nil_iff]
  intro k hk
  have hk : k < cs.length := by simpa using hk
  simp [h k hk]
theorem ofV_run {cs : List CR} {o : List Nat} {bt : Bool} (h : ∀ k, k < cs.length → k ∈ o) : ofV cs o bt = ofRun cs bt 0 o [] := by
  unfold ofV
  rw [miss_nil h]
section
variable {kind : String} {past : List (String × Int)} {c d e : String × Int}
def st1 (kind : String) (past : List (String × Int)) : SV := (runV kind (initV kind) past).1
def fstA (kind : String) (s : SV) (c : String × Int) : Int := (callV kind s c.1 c.2).2
def nxtS (kind : String) (s : SV) (c : String × Int) : SV := (callV kind s c.1 c.2).1
def cs2 (kind : String) (past : List (String × Int)) (c d : String × Int) : List CR := lineC kind past ++ [qCR 2 kind c (fstA kind (st1 kind past) c) 50 60, qCR 3 kind d (fstA kind (nxtS kind (st1 kind past) c) d) 51 61]
def lastA (kind : String) (s : SV) (c d e : String × Int) : Int := fstA kind (nxtS kind (nxtS kind s c) d) e
def cs3 (kind : String) (past : List (String × Int)) (c d e : String × Int) : List CR := cs2 kind past c d ++ [qCR 1 kind e (lastA kind (st1 kind past) d c e) 70 71]
def bothV (kind : String) (s : SV) (c d : String × Int) : Bool := decide (fstA kind s c = fstA kind (nxtS kind s d) c) && decide (fstA kind (nxtS kind s c) d = fstA kind s d)
theorem cs2_len : (cs2 kind past c d).length = past.length + 2 := by simp [cs2, lineC_len]
theorem cs3_len : (cs3 kind past c d e).length = past.length + 3 := by simp [cs3, cs2_len]
theorem cs3_eq : cs3 kind past c d e = lineC kind past ++ [qCR 2 kind c (fstA kind (st1 kind past) c) 50 60, qCR 3 kind d (fstA kind (nxtS kind (st1 kind past) c) d) 51 61, qCR 1 kind e (lastA kind (st1 kind past) d c e) 70 71] := by simp [cs3, cs2]
theorem line2 (hn : past.length ≤ 4) : Line kind past.length (fun k => (runV kind (initV kind) (past.take k)).1) (cs2 kind past c d) := line_ok hn fun x hx => by
  simp only [List.mem_cons, List.not_mem_nil, or_false] at hx
  rcases hx with rfl | rfl
  · exact ⟨by simp [qCR], ⟨_, rfl, by decide⟩, _, rfl⟩
  · exact ⟨by simp [qCR], ⟨_, rfl, by decide⟩, _, rfl⟩
theorem line3 (hn : past.length ≤ 4) : Line kind past.length (fun k => (runV kind (initV kind) (past.take k)).1) (cs3 kind past c d e) := by
  rw [cs3_eq]
  exact line_ok hn fun x hx => by
    simp only [List.mem_cons, List.not_mem_nil, or_false] at hx
    rcases hx with rfl | rfl | rfl
    · exact ⟨by simp [qCR], ⟨_, rfl, by decide⟩, _, rfl⟩
    · exact ⟨by simp [qCR], ⟨_, rfl, by decide⟩, _, rfl⟩
    · exact ⟨by simp [qCR], ⟨_, rfl, by decide⟩, _, rfl⟩
theorem at_behind {a : List CR} {b : List CR} {j : Nat} : (a ++ b)[a.length + j]? = b[j]? := by
  rw [List.getElem?_append_right (Nat.le_add_right _ _), Nat.add_sub_cancel_left]
theorem duo2 : Duo kind past.length (st1 kind past) (cs2 kind past c d) (qCR 2 kind c (fstA kind (st1 kind past) c) 50 60) (qCR 3 kind d (fstA kind (nxtS kind (st1 kind past) c) d) 51 61) where
  c1 := by unfold cs2; rw [← lineC_len kind past]; exact at_behind (j := 0)
  c2 := rfl
  c3 := rfl
  c4 := rfl
  c5 := rfl
  c6 := rfl
  d1 := by unfold cs2; rw [← lineC_len kind past]; exact at_behind (j := 1)
  d2 := rfl
  d3 := rfl
  d4 := rfl
  d5 := rfl
  d6 := rfl
theorem trio3 : Trio kind past.length (st1 kind past) (cs3 kind past c d e) (qCR 2 kind c (fstA kind (st1 kind past) c) 50 60) (qCR 3 kind d (fstA kind (nxtS kind (st1 kind past) c) d) 51 61) (qCR 1 kind e (lastA kind (st1 kind past) d c e) 70 71) where
  c1 := by rw [cs3_eq, ← lineC_len kind past]; exact at_behind (j := 0)
  c2 := rfl
  c3 := rfl
  c4 := rfl
  c5 := rfl
  c6 := rfl
  d1 := by rw [cs3_eq, ← lineC_len kind past]; exact at_behind (j := 1)
  d2 := rfl
  d3 := rfl
  d4 := rfl
  d5 := rfl
  d6 := rfl
  e1 := by rw [cs3_eq, ← lineC_len kind past]; exact at_behind (j := 2)
  e2 := rfl
  e3 := rfl
  e4 := rfl
  e5 := rfl
  e6 := rfl
theorem st_all : (runV kind (initV kind) (past.take past.length)).1 = st1 kind past := by simp [st1]
theorem t_straight (hn : past.length ≤ 4) : ofV (cs2 kind past c d) (List.range past.length ++ [past.length, past.length + 1]) true = none := by
  rw [ofV_run (fun k hk => by rw [cs2_len] at hk; simp; omega)]
  obtain ⟨S, hS, e1⟩ := (line2 (kind := kind) (c := c) (d := d) hn).of [past.length, past.length + 1] (by simp) past.length (Nat.le_refl _)
  simp only [st_all] at hS
  rw [e1, Nat.sub_self]
  obtain ⟨S', _, e2⟩ := duo2.straight hS past.length [] (by simp)
  exact e2
theorem t_turned (hn : past.length ≤ 4) : (ofV (cs2 kind past c d) (List.range past.length ++ [past.length + 1, past.length]) true).isNone = bothV kind (st1 kind past) c d := by
  rw [ofV_run (fun k hk => by rw [cs2_len] at hk; simp; omega)]
  obtain ⟨S, hS, e1⟩ := (line2 (kind := kind) (c := c) (d := d) hn).of [past.length + 1, past.length] (by simp) past.length (Nat.le_refl _)
  simp only [st_all] at hS
  rw [e1, Nat.sub_self]
  rcases duo2.turned hS past.length [] (by simp) with ⟨h, S', _, e2⟩ | ⟨h, q, e2⟩
  · rw [show ofRun (cs2 kind past c d) true past.length (List.range' past.length 0 ++ [past.length + 1, past.length]) S = none from e2]
    exact h.symm
  · rw [show ofRun (cs2 kind past c d) true past.length (List.range' past.length 0 ++ [past.length + 1, past.length]) S = some q from e2]
    exact h.symm
theorem t_srch2 (hn : past.length ≤ 4) : srch (cs2 kind past c d) true 12 [] [] = some (List.range past.length ++ [past.length, past.length + 1]) := by
  obtain ⟨S, hS, e1⟩ := (line2 (kind := kind) (c := c) (d := d) hn).srch (by rw [cs2_len]; omega) (12 - past.length) past.length (Nat.le_refl _)
  simp only [st_all] at hS
  rw [show 12 - past.length + past.length = 12 by omega] at e1
  rw [e1, show 12 - past.length = (9 - past.length) + 3 by omega]
  exact duo2.srch hS cs2_len _
theorem t_straight3 (hn : past.length ≤ 4) : (ofV (cs3 kind past c d e) (List.range past.length ++ [past.length, past.length + 1, past.length + 2]) true).isNone = decide (lastA kind (st1 kind past) c d e = lastA kind (st1 kind past) d c e) := by
  have T := trio3 (kind := kind) (past := past) (c := c) (d := d) (e := e)
  rw [ofV_run (fun k hk => by rw [cs3_len] at hk; simp; omega)]
  obtain ⟨S, hS, e1⟩ := (line3 (kind := kind) (c := c) (d := d) (e := e) hn).of [past.length, past.length + 1, past.length + 2] (by simp) past.length (Nat.le_refl _)
  simp only [st_all] at hS
  rw [e1, Nat.sub_self]
  obtain ⟨S', hS', e2⟩ := T.toDuo.straight hS past.length [past.length + 2] (by simp [T.m5, T.m6])
  rw [show ofRun (cs3 kind past c d e) true past.length (List.range' past.length 0 ++ [past.length, past.length + 1, past.length + 2]) S = _ from e2]
  by_cases f : fits S' (qCR 1 kind e (lastA kind (st1 kind past) d c e) 70 71)
  · have g : lastA kind (st1 kind past) d c e = lastA kind (st1 kind past) c d e := (sst_fits hS' T.e2 T.e3 T.e6).mp f
    rw [of_step T.e1 (by simp) f, g]
    simp [ofRun]
  · have g : ¬ lastA kind (st1 kind past) d c e = lastA kind (st1 kind past) c d e := fun q => f ((sst_fits hS' T.e2 T.e3 T.e6).mpr q)
    rw [of_unfit T.e1 (by simp) f, decide_eq_false (fun q => g q.symm)]
    rfl
theorem t_turned3 (hn : past.length ≤ 4) : (ofV (cs3 kind past c d e) (List.range past.length ++ [past.length + 1, past.length, past.length + 2]) true).isNone = bothV kind (st1 kind past) c d := by
  have T := trio3 (kind := kind) (past := past) (c := c) (d := d) (e := e)
  rw [ofV_run (fun k hk => by rw [cs3_len] at hk; simp; omega)]
  obtain ⟨S, hS, e1⟩ := (line3 (kind := kind) (c := c) (d := d) (e := e) hn).of [past.length + 1, past.length, past.length + 2] (by simp) past.length (Nat.le_refl _)
  simp only [st_all] at hS
  rw [e1, Nat.sub_self]
  rcases T.toDuo.turned hS past.length [past.length + 2] (by simp [T.m5, T.m6]) with ⟨h, S', hS', e2⟩ | ⟨h, q, e2⟩
  · rw [show ofRun (cs3 kind past c d e) true past.length (List.range' past.length 0 ++ [past.length + 1, past.length, past.length + 2]) S = _ from e2]
    rw [of_step T.e1 (by simp) ((sst_fits hS' T.e2 T.e3 T.e6).mpr rfl)]
    exact h.symm
  · rw [show ofRun (cs3 kind past c d e) true past.length (List.range' past.length 0 ++ [past.length + 1, past.length, past.length + 2]) S = some q from e2]
    exact h.symm
theorem t_srch3 (hn : past.length ≤ 4) : srch (cs3 kind past c d e) true 12 [] [] = if decide (lastA kind (st1 kind past) c d e = lastA kind (st1 kind past) d c e) then some (List.range past.length ++ [past.length, past.length + 1, past.length + 2]) else if bothV kind (st1 kind past) c d then some (List.range past.length ++ [past.length + 1, past.length, past.length + 2]) else none := by
  obtain ⟨S, hS, e1⟩ := (line3 (kind := kind) (c := c) (d := d) (e := e) hn).srch (by rw [cs3_len]; omega) (12 - past.length) past.length (Nat.le_refl _)
  simp only [st_all] at hS
  rw [show 12 - past.length + past.length = 12 by omega] at e1
  rw [e1, show 12 - past.length = (8 - past.length) + 4 by omega]
  exact trio3.srch hS cs3_len _
end
section
variable {kind : String} {past : List (String × Int)} {c d e : String × Int}
theorem lineC_args (hk : kind ∈ kinds5) (hw : ∀ c ∈ past, OkW kind c) : ∀ x ∈ lineC kind past, x.kind = kind ∧ x.kind ∈ kinds5 ∧ 0 ≤ x.arg ∧ x.arg ≤ 99 := by
  intro x hx
  obtain ⟨k, hk2⟩ := List.getElem?_of_mem hx
  have hlt : k < past.length := by
    have := (List.getElem?_eq_some_iff.mp hk2).1
    rwa [lineC_len] at this
  rw [lineC_get (List.getElem?_eq_getElem hlt)] at hk2
  cases hk2
  have := hw _ (List.getElem_mem hlt)
  exact ⟨rfl, hk, this.2.1, this.2.2.1⟩
theorem cs2_mem {x : CR} (h : x ∈ cs2 kind past c d) : x ∈ lineC kind past ∨ x = qCR 2 kind c (fstA kind (st1 kind past) c) 50 60 ∨ x = qCR 3 kind d (fstA kind (nxtS kind (st1 kind past) c) d) 51 61 := by
  unfold cs2 at h
  rcases List.mem_append.mp h with h | h
  · exact .inl h
  · simp only [List.mem_cons, List.not_mem_nil, or_false] at h
    exact .inr h
theorem cs2_args (hk : kind ∈ kinds5) (hw : ∀ c ∈ past, OkW kind c) (hc : OkW kind c) (hd : OkW kind d) : ∀ x ∈ cs2 kind past c d, x.kind = kind ∧ x.kind ∈ kinds5 ∧ 0 ≤ x.arg ∧ x.arg ≤ 99 := by
  intro x hx
  rcases cs2_mem hx with h | rfl | rfl
  · exact lineC_args hk hw x h
  · exact ⟨rfl, hk, hc.2.1, hc.2.2.1⟩
  · exact ⟨rfl, hk, hd.2.1, hd.2.2.1⟩
theorem cs3_args (hk : kind ∈ kinds5) (hw : ∀ c ∈ past, OkW kind c) (hc : OkW kind c) (hd : OkW kind d) (he : OkW kind e) : ∀ x ∈ cs3 kind past c d e, x.kind = kind ∧ x.kind ∈ kinds5 ∧ 0 ≤ x.arg ∧ x.arg ≤ 99 := by
  intro x hx
  unfold cs3 at hx
  rcases List.mem_append.mp hx with h | h
  · exact cs2_args hk hw hc hd x h
  · rw [List.mem_singleton.mp h]
    exact ⟨rfl, hk, he.2.1, he.2.2.1⟩
theorem cs2_fin : ∀ x ∈ cs2 kind past c d, x.fin ≠ none := by
  intro x hx
  rcases cs2_mem hx with h | rfl | rfl
  · unfold lineC at h
    obtain ⟨k, _, rfl⟩ := List.mem_map.mp h
    simp [pCR]
  · simp [qCR]
  · simp [qCR]
end
theorem rgD_two (n : Nat) : rgD 0 ((n : Int) + 2) = (List.range n ++ [n, n + 1]).map fun (k : Nat) => DV.int k := by
  rw [show (n : Int) + 2 = ((n + 2 : Nat) : Int) by omega, rgD_map, List.range_succ, List.range_succ]
  simp
theorem nsD_straight (n : Nat) : DV.tup (rgD 0 ((n : Int) + 2)) = nsD (List.range n ++ [n, n + 1]) := by rw [rgD_two]; rfl
theorem nsD_turned (n : Nat) : DV.tup (rgD 0 (n : Int) ++ [DV.int ((n : Int) + 1), DV.int n]) = nsD (List.range n ++ [n + 1, n]) := by
  rw [rgD_map]
  simp [nsD]
theorem nsD_add {l : List Nat} {n : Nat} {st : Sto} (h : l.length + 1 ≤ LIM) : gAdd (nsD l) (.tup [.int ((n : Int) + 2)]) st = some (nsD (l ++ [n + 2]), st) := by
  unfold nsD
  rw [ev_addT, if_pos (by simpa using h)]
  simp
theorem same_nsD {st : Sto} {l : List Nat} (h : l.length ≤ 1000) : Same st 1 (nsD l) (nsD l) := by
  have e : nsD l = .tup ((l.map fun (n : Nat) => (n : Int)).map DV.int) := by unfold nsD; rw [List.map_map]; rfl
  rw [e]
  exact .tup rfl (by simpa using h) same_ints
end DL

/-! PL7: while; dicts by numbers; drawn calls. -/
namespace DL
open PySem PySem.Spec PyProof.Rows L2

theorem while_W {t : ME Bool} {m : MS} {Q : Fl → Env → Sto → Prop} (P : Nat → Env → Sto → Prop) (step : ∀ n e st, P n e st → V (t e st) fun b s1 => cd b (W (m e s1) fun f e2 s2 => lp f (∃ n', n' < n ∧ P n' e2 s2) (fun f => Q f e2 s2)) (Q .nx e s1)) : ∀ (k n : Nat) (e : Env) (st : Sto), P n e st → n < k → W (sWhile t m k e st) Q
  | 0, n, e, st, _, hn => absurd hn (Nat.not_lt_zero _)
  | k + 1, n, e, st, hp, hn => by
    obtain ⟨b, s1, h1, h2⟩ := step n e st hp
    unfold sWhile
    rw [h1]
    cases b with
    | false => exact ⟨_, _, _, rfl, h2⟩
    | true =>
      obtain ⟨f, e2, s2, h3, h4⟩ := h2
      simp only [h3]
      cases f with
      | nx =>
        obtain ⟨n', h5, h6⟩ := h4
        exact while_W P step k n' e2 s2 h6 (by omega)
      | ct =>
        obtain ⟨n', h5, h6⟩ := h4
        exact while_W P step k n' e2 s2 h6 (by omega)
      | bk => exact ⟨_, _, _, rfl, h4⟩
      | rt d => exact ⟨_, _, _, rfl, h4⟩
/-! ### dicts by numbers -/
section
variable {α : Type}
def encG (f : α → DV) (S : List (Int × α)) : List (Key × DV) := S.map fun p => (.inl p.1, f p.2)
def lookG (S : List (Int × α)) (k : Int) : Option α := (S.find? fun p => decide (p.1 = k)).map (·.2)
def putG (S : List (Int × α)) (k : Int) (v : α) : List (Int × α) := if (lookG S k).isSome then S.map (fun p => if p.1 = k then (p.1, v) else p) else S ++ [(k, v)]
theorem val_encG (f : α → DV) (S : List (Int × α)) (k : Int) : valD (encG f S) (.inl k) = (lookG S k).map f := by
  unfold valD encG lookG
  rw [List.find?_map, Option.map_map, Option.map_map]
  have : ((fun kv : Key × DV => decide (kv.1 = .inl k)) ∘ fun p : Int × α => ((.inl p.1 : Key), f p.2)) = fun p : Int × α => decide (p.1 = k) := by
    funext p
    simp
  rw [this]
  rfl
theorem put_encG (f : α → DV) (S : List (Int × α)) (k : Int) (v : α) : putD (encG f S) (.inl k) (f v) = encG f (putG S k v) := by
  unfold putD putG
  rw [val_encG]
  cases h : lookG S k with
  | none => simp [encG]
  | some w =>
    simp only [Option.map_some, Option.isSome_some, if_true]
    unfold encG
    rw [List.map_map, List.map_map]
    congr 1
    funext p
    simp only [Function.comp]
    by_cases e : p.1 = k
    · simp [e]
    · simp [e]
theorem putG_len (S : List (Int × α)) (k : Int) (v : α) : (putG S k v).length ≤ S.length + 1 := by
  unfold putG
  split <;> simp
@[simp] theorem encG_len (f : α → DV) (S : List (Int × α)) : (encG f S).length = S.length := by simp [encG]
theorem look_put (S : List (Int × α)) (k : Int) (v : α) (j : Int) : lookG (putG S k v) j = if j = k then some v else lookG S j := by
  unfold putG
  cases h : lookG S k with
  | none =>
    simp only [Option.isSome_none, Bool.false_eq_true, if_false]
    unfold lookG at h ⊢
    rw [List.find?_append]
    by_cases e : j = k
    · subst e
      rw [Option.map_eq_none_iff] at h
      rw [h]
      simp
    · rw [if_neg e]
      have e2 : ¬ k = j := fun q => e q.symm
      cases q : S.find? fun p => decide (p.1 = j) with
      | none => simp [e2]
      | some p => simp
  | some w =>
    simp only [Option.isSome_some, if_true]
    by_cases e : j = k
    · subst e
      rw [if_pos rfl]
      unfold lookG at h ⊢
      rw [List.find?_map]
      have : ((fun p : Int × α => decide (p.1 = j)) ∘ fun p => if p.1 = j then (p.1, v) else p) = fun p : Int × α => decide (p.1 = j) := by
        funext p
        simp only [Function.comp]
        by_cases q : p.1 = j <;> simp [q]
      rw [this]
      cases q : S.find? fun p => decide (p.1 = j) with
      | none => rw [q] at h; cases h
      | some p =>
        have := List.find?_some q
        simp only [decide_eq_true_eq] at this
        simp [this]
    · rw [if_neg e]
      unfold lookG
      rw [List.find?_map]
      have : ((fun p : Int × α => decide (p.1 = j)) ∘ fun p => if p.1 = k then (p.1, v) else p) = fun p : Int × α => decide (p.1 = j) := by
        funext p
        simp only [Function.comp]
        by_cases q : p.1 = k <;> simp [q]
      rw [this]
      cases q : S.find? fun p => decide (p.1 = j) with
      | none => rfl
      | some p =>
        have := List.find?_some q
        simp only [decide_eq_true_eq] at this
        have e2 : ¬ p.1 = k := by rw [this]; exact e
        simp [e2]
end
/-! ### in lists, in dicts -/
theorem in_lst {st : Sto} {l : Nat} {x : DV} {ds : List DV} (h : st[l]? = some (.lst ds)) (hx : flatD x = true) (hd : ds.all flatD = true) : gIn x (.ref l) st = some (.bl (inD x ds), st) := by
  show (match itemsOf st (.ref l) with | some ds => if flatD x = true ∧ ds.all flatD = true then some (DV.bl (inD x ds), st) else none | none => _) = _
  rw [ev_itemsL h]
  simp only
  rw [if_pos ⟨hx, hd⟩]
theorem in_ints {st : Sto} {l : Nat} {x : Int} {ns : List Int} (h : st[l]? = some (.lst (ns.map DV.int))) : gIn (.int x) (.ref l) st = some (.bl (decide (x ∈ ns)), st) := by
  rw [in_lst h rfl (flat_ints ns), inD_ints]
theorem notin_dct {st : Sto} {l : Nat} {x : DV} {k : Key} {kvs : List (Key × DV)} (h : st[l]? = some (.dct kvs)) (hk : keyD x = some k) : gNotIn x (.ref l) st = some (.bl (!(valD kvs k).isSome), st) := by
  show (match itemsOf st (.ref l) with | some ds => _ | none => match st[l]?, keyD x with | some (.dct kvs), some k => some (DV.bl (!(valD kvs k).isSome), st) | _, _ => none) = _
  rw [ev_itemsR, h, hk]
theorem ne_nil {st : Sto} {a b : Nat} {ns : List Int} (h1 : st[a]? = some (.lst (ns.map DV.int))) (h2 : st[b]? = some (.lst [])) : gNe (.ref a) (.ref b) st = some (.bl (!decide (ns = [])), st) := by
  have e1 : toPS st (.ref a) = some (.list (toPs (ns.map DV.int))) := by
    show (match st[a]? with | some (.lst ds) => if ds.all (okD 8) = true then some (PyData.list (toPs ds)) else none | _ => none) = _
    rw [h1]
    simp only
    rw [if_pos (ok_ints 8 ns)]
  have e2 : toPS st (.ref b) = some (.list (toPs (([] : List Int).map DV.int))) := by
    show (match st[b]? with | some (.lst ds) => if ds.all (okD 8) = true then some (PyData.list (toPs ds)) else none | _ => none) = _
    rw [h2]
    rfl
  unfold gNe
  rw [e1, e2]
  simp only [PyData.eqv, eqv_ints]
/-! ### drawn calls -/
def geq (used : List Int) (c : Int) : Nat := (used.filter fun x => decide (c ≤ x)).length
theorem geq_dec {used : List Int} {c : Int} (h : c ∈ used) : geq used (c + 1) < geq used c := by
  unfold geq
  have e : used.filter (fun x => decide (c + 1 ≤ x)) = (used.filter fun x => decide (c ≤ x)).filter fun x => decide (x ≠ c) := by
    rw [List.filter_filter]
    congr 1
    funext x
    by_cases h1 : c ≤ x <;> by_cases h2 : x = c <;> simp [h1, h2] <;> omega
  rw [e, List.length_filter_lt_length_iff_exists]
  exact ⟨c, List.mem_filter.mpr ⟨h, by simp⟩, by simp⟩
theorem geq_le (used : List Int) (c : Int) : geq used c ≤ used.length := List.length_filter_le _ _
/-- how far the clock may have come -/
def bd (i : Nat) : Nat := i * (i + 2)
theorem bd_succ (i : Nat) : bd (i + 1) = bd i + 2 * i + 3 := by
  unfold bd
  simp only [Nat.add_mul, Nat.mul_add]
  omega
theorem bd_le {i : Nat} (h : i ≤ 5) : bd i ≤ 35 := by
  match i, h with
  | 0, _ => decide
  | 1, _ => decide
  | 2, _ => decide
  | 3, _ => decide
  | 4, _ => decide
  | 5, _ => decide
/-- a history of drawn calls -/
structure Hist (things : Int) (nat : Int → String) (cs : List CR) : Prop where
  kinds : ∀ t, nat t ∈ kinds5
  len : cs.length ≤ 5
  one : ∀ c ∈ cs, 1 ≤ c.hand ∧ c.hand ≤ 3 ∧ 0 ≤ c.thing ∧ c.thing < things ∧ c.kind = nat c.thing ∧ OkW c.kind (c.word, c.arg) ∧ 1 ≤ c.beg ∧ c.beg ≤ 60 ∧ (c.ans = none ↔ c.fin = none) ∧ (∀ a, c.ans = some a → -1 ≤ a ∧ a ≤ 99) ∧ ∀ f, c.fin = some f → c.beg + 1 ≤ f ∧ f ≤ 60
  times : (timesOf cs).Nodup
  sorted : ∀ (i j : Nat) (a b : CR), i < j → cs[i]? = some a → cs[j]? = some b → a.beg < b.beg
  hand : ∀ (i j : Nat) (a b : CR), i < j → cs[i]? = some a → cs[j]? = some b → a.hand = b.hand → ∃ f, a.fin = some f ∧ f < b.beg
theorem get_snoc {α : Type} {xs : List α} {x y : α} {i : Nat} (h : (xs ++ [x])[i]? = some y) : (i < xs.length ∧ xs[i]? = some y) ∨ (i = xs.length ∧ y = x) := by
  by_cases q : i < xs.length
  · rw [List.getElem?_append_left q] at h
    exact .inl ⟨q, h⟩
  · rw [List.getElem?_append_right (by omega)] at h
    have : i - xs.length = 0 := by
      have := (List.getElem?_eq_some_iff.mp h).1
      simp at this
      omega
    rw [this] at h
    cases h
    exact .inr ⟨by omega, rfl⟩
theorem times_snoc (cs : List CR) (c : CR) : timesOf (cs ++ [c]) = timesOf cs ++ (c.beg :: finL c) := by
  unfold timesOf
  rw [List.flatMap_append]
  simp
theorem beg_mem {cs : List CR} {c : CR} (h : c ∈ cs) : c.beg ∈ timesOf cs := List.mem_flatMap.mpr ⟨c, h, List.mem_cons_self⟩
/-- a further call -/
theorem Hist.snoc {things : Int} {nat : Int → String} {cs : List CR} {c : CR} (H : Hist things nat cs) (hl : cs.length < 5)
    (one : 1 ≤ c.hand ∧ c.hand ≤ 3 ∧ 0 ≤ c.thing ∧ c.thing < things ∧ c.kind = nat c.thing ∧ OkW c.kind (c.word, c.arg) ∧ 1 ≤ c.beg ∧ c.beg ≤ 60 ∧ (c.ans = none ↔ c.fin = none) ∧ (∀ a, c.ans = some a → -1 ≤ a ∧ a ≤ 99) ∧ ∀ f, c.fin = some f → c.beg + 1 ≤ f ∧ f ≤ 60)
    (h1 : c.beg ∉ timesOf cs) (h2 : ∀ f, c.fin = some f → f ∉ timesOf cs) (h3 : ∀ a ∈ cs, a.beg < c.beg) (h4 : ∀ a ∈ cs, a.hand = c.hand → ∃ f, a.fin = some f ∧ f < c.beg) : Hist things nat (cs ++ [c]) where
  kinds := H.kinds
  len := by simp; omega
  one := by
    intro x hx
    rcases List.mem_append.mp hx with hx | hx
    · exact H.one x hx
    · rw [List.mem_singleton.mp hx]; exact one
  times := by
    rw [times_snoc, List.nodup_append]
    refine ⟨H.times, ?_, ?_⟩
    · unfold finL
      cases hf : c.fin with
      | none => simp
      | some f =>
        have := (one.2.2.2.2.2.2.2.2.2.2 f hf).1
        simp
        omega
    · intro a ha b hb e
      subst e
      rcases List.mem_cons.mp hb with rfl | hb
      · exact h1 ha
      · unfold finL at hb
        cases hf : c.fin with
        | none => rw [hf] at hb; cases hb
        | some f =>
          rw [hf] at hb
          rw [List.mem_singleton.mp hb] at ha
          exact h2 f hf ha
  sorted := by
    intro i j a b hij ha hb
    rcases get_snoc hb with ⟨q, hb⟩ | ⟨q, rfl⟩
    · rcases get_snoc ha with ⟨r, ha⟩ | ⟨r, rfl⟩
      · exact H.sorted i j a b hij ha hb
      · omega
    · rcases get_snoc ha with ⟨r, ha⟩ | ⟨r, rfl⟩
      · exact h3 a (List.mem_of_getElem? ha)
      · omega
  hand := by
    intro i j a b hij ha hb e
    rcases get_snoc hb with ⟨q, hb⟩ | ⟨q, rfl⟩
    · rcases get_snoc ha with ⟨r, ha⟩ | ⟨r, rfl⟩
      · exact H.hand i j a b hij ha hb e
      · omega
    · rcases get_snoc ha with ⟨r, ha⟩ | ⟨r, rfl⟩
      · exact h4 a (List.mem_of_getElem? ha) e
      · omega
theorem hist_nil {things : Int} {nat : Int → String} (h : ∀ t, nat t ∈ kinds5) : Hist things nat [] where
  kinds := h
  len := by simp
  one := by simp
  times := by simp [timesOf]
  sorted := by intro i j a b _ ha; cases ha
  hand := by intro i j a b _ ha; cases ha
theorem ltD_cr (n : Nat) (c : CR) : ltD n c.d = true := by
  obtain ⟨hand, thing, kind, word, arg, ans, beg, fin⟩ := c
  cases ans <;> cases fin <;> simp [CR.d, ltD, ltDs]
theorem ltDs_cr (n : Nat) (cs : List CR) : ltDs n (cs.map CR.d) = true := by
  induction cs with
  | nil => rfl
  | cons c r ih => simp [ltDs, ltD_cr, ih]
/-! ### small things of laws -/
theorem len_succ {α : Type} {n : Nat} {l : List α} (h : l.length = n + 1) : ∃ a l', l = a :: l' ∧ l'.length = n := by
  cases l with
  | nil => cases h
  | cons a l => exact ⟨a, l, rfl, by simpa using h⟩
def cap (c : String × Int) : String × Int := (c.1, if 2 < c.2 then 2 else c.2)
theorem cap_ok {kind : String} {c : String × Int} (h : OkW kind c) : OkW kind (cap c) := by
  obtain ⟨h1, h2, h3, h4⟩ := h
  refine ⟨h1, ?_, ?_, fun q => ?_⟩
  · unfold cap; simp only; split <;> omega
  · unfold cap; simp only; split <;> omega
  · have := h4 q
    unfold cap; simp only [this]; rfl
theorem same_sv {st : Sto} {kind : String} {n : Nat} {s : SV} (h : Okk kind n s) (hn : n ≤ 1000) : Same st 1 s.d s.d := by
  cases s with
  | n i => exact .int 1 i
  | l ns =>
    unfold Okk at h
    by_cases q : kind = "cell" ∨ kind = "counter"
    · rw [if_pos q] at h
      obtain ⟨i, e, _⟩ := h
      cases e
    · rw [if_neg q] at h
      obtain ⟨ms, e, h, _⟩ := h
      cases e
      exact .tup rfl (by simp; omega) same_ints
theorem same_init (st : Sto) (kind : String) : Same st 1 (initV kind).d (initV kind).d := same_sv (okk_init kind 0) (by decide)
theorem dC_0 {c : String × Int} {st : Sto} : gIx (dC c) (.int 0) st = some (.str (Str.ofString c.1), st) := rfl
theorem dC_1 {c : String × Int} {st : Sto} : gIx (dC c) (.int 1) st = some (.int c.2, st) := rfl
theorem and_V {ma mb : ME DV} {e : Env} {st : Sto} {Q : DV → Sto → Prop} (a b : Bool) (h1 : V (ma e st) fun d s => d = .bl a ∧ s = st) (h2 : V (mb e st) fun d s => d = .bl b ∧ s = st) (q : Q (.bl (a && b)) st) : V (mAnd ma mb e st) Q := by
  obtain ⟨_, _, e1, rfl, rfl⟩ := h1
  rw [v_and, e1, V_some, kB_bl]
  cases a with
  | true =>
    obtain ⟨_, _, e2, rfl, rfl⟩ := h2
    rw [cd_t, e2, V_some]
    exact q
  | false => exact q
theorem andT_V {ma mb : ME Bool} {e : Env} {st : Sto} {Q : Bool → Sto → Prop} (a b : Bool) (h1 : V (ma e st) fun d s => d = a ∧ s = st) (h2 : V (mb e st) fun d s => d = b ∧ s = st) (q : Q (a && b) st) : V (mAndT ma mb e st) Q := by
  obtain ⟨_, _, e1, rfl, rfl⟩ := h1
  subst_vars
  rw [v_andT, e1, V_some]
  rename_i a _
  cases a with
  | true =>
    obtain ⟨_, _, e2, rfl, rfl⟩ := h2
    rw [cd_t, e2, V_some]
    exact q
  | false => exact q
theorem nodup1 (n : Nat) : (List.range n ++ [n, n + 1]).Nodup := by
  rw [List.nodup_append]
  refine ⟨List.nodup_range, by simp, fun a ha b hb => ?_⟩
  simp at ha hb
  omega
theorem nodup2 (n : Nat) : (List.range n ++ [n + 1, n]).Nodup := by
  rw [List.nodup_append]
  refine ⟨List.nodup_range, by simp, fun a ha b hb => ?_⟩
  simp at ha hb
  omega
theorem nodup3 (n : Nat) : (List.range n ++ [n, n + 1, n + 2]).Nodup := by
  rw [List.nodup_append]
  refine ⟨List.nodup_range, by simp, fun a ha b hb => ?_⟩
  simp at ha hb
  omega
theorem nodup4 (n : Nat) : (List.range n ++ [n + 1, n, n + 2]).Nodup := by
  rw [List.nodup_append]
  refine ⟨List.nodup_range, by simp, fun a ha b hb => ?_⟩
  simp at ha hb
  omega
theorem ne_bb {st : Sto} {a b : Nat} {x y z w : Bool} (h1 : st[a]? = some (.lst [.bl x, .bl y])) (h2 : st[b]? = some (.lst [.bl z, .bl w])) : gNe (.ref a) (.ref b) st = some (.bl (!((x == z) && (y == w))), st) := by
  have e : ∀ (a : Nat) (x y : Bool), st[a]? = some (.lst [.bl x, .bl y]) → toPS st (.ref a) = some (.list [.bool x, .bool y]) := fun a x y h => by
    show (match st[a]? with | some (.lst ds) => if ds.all (okD 8) = true then some (PyData.list (toPs ds)) else none | _ => none) = _
    rw [h]
    rfl
  unfold gNe
  rw [e a x y h1, e b z w h2]
  simp only [PyData.eqv, PyData.eqvAll, Bool.and_true]
end DL

/-! PL8: the search finds the first of all orders that are right. -/
namespace DL
open PySem PySem.Spec PyProof.Rows L2

def extL (n : Nat) (row : List Nat) : List (List Nat) := (leftOf n row).map fun x => row ++ [x]
def allP (n : Nat) : Nat → List Nat → List (List Nat)
  | 0, row => [row]
  | m + 1, row => (leftOf n row).flatMap fun x => allP n m (row ++ [x])
def rowsAt (n : Nat) : Nat → List (List Nat)
  | 0 => [[]]
  | m + 1 => (rowsAt n m).flatMap (extL n)
theorem allP_ext (n : Nat) : ∀ (m : Nat) (r : List Nat), (allP n m r).flatMap (extL n) = allP n (m + 1) r
  | 0, r => by
    show [r].flatMap (extL n) = (leftOf n r).flatMap fun x => [r ++ [x]]
    rw [List.flatMap_singleton]
    unfold extL
    rw [List.map_eq_flatMap]
  | m + 1, r => by
    show ((leftOf n r).flatMap fun x => allP n m (r ++ [x])).flatMap (extL n) = (leftOf n r).flatMap fun x => allP n (m + 1) (r ++ [x])
    rw [List.flatMap_assoc]
    congr 1
    funext x
    exact allP_ext n m _
theorem rows_all (n : Nat) : ∀ m, rowsAt n m = allP n m []
  | 0 => rfl
  | m + 1 => by
    show (rowsAt n m).flatMap (extL n) = _
    rw [rows_all n m, allP_ext]
/-- what an order of them all is made of -/
theorem allP_mem {n : Nat} : ∀ {m : Nat} {row r : List Nat}, m = (leftOf n row).length → r ∈ allP n m row → ∃ rest, r = row ++ rest ∧ rest.length = m ∧ rest.Nodup ∧ ∀ o, o ∈ rest ↔ o ∈ leftOf n row
  | 0, row, r, hm, hr => by
    obtain rfl : r = row := List.mem_singleton.mp hr
    have : leftOf n r = [] := List.eq_nil_of_length_eq_zero hm.symm
    exact ⟨[], by simp, rfl, List.nodup_nil, fun o => by rw [this]⟩
  | m + 1, row, r, hm, hr => by
    obtain ⟨x, hx, hr⟩ := List.mem_flatMap.mp hr
    have hl : (leftOf n (row ++ [x])).length = m := by
      have hnd : (leftOf n row).Nodup := List.nodup_range.filter _
      have e : leftOf n (row ++ [x]) = (leftOf n row).erase x := by
        rw [left_snoc, hnd.erase_eq_filter]
        congr 1
        funext y
        by_cases h : y = x <;> simp [h]
      rw [e, List.length_erase_of_mem hx]
      omega
    obtain ⟨rest, rfl, h1, h2, h3⟩ := allP_mem hl.symm hr
    have hf : ∀ o, o ∈ leftOf n (row ++ [x]) ↔ o ∈ leftOf n row ∧ o ≠ x := fun o => by
      rw [left_snoc, List.mem_filter]
      simp
    refine ⟨x :: rest, by simp, by simp [h1], ?_, fun o => ?_⟩
    · rw [List.nodup_cons]
      exact ⟨fun h => ((hf x).mp ((h3 x).mp h)).2 rfl, h2⟩
    · rw [List.mem_cons, h3, hf]
      constructor
      · rintro (rfl | ⟨h, _⟩)
        · exact hx
        · exact h
      · intro h
        by_cases e : o = x
        · exact .inl e
        · exact .inr ⟨h, e⟩
theorem left_len {n : Nat} : (leftOf n []).length = n := by unfold leftOf; simp
theorem left_snoc_len {n : Nat} {row : List Nat} {x : Nat} (hx : x ∈ leftOf n row) : (leftOf n (row ++ [x])).length + 1 = (leftOf n row).length := by
  have hnd : (leftOf n row).Nodup := List.nodup_range.filter _
  have e : leftOf n (row ++ [x]) = (leftOf n row).erase x := by
    rw [left_snoc, hnd.erase_eq_filter]
    congr 1
    funext y
    by_cases h : y = x <;> simp [h]
  have := List.length_pos_of_mem hx
  rw [e, List.length_erase_of_mem hx]
  omega
theorem find_ff {α : Type} : ∀ {l : List α}, l.find? (fun _ => false) = none
  | [] => rfl
  | _ :: l => by rw [List.find?_cons]; exact find_ff
theorem find_congr {α : Type} {p q : α → Bool} : ∀ {l : List α}, (∀ x ∈ l, p x = q x) → l.find? p = l.find? q
  | [], _ => rfl
  | a :: l, h => by
    rw [List.find?_cons, List.find?_cons, h a List.mem_cons_self, find_congr fun x hx => h x (List.mem_cons_of_mem _ hx)]
theorem findSome_congr {α β : Type} {f g : α → Option β} : ∀ {l : List α}, (∀ x ∈ l, f x = g x) → l.findSome? f = l.findSome? g
  | [], _ => rfl
  | a :: l, h => by
    rw [List.findSome?_cons, List.findSome?_cons, h a List.mem_cons_self, findSome_congr fun x hx => h x (List.mem_cons_of_mem _ hx)]
theorem of_place {cs : List CR} {bt : Bool} : ∀ (r : List Nat) (p q : Nat) (S : SS), (ofRun cs bt p r S).isNone = (ofRun cs bt q r S).isNone
  | [], _, _, _ => rfl
  | k :: r, p, q, S => by
    rw [of_cons, of_cons]
    split
    · rfl
    · split
      · split
        · exact of_place r _ _ _
        · rfl
      · rfl
/-- the order is right from there on -/
def right (cs : List CR) (bt : Bool) (r : List Nat) (S : SS) : Bool := (ofRun cs bt 0 r S).isNone
theorem right_nil {cs : List CR} {bt : Bool} {S : SS} : right cs bt [] S = true := rfl
theorem right_cons {cs : List CR} {bt : Bool} {k : Nat} {r : List Nat} {S : SS} {c : CR} (hc : cs[k]? = some c) : right cs bt (k :: r) S = (!(r.any fun o => mcfA cs bt o k) && (decide (fits S c) && right cs bt r (stepS S c))) := by
  unfold right
  rw [of_cons, hc]
  cases r.any fun o => mcfA cs bt o k with
  | true => rfl
  | false =>
    simp only [Bool.false_eq_true, if_false]
    by_cases f : fits S c
    · rw [if_pos f, decide_eq_true f, of_place r (0 + 1) 0]
      rfl
    · rw [if_neg f, decide_eq_false f]
      rfl
theorem srch_find {cs : List CR} {bt : Bool} (hA : ∀ (k : Nat) (c : CR), cs[k]? = some c → c.ans ≠ none) : ∀ (m f : Nat) (done : List Nat) (S : SS), m = (leftOf cs.length done).length → m < f → srch cs bt f done S = (allP cs.length m done).find? fun r => right cs bt (r.drop done.length) S
  | m, 0, done, S, hm, hf => absurd hf (Nat.not_lt_zero _)
  | 0, f + 1, done, S, hm, hf => by
    have hl : leftOf cs.length done = [] := List.eq_nil_of_length_eq_zero hm.symm
    rw [srch_all (by rw [hl]; rfl)]
    show some done = [done].find? _
    rw [List.find?_cons, List.drop_length]
    rfl
  | m + 1, f + 1, done, S, hm, hf => by
    have hnn : allNone cs (leftOf cs.length done) = false := by
      cases hl : leftOf cs.length done with
      | nil => rw [hl] at hm; cases hm
      | cons k r =>
        have hk := left_lt (n := cs.length) (done := done) (k := k) (by rw [hl]; exact List.mem_cons_self)
        have hc : cs[k]? = some cs[k] := List.getElem?_eq_getElem hk
        unfold allNone
        rw [List.all_cons, hc]
        cases ha : cs[k].ans with
        | none => exact absurd ha (hA k _ hc)
        | some a => simp [ha]
    rw [srch_try hnn]
    show _ = ((leftOf cs.length done).flatMap fun x => allP cs.length m (done ++ [x])).find? _
    rw [List.find?_flatMap]
    refine findSome_congr fun x hx => ?_
    have hxl := left_lt hx
    have hc : cs[x]? = some cs[x] := List.getElem?_eq_getElem hxl
    have hlen := left_snoc_len hx
    have hpred : ∀ r ∈ allP cs.length m (done ++ [x]), right cs bt (r.drop done.length) S = (!blocked cs bt (leftOf cs.length done) x && (decide (fits S cs[x]) && right cs bt (r.drop (done ++ [x]).length) (stepS S cs[x]))) := by
      intro r hr
      obtain ⟨rest, rfl, _, _, hmem⟩ := allP_mem (by omega) hr
      rw [List.drop_left, List.append_assoc, List.drop_left]
      show right cs bt (x :: rest) S = _
      rw [right_cons hc]
      congr 2
      unfold blocked
      rw [Bool.eq_iff_iff, List.any_eq_true, List.any_eq_true]
      constructor
      · rintro ⟨o, ho, h⟩
        have ho := (hmem o).mp ho
        rw [left_snoc, List.mem_filter] at ho
        exact ⟨o, ho.1, by rw [h, Bool.and_true]; exact ho.2⟩
      · rintro ⟨o, ho, h⟩
        rw [Bool.and_eq_true] at h
        refine ⟨o, (hmem o).mpr ?_, h.2⟩
        rw [left_snoc, List.mem_filter]
        exact ⟨ho, h.1⟩
    rw [find_congr hpred]
    cases hb : blocked cs bt (leftOf cs.length done) x with
    | true =>
      rw [try_blocked hb]
      simp [find_ff]
    | false =>
      by_cases ff : fits S cs[x]
      · rw [try_go hc hb ff, srch_find hA m f (done ++ [x]) (stepS S cs[x]) (by omega) (by omega)]
        simp [ff]
      · rw [try_unfit hc ff]
        simp [ff, find_ff]
/-- all answered: the search and the orders -/
theorem srch_rows {cs : List CR} {bt : Bool} (hA : ∀ c ∈ cs, c.ans ≠ none) (hl : cs.length ≤ 11) : srch cs bt 12 [] [] = (rowsAt cs.length cs.length).find? fun r => right cs bt r [] := by
  rw [srch_find (fun k c h => hA c (List.mem_of_getElem? h)) cs.length 12 [] [] left_len.symm (by omega), rows_all]
  rfl
theorem row_mem {n : Nat} {r : List Nat} (h : r ∈ rowsAt n n) : r.length = n ∧ r.Nodup ∧ ∀ o, o ∈ r ↔ o < n := by
  rw [rows_all] at h
  obtain ⟨rest, rfl, h1, h2, h3⟩ := allP_mem left_len.symm h
  refine ⟨by simpa using h1, by simpa using h2, fun o => ?_⟩
  rw [h3]
  unfold leftOf
  simp
theorem ofV_right {cs : List CR} {bt : Bool} {r : List Nat} (h : ∀ k, k < cs.length → k ∈ r) : (ofV cs r bt).isNone = right cs bt r [] := by
  rw [ofV_run h]
  rfl
/-- the same calls, told with less order -/
structure Like (cs ds : List CR) : Prop where
  len : cs.length = ds.length
  same : ∀ (k : Nat) (c d : CR), cs[k]? = some c → ds[k]? = some d → c.thing = d.thing ∧ c.kind = d.kind ∧ c.word = d.word ∧ c.arg = d.arg ∧ c.ans = d.ans
theorem like_step {c d : CR} {S : SS} (h : c.thing = d.thing ∧ c.kind = d.kind ∧ c.word = d.word ∧ c.arg = d.arg ∧ c.ans = d.ans) : stepS S c = stepS S d ∧ (fits S c ↔ fits S d) := by
  obtain ⟨h1, h2, h3, h4, h5⟩ := h
  have e : stOf S c = stOf S d := by unfold stOf; rw [h1, h2]
  unfold stepS fits
  rw [e, h1, h2, h3, h4, h5]
  exact ⟨rfl, Iff.rfl⟩
theorem right_mono {cs ds : List CR} {bt : Bool} (L : Like cs ds) (hm : ∀ i j, mcfA ds bt i j = true → mcfA cs bt i j = true) : ∀ (r : List Nat) (S : SS), (∀ k ∈ r, k < cs.length) → right cs bt r S = true → right ds bt r S = true
  | [], _, _, _ => rfl
  | k :: r, S, hr, h => by
    have hk := hr k List.mem_cons_self
    have hc : cs[k]? = some cs[k] := List.getElem?_eq_getElem hk
    have hd : ds[k]? = some (ds[k]'(by rw [← L.len]; exact hk)) := List.getElem?_eq_getElem _
    obtain ⟨e1, e2⟩ := like_step (S := S) (L.same k _ _ hc hd)
    rw [right_cons hc, Bool.and_eq_true, Bool.and_eq_true] at h
    rw [right_cons hd, Bool.and_eq_true, Bool.and_eq_true]
    refine ⟨?_, ?_, ?_⟩
    · have h1 := h.1
      rw [Bool.not_eq_true', List.any_eq_false] at h1 ⊢
      intro o ho q
      exact h1 o ho (hm o k q)
    · rw [decide_eq_true_eq, ← e2]
      exact decide_eq_true_eq.mp h.2.1
    · rw [← e1]
      exact right_mono L hm r _ (fun x hx => hr x (List.mem_cons_of_mem _ hx)) h.2.2
/-! ### one after another -/
def okSeq : List CR → SS → Bool
  | [], _ => true
  | c :: r, S => decide (fits S c) && okSeq r (stepS S c)
theorem seq_srch {cs : List CR} (hA : ∀ c ∈ cs, c.ans ≠ none) (hb : ∀ i j, i < j → j < cs.length → mcfA cs true i j = true) (hn : ∀ i j, i < cs.length → j ≤ i → mcfA cs true i j = false) : ∀ (m k : Nat) (S : SS) (f : Nat), k + m = cs.length → m < f → srch cs true f (List.range k) S = if okSeq (cs.drop k) S = true then some (List.range cs.length) else none
  | m, k, S, 0, _, hf => absurd hf (Nat.not_lt_zero _)
  | 0, k, S, f + 1, hk, _ => by
    have hl : leftOf cs.length (List.range k) = [] := by
      rw [left_range (by omega), show cs.length - k = 0 by omega]
      rfl
    rw [srch_all (by rw [hl]; rfl), show k = cs.length by omega, List.drop_length]
    rfl
  | m + 1, k, S, f + 1, hk, hf => by
    have hlt : k < cs.length := by omega
    have hc : cs[k]? = some cs[k] := List.getElem?_eq_getElem hlt
    have hl : leftOf cs.length (List.range k) = k :: List.range' (k + 1) m := by
      rw [left_range (by omega), show cs.length - k = m + 1 by omega, List.range'_succ]
    have hnn : allNone cs (k :: List.range' (k + 1) m) = false := by
      unfold allNone
      rw [List.all_cons, hc]
      cases ha : cs[k].ans with
      | none => exact absurd ha (hA _ (List.getElem_mem _))
      | some a => simp [ha]
    have hbk : blocked cs true (leftOf cs.length (List.range k)) k = false := by
      rw [hl]
      refine blocked_f fun o ho => ?_
      rcases List.mem_cons.mp ho with rfl | ho
      · exact .inl rfl
      · have := List.mem_range'_1.mp ho
        exact .inr (hn o k (by omega) (by omega))
    have hrest : (List.range' (k + 1) m).findSome? (tryV cs true f (List.range k) S) = none := by
      rw [List.findSome?_eq_none_iff]
      intro o ho
      have := List.mem_range'_1.mp ho
      refine try_blocked ?_
      rw [hl]
      exact blocked_t List.mem_cons_self (by omega) (hb k o (by omega) (by omega))
    rw [srch_try (by rw [hl]; exact hnn), hl, List.findSome?_cons, hrest, List.drop_eq_getElem_cons hlt]
    show _ = if (decide (fits S cs[k]) && okSeq (cs.drop (k + 1)) (stepS S cs[k])) = true then _ else _
    by_cases ff : fits S cs[k]
    · rw [try_go hc hbk ff, ← List.range_succ, seq_srch hA hb hn m (k + 1) (stepS S cs[k]) f (by omega) (by omega), decide_eq_true ff, Bool.true_and]
      cases okSeq (cs.drop (k + 1)) (stepS S cs[k]) <;> rfl
    · rw [try_unfit hc ff, decide_eq_false ff]
      rfl
/-- the calls of one thing -/
def ofT (cs : List CR) (t : Int) : List CR := cs.filter fun c => decide (c.thing = t)
def pairsOf (cs : List CR) : List (String × Int) := cs.map fun c => (c.word, c.arg)
def ansOf (cs : List CR) : List (Option Int) := cs.map (·.ans)
theorem look_step {S : SS} {c : CR} {t : Int} : lookA (stepS S c) t = if t = c.thing then some (callV c.kind (stOf S c) c.word c.arg).1 else lookA S t := by
  unfold stepS
  have h := look_put (α := SV) S c.thing (callV c.kind (stOf S c) c.word c.arg).1 t
  exact h
theorem seq_things {nat : Int → String} : ∀ (cs : List CR) (S : SS), (∀ c ∈ cs, c.kind = nat c.thing ∧ c.ans ≠ none) → (okSeq cs S = true ↔ ∀ t, ansOf (ofT cs t) = (runV (nat t) ((lookA S t).getD (initV (nat t))) (pairsOf (ofT cs t))).2.map some)
  | [], S, _ => by simp [okSeq, ofT, ansOf, pairsOf, runV]
  | c :: r, S, h => by
    obtain ⟨hk, ha⟩ := h c List.mem_cons_self
    obtain ⟨a, ha⟩ := Option.ne_none_iff_exists'.mp ha
    have hst : stOf S c = (lookA S c.thing).getD (initV (nat c.thing)) := by unfold stOf; rw [hk]
    have ih := seq_things (nat := nat) r (stepS S c) fun x hx => h x (List.mem_cons_of_mem _ hx)
    show (decide (fits S c) && okSeq r (stepS S c)) = true ↔ _
    rw [Bool.and_eq_true, ih, decide_eq_true_eq]
    have hf : fits S c ↔ a = (callV (nat c.thing) ((lookA S c.thing).getD (initV (nat c.thing))) c.word c.arg).2 := by
      unfold fits
      rw [hst, ha, hk]
      simp
    have hcons : ofT (c :: r) c.thing = c :: ofT r c.thing := by unfold ofT; rw [List.filter_cons]; simp
    have hother : ∀ t, t ≠ c.thing → ofT (c :: r) t = ofT r t := fun t ht => by
      unfold ofT
      rw [List.filter_cons]
      have : ¬ c.thing = t := fun e => ht e.symm
      simp [this]
    have hl1 : lookA (stepS S c) c.thing = some (callV (nat c.thing) ((lookA S c.thing).getD (initV (nat c.thing))) c.word c.arg).1 := by rw [look_step, if_pos rfl, hst, hk]
    constructor
    · rintro ⟨h1, h2⟩ t
      by_cases e : t = c.thing
      · subst e
        have h3 := h2 c.thing
        rw [hl1] at h3
        rw [hcons]
        show c.ans :: ansOf (ofT r c.thing) = ((runV _ _ ((c.word, c.arg) :: pairsOf (ofT r c.thing))).2).map some
        rw [h3, ha, hf.mp h1]
        rfl
      · have h3 := h2 t
        rw [look_step, if_neg e] at h3
        rw [hother t e]
        exact h3
    · intro h1
      have h2 := h1 c.thing
      rw [hcons] at h2
      have h2 : c.ans :: ansOf (ofT r c.thing) = some (callV (nat c.thing) ((lookA S c.thing).getD (initV (nat c.thing))) c.word c.arg).2 :: ((runV (nat c.thing) (callV (nat c.thing) ((lookA S c.thing).getD (initV (nat c.thing))) c.word c.arg).1 (pairsOf (ofT r c.thing))).2).map some := h2
      rw [List.cons.injEq] at h2
      refine ⟨hf.mpr (by rw [ha] at h2; exact Option.some.inj h2.1), fun t => ?_⟩
      by_cases e : t = c.thing
      · subst e
        rw [hl1]
        exact h2.2
      · rw [look_step, if_neg e, ← hother t e]
        exact h1 t
/-! ### rows of numbers -/
theorem rows_len (n : Nat) : ∀ (k : Nat) (r : List Nat), r ∈ rowsAt n k → r.length = k
  | 0, r, h => by rw [List.mem_singleton.mp h]; rfl
  | k + 1, r, h => by
    obtain ⟨q, hq, h⟩ := List.mem_flatMap.mp h
    obtain ⟨x, _, rfl⟩ := List.mem_map.mp h
    rw [List.length_append, rows_len n k q hq]
    rfl
theorem ext_len (n : Nat) (r : List Nat) : (extL n r).length ≤ n := by
  unfold extL leftOf
  rw [List.length_map]
  exact Nat.le_trans (List.length_filter_le _ _) (by simp)
theorem flat_len {n : Nat} : ∀ (L : List (List Nat)), (L.flatMap (extL n)).length ≤ n * L.length
  | [] => by simp
  | r :: L => by
    rw [List.flatMap_cons, List.length_append, List.length_cons, Nat.mul_add, Nat.mul_one]
    have := ext_len n r
    have := flat_len (n := n) L
    omega
theorem rows_many {n : Nat} (hn : n ≤ 5) : ∀ k, (rowsAt n k).length ≤ 5 ^ k
  | 0 => by simp [rowsAt]
  | k + 1 => by
    have h1 := flat_len (n := n) (rowsAt n k)
    have h2 := rows_many hn k
    have h3 : n * (rowsAt n k).length ≤ 5 * 5 ^ k := Nat.mul_le_mul hn h2
    rw [Nat.pow_succ, Nat.mul_comm]
    exact Nat.le_trans h1 h3
theorem notin_nsD {x : Nat} {r : List Nat} {st : Sto} : gNotIn (.int x) (nsD r) st = some (.bl (decide (x ∉ r)), st) := by
  unfold nsD
  rw [ev_notinT, if_pos ⟨rfl, flat_nats r⟩, inD_nats]
  by_cases h : x ∈ r <;> simp [h]
theorem nsD_add1 {l : List Nat} {m : Nat} {st : Sto} (h : l.length + 1 ≤ LIM) : gAdd (nsD l) (.tup [.int m]) st = some (nsD (l ++ [m]), st) := by
  unfold nsD
  rw [ev_addT, if_pos (by simpa using h)]
  simp
theorem ltD_nsD' (n : Nat) (l : List Nat) : ltD n (nsD l) = true := by
  have := ltDs_ints (n := n) (l.map fun (n : Nat) => (n : Int))
  rw [List.map_map] at this
  exact this
theorem ltDs_nsD (n : Nat) (L : List (List Nat)) : ltDs n (L.map nsD) = true := by
  induction L with
  | nil => rfl
  | cons r L ih => simp [ltDs, ltD_nsD', ih]
end DL

/-! PL9: drawn calls led on. -/
namespace DL
open PySem PySem.Spec PyProof.Rows L2

/-- the times of a call -/
def tl (c : CR) : List Int := c.beg :: finL c
theorem okh_of {cs : List CR} (ok : ∀ c ∈ cs, OkC c) (dis : ∀ (i j : Nat) (a b : CR), i < j → cs[i]? = some a → cs[j]? = some b → ∀ x ∈ tl a, ∀ y ∈ tl b, x ≠ y) (srt : ∀ (i j : Nat) (a b : CR), i < j → cs[i]? = some a → cs[j]? = some b → a.beg ≤ b.beg)
    (hand : ∀ (i j : Nat) (a b : CR), i < j → cs[i]? = some a → cs[j]? = some b → a.hand = b.hand → ∃ f, a.fin = some f ∧ f ≤ b.beg) (kind : ∀ (i j : Nat) (a b : CR), i < j → cs[i]? = some a → cs[j]? = some b → a.thing = b.thing → a.kind = b.kind) : OkH cs where
  ok := ok
  times := by
    unfold timesOf List.Nodup
    rw [List.pairwise_flatMap]
    refine ⟨fun c hc => ?_, ?_⟩
    · unfold finL
      cases hf : c.fin with
      | none => simp
      | some f =>
        have := (ok c hc).fin f hf
        simp
        omega
    · rw [List.pairwise_iff_getElem]
      intro i j hi hj hij
      exact dis i j _ _ hij (List.getElem?_eq_getElem hi) (List.getElem?_eq_getElem hj)
  sorted := fun k a b ha hb => srt k (k + 1) a b (Nat.lt_succ_self _) ha hb
  hand := hand
  kind := kind
/-- ended calls that were drawn -/
structure Drw (things : Int) (nat : Int → String) (cs : List CR) : Prop where
  kinds : ∀ t, nat t ∈ kinds5
  len : cs.length ≤ 5
  one : ∀ c ∈ cs, 1 ≤ c.hand ∧ c.hand ≤ 3 ∧ 0 ≤ c.thing ∧ c.thing < things ∧ c.kind = nat c.thing ∧ OkW c.kind (c.word, c.arg) ∧ 1 ≤ c.beg ∧ c.beg ≤ 60 ∧ (∃ a, c.ans = some a ∧ -1 ≤ a ∧ a ≤ 99) ∧ ∃ f, c.fin = some f ∧ c.beg + 1 ≤ f ∧ f ≤ 60
  srt : cs.Pairwise fun a b => a.beg < b.beg
  dis : cs.Pairwise fun a b => ∀ x ∈ tl a, ∀ y ∈ tl b, x ≠ y
theorem drw_of {things : Int} {nat : Int → String} {cs : List CR} (H : Hist things nat cs) : Drw things nat (cs.filter fun c => c.fin.isSome) where
  kinds := H.kinds
  len := Nat.le_trans (List.length_filter_le _ _) H.len
  one := by
    intro c hc
    obtain ⟨h1, h2⟩ := List.mem_filter.mp hc
    obtain ⟨f, hf⟩ := Option.isSome_iff_exists.mp h2
    obtain ⟨a1, a2, a3, a4, a5, a6, a7, a8, a9, a10, a11⟩ := H.one c h1
    have hn : c.ans ≠ none := fun e => by rw [a9.mp e] at hf; cases hf
    obtain ⟨a, ha⟩ := Option.ne_none_iff_exists'.mp hn
    exact ⟨a1, a2, a3, a4, a5, a6, a7, a8, ⟨a, ha, a10 a ha⟩, f, hf, a11 f hf⟩
  srt := by
    refine List.Pairwise.filter _ ?_
    rw [List.pairwise_iff_getElem]
    intro i j hi hj hij
    exact H.sorted i j _ _ hij (List.getElem?_eq_getElem hi) (List.getElem?_eq_getElem hj)
  dis := by
    have h := H.times
    unfold timesOf List.Nodup at h
    rw [List.pairwise_flatMap] at h
    exact h.2.filter _
def ixD (f : Nat → CR → CR) (l : List CR) (k : Nat) : DV := match l[k]? with | some c => (f k c).d | none => DV.non
theorem ixD_at {f : Nat → CR → CR} {l : List CR} {k : Nat} {c : CR} (h : l[k]? = some c) : ixD f l k = (f k c).d := by unfold ixD; rw [h]
theorem ix_map (f : Nat → CR → CR) (l : List CR) : (List.range l.length).map (ixD f l) = (l.mapIdx f).map CR.d := by
  apply List.ext_getElem?
  intro i
  rw [List.getElem?_map, List.getElem?_map, List.getElem?_mapIdx]
  by_cases h : i < l.length
  · rw [List.getElem?_range h, List.getElem?_eq_getElem h]
    simp [h, ixD]
  · rw [List.getElem?_eq_none_iff.mpr (by simpa using h), List.getElem?_eq_none_iff.mpr (by omega : l.length ≤ i)]
    rfl
def fC (k : Nat) (c : CR) : CR := { c with hand := (k : Int) + 1, beg := 10 * c.beg, fin := c.fin.map (10 * ·) }
def fW (k : Nat) (c : CR) : CR := { c with beg := (k : Int), fin := some (900 + (k : Int)) }
def fA (k : Nat) (c : CR) : CR := { c with beg := 2 * (k : Int), fin := some (2 * (k : Int) + 1) }
def LgAt (cs ls : List CR) : Prop := ∀ (k : Nat) (c d : CR), cs[k]? = some c → ls[k]? = some d → ∃ f v, c.fin = some f ∧ 0 ≤ v ∧ v < 30 ∧ d = { c with fin := some (f + 10 * v + 1 + (k : Int)) }
theorem lg_nil {cs : List CR} : LgAt cs [] := fun k c d _ h => by cases h
theorem LgAt.snoc {cs ls : List CR} (h : LgAt cs ls) {c : CR} {f v : Int} (hc : cs[ls.length]? = some c) (hf : c.fin = some f) (v0 : 0 ≤ v) (v1 : v < 30) : LgAt cs (ls ++ [{ c with fin := some (f + 10 * v + 1 + (ls.length : Int)) }]) := fun k x y hx hy => by
  rcases get_snoc hy with ⟨_, q⟩ | ⟨rfl, rfl⟩
  · exact h k x y hx q
  · rw [hc] at hx
    cases hx
    exact ⟨f, v, hf, v0, v1, rfl⟩
/-- ends led on -/
structure Longer (cs ls : List CR) : Prop where
  len : ls.length = cs.length
  at_ : ∀ (k : Nat) (c d : CR), cs[k]? = some c → ls[k]? = some d → ∃ f v, c.fin = some f ∧ 0 ≤ v ∧ v < 30 ∧ d = { c with fin := some (f + 10 * v + 1 + (k : Int)) }
theorem get_ix {f : Nat → CR → CR} {l : List CR} {k : Nat} {x : CR} (h : (l.mapIdx f)[k]? = some x) : ∃ c, l[k]? = some c ∧ x = f k c := by
  rw [List.getElem?_mapIdx] at h
  obtain ⟨c, h1, h2⟩ := Option.map_eq_some_iff.mp h
  exact ⟨c, h1, h2.symm⟩
theorem mem_ix {f : Nat → CR → CR} {l : List CR} {x : CR} (h : x ∈ l.mapIdx f) : ∃ k c, l[k]? = some c ∧ c ∈ l ∧ x = f k c := by
  obtain ⟨k, hk⟩ := List.getElem?_of_mem h
  obtain ⟨c, h1, h2⟩ := get_ix hk
  exact ⟨k, c, h1, List.mem_of_getElem? h1, h2⟩
section
variable {things : Int} {nat : Int → String} {ds ls : List CR}
theorem Drw.lt (D : Drw things nat ds) {i j : Nat} {a b : CR} (h : i < j) (ha : ds[i]? = some a) (hb : ds[j]? = some b) : a.beg < b.beg ∧ ∀ x ∈ tl a, ∀ y ∈ tl b, x ≠ y := by
  obtain ⟨hi, rfl⟩ := List.getElem?_eq_some_iff.mp ha
  obtain ⟨hj, rfl⟩ := List.getElem?_eq_some_iff.mp hb
  exact ⟨List.pairwise_iff_getElem.mp D.srt i j hi hj h, List.pairwise_iff_getElem.mp D.dis i j hi hj h⟩
theorem Drw.ix (D : Drw things nat ds) {k : Nat} {c : CR} (h : ds[k]? = some c) : k < 5 := by
  have := (List.getElem?_eq_some_iff.mp h).1
  have := D.len
  omega
/-- the calls of the law -/
theorem okh_calls (D : Drw things nat ds) (ht : things ≤ 2) : OkH (ds.mapIdx fC) := by
  refine okh_of (fun x hx => ?_) (fun i j a b hij ha hb => ?_) (fun i j a b hij ha hb => ?_) (fun i j a b hij ha hb e => ?_) (fun i j a b hij ha hb e => ?_)
  · obtain ⟨k, c, hk, hc, rfl⟩ := mem_ix hx
    obtain ⟨a1, a2, a3, a4, a5, a6, a7, a8, ⟨a, ha, ha2⟩, f, hf, hf2⟩ := D.one c hc
    have := D.ix hk
    constructor
    · simp only [fC]; omega
    · simp only [fC]; omega
    · simp only [fC]; rw [a5]; exact D.kinds _
    · exact a6.1
    · exact ⟨a6.2.1, a6.2.2.1⟩
    · exact a6.2.2.2
    · simp only [fC]; omega
    · simp [fC, ha, hf]
    · intro x hx
      simp only [fC] at hx
      rw [ha] at hx; cases hx; exact ha2
    · intro x hx
      simp only [fC] at hx ⊢
      rw [hf] at hx
      simp only [Option.map_some, Option.some.injEq] at hx
      omega
  · obtain ⟨c, hc, rfl⟩ := get_ix ha
    obtain ⟨d, hd, rfl⟩ := get_ix hb
    obtain ⟨_, _, _, _, _, _, _, _, _, f, hf, _⟩ := D.one c (List.mem_of_getElem? hc)
    obtain ⟨_, _, _, _, _, _, _, _, _, f', hf', _⟩ := D.one d (List.mem_of_getElem? hd)
    have h := (D.lt hij hc hd).2
    intro x hx y hy
    simp [tl, finL, fC, hf] at hx
    simp [tl, finL, fC, hf'] at hy
    simp [tl, finL, hf, hf'] at h
    rcases hx with rfl | rfl <;> rcases hy with rfl | rfl <;> omega
  · obtain ⟨c, hc, rfl⟩ := get_ix ha
    obtain ⟨d, hd, rfl⟩ := get_ix hb
    have := (D.lt hij hc hd).1
    simp only [fC]
    omega
  · obtain ⟨c, hc, rfl⟩ := get_ix ha
    obtain ⟨d, hd, rfl⟩ := get_ix hb
    simp only [fC] at e
    omega
  · obtain ⟨c, hc, rfl⟩ := get_ix ha
    obtain ⟨d, hd, rfl⟩ := get_ix hb
    simp only [fC] at e ⊢
    rw [(D.one c (List.mem_of_getElem? hc)).2.2.2.2.1, (D.one d (List.mem_of_getElem? hd)).2.2.2.2.1, e]
theorem Longer.get (L : Longer (ds.mapIdx fC) ls) {k : Nat} {x : CR} (h : ls[k]? = some x) : ∃ c f v, ds[k]? = some c ∧ c.fin = some f ∧ 0 ≤ v ∧ v < 30 ∧ x = { fC k c with fin := some (10 * f + 10 * v + 1 + (k : Int)) } := by
  have hk := (List.getElem?_eq_some_iff.mp h).1
  rw [L.len, List.length_mapIdx] at hk
  have hc : ds[k]? = some ds[k] := List.getElem?_eq_getElem hk
  have hm : (ds.mapIdx fC)[k]? = some (fC k ds[k]) := by rw [List.getElem?_mapIdx, hc]; rfl
  obtain ⟨f, v, h1, h2, h3, h4⟩ := L.at_ k _ _ hm h
  simp only [fC] at h1
  obtain ⟨g, h5, h6⟩ := Option.map_eq_some_iff.mp h1
  refine ⟨_, g, v, hc, h5, h2, h3, ?_⟩
  rw [h4, ← h6]
theorem okh_longer (D : Drw things nat ds) (ht : things ≤ 2) (L : Longer (ds.mapIdx fC) ls) : OkH ls := by
  refine okh_of (fun x hx => ?_) (fun i j a b hij ha hb => ?_) (fun i j a b hij ha hb => ?_) (fun i j a b hij ha hb e => ?_) (fun i j a b hij ha hb e => ?_)
  · obtain ⟨k, hk⟩ := List.getElem?_of_mem hx
    obtain ⟨c, f, v, hc, hf, v0, v1, rfl⟩ := L.get hk
    obtain ⟨a1, a2, a3, a4, a5, a6, a7, a8, ⟨a, ha, ha2⟩, f', hf', hf2⟩ := D.one c (List.mem_of_getElem? hc)
    rw [hf] at hf'
    cases hf'
    have := D.ix hc
    constructor
    · simp only [fC]; omega
    · simp only [fC]; omega
    · simp only [fC]; rw [a5]; exact D.kinds _
    · exact a6.1
    · exact ⟨a6.2.1, a6.2.2.1⟩
    · exact a6.2.2.2
    · simp only [fC]; omega
    · simp [fC, ha]
    · intro x hx
      simp only [fC] at hx
      rw [ha] at hx; cases hx; exact ha2
    · intro x hx
      simp only [fC, Option.some.injEq] at hx ⊢
      omega
  · obtain ⟨c, f, v, hc, hf, v0, v1, rfl⟩ := L.get ha
    obtain ⟨d, f', v', hd, hf', v0', v1', rfl⟩ := L.get hb
    have h := (D.lt hij hc hd).2
    have := D.ix hc
    have := D.ix hd
    intro x hx y hy
    simp [tl, finL, fC] at hx
    simp [tl, finL, fC] at hy
    simp [tl, finL, hf, hf'] at h
    rcases hx with rfl | rfl <;> rcases hy with rfl | rfl <;> omega
  · obtain ⟨c, f, v, hc, hf, v0, v1, rfl⟩ := L.get ha
    obtain ⟨d, f', v', hd, hf', v0', v1', rfl⟩ := L.get hb
    have := (D.lt hij hc hd).1
    simp only [fC]
    omega
  · obtain ⟨c, f, v, hc, hf, v0, v1, rfl⟩ := L.get ha
    obtain ⟨d, f', v', hd, hf', v0', v1', rfl⟩ := L.get hb
    simp only [fC] at e
    omega
  · obtain ⟨c, f, v, hc, hf, v0, v1, rfl⟩ := L.get ha
    obtain ⟨d, f', v', hd, hf', v0', v1', rfl⟩ := L.get hb
    simp only [fC] at e ⊢
    rw [(D.one c (List.mem_of_getElem? hc)).2.2.2.2.1, (D.one d (List.mem_of_getElem? hd)).2.2.2.2.1, e]
/-- what stays of each call -/
theorem ix_args (D : Drw things nat ds) {f : Nat → CR → CR} (hf : ∀ k c, (f k c).thing = c.thing ∧ (f k c).kind = c.kind ∧ (f k c).arg = c.arg) : ∀ c ∈ ds.mapIdx f, c.kind = nat c.thing ∧ c.kind ∈ kinds5 ∧ 0 ≤ c.arg ∧ c.arg ≤ 99 := by
  intro x hx
  obtain ⟨k, c, hk, hc, rfl⟩ := mem_ix hx
  obtain ⟨_, _, _, _, a5, a6, _⟩ := D.one c hc
  obtain ⟨e1, e2, e3⟩ := hf k c
  rw [e1, e2, e3]
  exact ⟨a5, by rw [a5]; exact D.kinds _, a6.2.1, a6.2.2.1⟩
theorem longer_args (D : Drw things nat ds) (L : Longer (ds.mapIdx fC) ls) : ∀ c ∈ ls, c.kind = nat c.thing ∧ c.kind ∈ kinds5 ∧ 0 ≤ c.arg ∧ c.arg ≤ 99 := by
  intro x hx
  obtain ⟨k, hk⟩ := List.getElem?_of_mem hx
  obtain ⟨c, f, v, hc, hf, v0, v1, rfl⟩ := L.get hk
  obtain ⟨_, _, _, _, a5, a6, _⟩ := D.one c (List.mem_of_getElem? hc)
  exact ⟨a5, by simp only [fC]; rw [a5]; exact D.kinds _, a6.2.1, a6.2.2.1⟩
theorem ix_ans (D : Drw things nat ds) {f : Nat → CR → CR} (hf : ∀ k c, (f k c).ans = c.ans) : ∀ c ∈ ds.mapIdx f, c.ans ≠ none := by
  intro x hx
  obtain ⟨k, c, hk, hc, rfl⟩ := mem_ix hx
  obtain ⟨_, _, _, _, _, _, _, _, ⟨a, ha, _⟩, _⟩ := D.one c hc
  rw [hf, ha]
  simp
theorem like_longer (L : Longer (ds.mapIdx fC) ls) : Like (ds.mapIdx fC) ls where
  len := L.len.symm
  same k c d hc hd := by
    obtain ⟨f, v, _, _, _, rfl⟩ := L.at_ k c d hc hd
    exact ⟨rfl, rfl, rfl, rfl, rfl⟩
theorem mcf_longer (L : Longer (ds.mapIdx fC) ls) (i j : Nat) (h : mcfA ls true i j = true) : mcfA (ds.mapIdx fC) true i j = true := by
  unfold mcfA at h ⊢
  cases hi : ls[i]? with
  | none => rw [hi] at h; cases h
  | some a =>
    cases hj : ls[j]? with
    | none => rw [hi, hj] at h; cases h
    | some b =>
      rw [hi, hj] at h
      obtain ⟨c, f, v, hc, hf, v0, v1, rfl⟩ := L.get hi
      obtain ⟨d, f', v', hd, hf', v0', v1', rfl⟩ := L.get hj
      rw [List.getElem?_mapIdx, List.getElem?_mapIdx, hc, hd]
      simp [mcfV, fC, hf] at h ⊢
      have h := of_decide_eq_true h
      omega
end
/-! ### compared lists -/
theorem ne_empty {st : Sto} {a b : Nat} {ds : List DV} (h1 : st[a]? = some (.lst ds)) (hok : ds.all (okD 8) = true) (h2 : st[b]? = some (.lst [])) : gNe (.ref a) (.ref b) st = some (.bl (!ds.isEmpty), st) := by
  have e1 : toPS st (.ref a) = some (.list (toPs ds)) := by
    show (match st[a]? with | some (.lst ds) => if ds.all (okD 8) = true then some (PyData.list (toPs ds)) else none | _ => none) = _
    rw [h1]
    simp only
    rw [if_pos hok]
  have e2 : toPS st (.ref b) = some (.list (toPs [])) := by
    show (match st[b]? with | some (.lst ds) => if ds.all (okD 8) = true then some (PyData.list (toPs ds)) else none | _ => none) = _
    rw [h2]
    rfl
  unfold gNe
  rw [e1, e2]
  cases ds <;> rfl
theorem eq_lists {st : Sto} {a b : Nat} {ns ms : List Int} (h1 : st[a]? = some (.lst (ns.map DV.int))) (h2 : st[b]? = some (.lst (ms.map DV.int))) : gEq (.ref a) (.ref b) st = some (.bl (decide (ns = ms)), st) := by
  have e : ∀ (a : Nat) (ns : List Int), st[a]? = some (.lst (ns.map DV.int)) → toPS st (.ref a) = some (.list (toPs (ns.map DV.int))) := fun a ns h => by
    show (match st[a]? with | some (.lst ds) => if ds.all (okD 8) = true then some (PyData.list (toPs ds)) else none | _ => none) = _
    rw [h]
    simp only
    rw [if_pos (ok_ints 8 ns)]
  unfold gEq
  rw [e a ns h1, e b ms h2]
  simp only [PyData.eqv, eqv_ints]
theorem ok_nsD (n : Nat) (l : List Nat) : okD (n + 1) (nsD l) = true := by
  have := ok_ints n (l.map fun (n : Nat) => (n : Int))
  rw [List.map_map] at this
  exact this
theorem ok_nsDs (L : List (List Nat)) : (L.map nsD).all (okD 8) = true := by
  rw [List.all_map, List.all_eq_true]
  intro r _
  exact ok_nsD 7 r
theorem ok_cr (c : CR) : okD 8 c.d = true := by
  obtain ⟨hand, thing, kind, word, arg, ans, beg, fin⟩ := c
  cases ans <;> cases fin <;> simp [CR.d, okD, ofS_ok]
theorem ok_crs (cs : List CR) : (cs.map CR.d).all (okD 8) = true := by
  rw [List.all_map, List.all_eq_true]
  intro r _
  exact ok_cr r
theorem nsD_range (n : Nat) : DV.tup (rgD 0 (n : Int)) = nsD (List.range n) := by rw [rgD_map]; rfl
theorem seq_like : ∀ (cs ds : List CR), Like cs ds → ∀ S, okSeq cs S = okSeq ds S
  | [], [], _, _ => rfl
  | [], _ :: _, L, _ => by have := L.len; cases this
  | _ :: _, [], L, _ => by have := L.len; cases this
  | c :: cs, d :: ds, L, S => by
    obtain ⟨e1, e2⟩ := like_step (S := S) (L.same 0 c d rfl rfl)
    have L' : Like cs ds := ⟨by have := L.len; simpa using this, fun k x y hx hy => L.same (k + 1) x y hx hy⟩
    show (decide (fits S c) && okSeq cs (stepS S c)) = (decide (fits S d) && okSeq ds (stepS S d))
    rw [e1, seq_like cs ds L', decide_eq_decide.mpr e2]
theorem like_ix {f : Nat → CR → CR} (hf : ∀ k c, (f k c).thing = c.thing ∧ (f k c).kind = c.kind ∧ (f k c).word = c.word ∧ (f k c).arg = c.arg ∧ (f k c).ans = c.ans) (cs : List CR) : Like (cs.mapIdx f) cs where
  len := List.length_mapIdx
  same k c d hc hd := by
    obtain ⟨c', h1, rfl⟩ := get_ix hc
    rw [hd] at h1
    cases h1
    exact hf k d
def ansI (cs : List CR) : List Int := cs.map fun c => c.ans.getD 0
theorem ansI_of {cs : List CR} (h : ∀ c ∈ cs, c.ans ≠ none) : ansOf cs = (ansI cs).map some := by
  unfold ansOf ansI
  rw [List.map_map]
  refine List.map_congr_left fun c hc => ?_
  obtain ⟨a, ha⟩ := Option.ne_none_iff_exists'.mp (h c hc)
  simp [ha]
/-- what a thing's calls tell is right -/
def goodT (nat : Int → String) (cs : List CR) (t : Int) : Bool := decide ((runV (nat t) (initV (nat t)) (pairsOf (ofT cs t))).2 = ansI (ofT cs t))
theorem seq_good {nat : Int → String} {cs : List CR} (hk : ∀ c ∈ cs, c.kind = nat c.thing ∧ c.ans ≠ none) (ht : ∀ c ∈ cs, 0 ≤ c.thing ∧ c.thing < 2) : okSeq cs [] = (goodT nat cs 0 && goodT nat cs 1) := by
  rw [Bool.eq_iff_iff, seq_things (nat := nat) cs [] hk, Bool.and_eq_true]
  have hA : ∀ t, ansOf (ofT cs t) = (ansI (ofT cs t)).map some := fun t => ansI_of fun c hc => (hk c (List.mem_filter.mp hc).1).2
  have one : ∀ t, (ansOf (ofT cs t) = (runV (nat t) ((lookA ([] : SS) t).getD (initV (nat t))) (pairsOf (ofT cs t))).2.map some) ↔ goodT nat cs t = true := fun t => by
    rw [hA t]
    unfold goodT
    rw [decide_eq_true_eq, List.map_inj_right (fun x y e => Option.some.inj e)]
    exact ⟨fun h => h.symm, fun h => h.symm⟩
  constructor
  · intro h
    exact ⟨(one 0).mp (h 0), (one 1).mp (h 1)⟩
  · rintro ⟨h0, h1⟩ t
    by_cases e0 : t = 0
    · rw [e0]; exact (one 0).mpr h0
    · by_cases e1 : t = 1
      · rw [e1]; exact (one 1).mpr h1
      · have : ofT cs t = [] := by
          unfold ofT
          rw [List.filter_eq_nil_iff]
          intro c hc
          have := ht c hc
          simp
          omega
        rw [this]
        rfl
theorem apart_mcf {cs : List CR} {i j : Nat} : (i < j → j < cs.length → mcfA (cs.mapIdx fA) true i j = true) ∧ (j ≤ i → mcfA (cs.mapIdx fA) true i j = false) := by
  constructor
  · intro h hj
    have e1 : cs[i]? = some cs[i] := List.getElem?_eq_getElem (by omega)
    have e2 : cs[j]? = some cs[j] := List.getElem?_eq_getElem hj
    unfold mcfA
    rw [List.getElem?_mapIdx, List.getElem?_mapIdx, e1, e2]
    simp [mcfV, fA]
    omega
  · intro h
    unfold mcfA
    rw [List.getElem?_mapIdx, List.getElem?_mapIdx]
    cases cs[i]? with
    | none => rfl
    | some a =>
      cases cs[j]? with
      | none => rfl
      | some b =>
        simp [mcfV, fA]
        omega
theorem apart_srch {nat : Int → String} {cs : List CR} (hk : ∀ c ∈ cs, c.kind = nat c.thing ∧ c.ans ≠ none) (ht : ∀ c ∈ cs, 0 ≤ c.thing ∧ c.thing < 2) (hl : cs.length ≤ 11) : srch (cs.mapIdx fA) true 12 [] [] = if (goodT nat cs 0 && goodT nat cs 1) = true then some (List.range cs.length) else none := by
  have hA : ∀ c ∈ cs.mapIdx fA, c.ans ≠ none := fun x hx => by
    obtain ⟨k, c, _, hc, rfl⟩ := mem_ix hx
    exact (hk c hc).2
  have h := seq_srch hA (fun i j h1 h2 => apart_mcf.1 h1 (by rwa [List.length_mapIdx] at h2)) (fun i j _ h2 => apart_mcf.2 h2) cs.length 0 [] 12 (by rw [List.length_mapIdx]; omega) (by omega)
  rw [List.drop_zero, seq_like _ _ (like_ix (f := fA) (fun k c => ⟨rfl, rfl, rfl, rfl, rfl⟩) cs), seq_good hk ht, List.length_mapIdx] at h
  exact h
end DL

/-! PL10: calls told at other times, by other hands, of other objects. -/
namespace DL
open PySem PySem.Spec PyProof.Rows L2

section
variable {e : Env} {st : Sto} {ma mb : ME DV} {mq : ME (List DV)} {T : List DV → Sto → Prop} {S : DV → Sto → Prop}
@[simp ↓] theorem v_srtSet : V (mSrtSet mq e st) T = V (mq e st) (fun ds s => P1 (toIs ds) (fun ns => gd ((usort ns).length < 64 ∧ ns.length ≤ 4000) (T ((usort ns).map DV.int) s))) := by
  unfold mSrtSet
  rw [v_bind]
  refine V_ext fun ds s => ?_
  cases toIs ds with
  | none => simp
  | some ns => simp only [P1_some]; by_cases h : (usort ns).length < 64 ∧ ns.length ≤ 4000 <;> simp [h, gd]
@[simp ↓] theorem v_popAt : V (mPopAt ma mb e st) S = V (ma e st) (fun x s => P1 (itemsOf s x) (fun _ => V (mb e s) (fun y s => kI y (fun i => P1 (lstOf s x) (fun p => gd (0 ≤ i ∧ i < p.2.length ∧ p.2.length ≤ LIM) (P1 p.2[i.toNat]? (fun d => le (s.set p.1 (.lst (p.2.eraseIdx i.toNat))) (fun s => S d s)))))))) := by
  unfold mPopAt
  rw [v_bind]
  refine V_ext fun x s => ?_
  cases itemsOf s x with
  | none => simp
  | some ds0 =>
    simp only [P1_some, v_bind]
    refine V_ext fun y s => ?_
    cases x with
    | ref l =>
      cases y with
      | int i =>
        rw [lstOf_ref]
        cases h : s[l]? with
        | none => simp [h]
        | some c =>
          cases c with
          | lst ds =>
            simp only [P1_some, h, kI_int]
            by_cases q : 0 ≤ i ∧ i < ds.length ∧ ds.length ≤ LIM
            · rw [if_pos q, gd_h q]
              cases ds[i.toNat]? <;> simp
            · rw [if_neg q, gd_n q, V_none]
          | _ => simp [h]
      | _ => simp [kI]
    | _ => cases y <;> simp [lstOf, kI]
end
@[simp ↓] theorem v_tgIN {ma mb : ME DV} {d : DV} {e : Env} {st : Sto} {U : Env → Sto → Prop} : V (tgIN ma mb d e st) U = V (ma e st) (fun x s => V (mb e s) (fun y s => gd (y = .non) (P1 (gSetN x d s) (fun s => U e s)))) := by
  unfold tgIN
  cases ma e st with
  | none => simp
  | some p =>
    obtain ⟨x, s⟩ := p
    simp only [V_some]
    cases mb e s with
    | none => simp
    | some p =>
      obtain ⟨y, s⟩ := p
      cases y with
      | non => simp only [V_some]; cases gSetN x d s <;> simp
      | _ => simp [gd]
theorem same_self {st : Sto} {n : Nat} {xs : List DV} (h : ∀ x ∈ xs, Same st n x x) : ∀ (i : Nat) (x y : DV), xs[i]? = some x → xs[i]? = some y → Same st n x y := by
  intro i x y hx hy
  rw [hx] at hy
  cases hy
  exact h x (List.mem_of_getElem? hx)
theorem same_oT {st : Sto} {o : Option (List Nat)} (h : ∀ l, o = some l → l.length ≤ 1000) : Same st 1 (oT o) (oT o) := by
  cases o with
  | none => exact .non 1
  | some l => exact same_nsD (h l rfl)
theorem same_oF {st : Sto} (o : Option (String × Nat)) : Same st 1 (oF o) (oF o) := by
  cases o with
  | none => exact .non 1
  | some p => exact .tup rfl (by simp) (same_self fun x hx => by
      rcases List.mem_cons.mp hx with rfl | hx
      · exact .str 0 _
      · rw [List.mem_singleton.mp hx]; exact .int 0 _)
theorem cut_take {α : Type} {xs : List α} (i : Int) : ∃ m, cutD xs none (some i) = xs.take m := by
  unfold cutD HT.sIx
  simp only [List.drop_zero, Nat.sub_zero]
  exact ⟨_, rfl⟩
theorem srch_short {cs : List CR} {bt : Bool} : ∀ (n : Nat) (done : List Nat) (S : SS) (l : List Nat), srch cs bt n done S = some l → l.length ≤ done.length + (leftOf cs.length done).length
  | 0, _, _, _, h => by cases h
  | n + 1, done, S, l, h => by
    cases ha : allNone cs (leftOf cs.length done) with
    | true =>
      rw [srch_all ha] at h
      cases h
      omega
    | false =>
      rw [srch_try ha] at h
      obtain ⟨k, hk, h⟩ := List.exists_of_findSome?_eq_some h
      have hlt := left_lt hk
      have hc : cs[k]? = some cs[k] := List.getElem?_eq_getElem hlt
      cases hb : blocked cs bt (leftOf cs.length done) k with
      | true => rw [try_blocked hb] at h; cases h
      | false =>
        by_cases q : fits S cs[k]
        · rw [try_go hc hb q] at h
          have := srch_short n _ _ l h
          have := left_dec hk
          rw [List.length_append, List.length_singleton] at *
          omega
        · rw [try_unfit hc q] at h; cases h
/-! ### dicts with None -/
theorem nget_at {st : Sto} {l : Nat} {S : List (Int × Int)} (o : Option Int) (h : st[l]? = some (.dcn (encG DV.int S) .non)) : gNGet (.ref l) (oI o) st = (match o with | none => some (.non, st) | some i => (lookG S i).map fun x => (.int x, st)) := by
  unfold gNGet
  simp only [h]
  cases o with
  | none => rfl
  | some i =>
    simp only [oI_some, keyD_int]
    rw [val_encG]
    cases lookG S i <;> rfl
theorem enc_isL (S : List (Int × Int)) : ((encG DV.int S).all fun kv => isL kv.1) = true := by
  rw [List.all_eq_true]
  intro x hx
  obtain ⟨p, _, rfl⟩ := List.mem_map.mp hx
  rfl
theorem setN_at {st : Sto} {l : Nat} {S : List (Int × Int)} {d : DV} (h : st[l]? = some (.dct (encG DV.int S))) (hz : S.length < LIM) : gSetN (.ref l) d st = some (st.set l (.dcn (encG DV.int S) d)) := by
  unfold gSetN
  simp only [h, encG_len]
  rw [if_pos ⟨hz, enc_isL S⟩]
/-! ### times led on -/
structure LaterOk (S : List (Int × Int)) (ts : List Int) (clock : Int) : Prop where
  get : ∀ t ∈ ts, ∃ v, lookG S t = some v ∧ 0 ≤ v ∧ v ≤ clock
  mono : ∀ t ∈ ts, ∀ u ∈ ts, t < u → ∀ v x, lookG S t = some v → lookG S u = some x → v < x
theorem later_nil (S : List (Int × Int)) (clock : Int) : LaterOk S [] clock := ⟨fun _ h => absurd h List.not_mem_nil, fun _ h => absurd h List.not_mem_nil⟩
theorem LaterOk.snoc {S : List (Int × Int)} {ts : List Int} {clock : Int} (h : LaterOk S ts clock) {t c : Int} (h0 : 0 ≤ clock) (ht : ∀ u ∈ ts, u < t) (hc : clock < c) : LaterOk (putG S t c) (ts ++ [t]) c where
  get := by
    intro u hu
    rcases List.mem_append.mp hu with hu | hu
    · have := ht u hu
      obtain ⟨v, h1, h2, h3⟩ := h.get u hu
      exact ⟨v, by rw [look_put, if_neg (by omega)]; exact h1, h2, by omega⟩
    · rw [List.mem_singleton.mp hu]
      exact ⟨c, by rw [look_put, if_pos rfl], by omega, Int.le_refl _⟩
  mono := by
    intro u hu x hx hux v y hv hy
    rw [look_put] at hv hy
    rcases List.mem_append.mp hu with hu | hu
    · have hut := ht u hu
      rw [if_neg (by omega)] at hv
      rcases List.mem_append.mp hx with hx | hx
      · have hxt := ht x hx
        rw [if_neg (by omega)] at hy
        exact h.mono u hu x hx hux v y hv hy
      · rw [List.mem_singleton.mp hx, if_pos rfl] at hy
        cases hy
        obtain ⟨v', h1, h2, h3⟩ := h.get u hu
        rw [hv] at h1
        cases h1
        omega
    · rw [List.mem_singleton.mp hu] at hux
      rcases List.mem_append.mp hx with hx | hx
      · have := ht x hx; omega
      · rw [List.mem_singleton.mp hx] at hux; omega
/-! ### a permutation by places -/
theorem perm_at {ns ms : List Int} (hp : ms.Perm ns) (hn : ns.Nodup) {i j : Nat} (hi : i < ns.length) (hj : j < ns.length) (h : ms[i]?.getD 0 = ms[j]?.getD 0) : i = j := by
  have hl := hp.length_eq
  have hnd : ms.Nodup := hp.nodup_iff.mpr hn
  rw [List.getElem?_eq_getElem (by omega), List.getElem?_eq_getElem (by omega)] at h
  exact (List.getElem_inj hnd).mp h
theorem erase_map {α β : Type} (f : α → β) : ∀ (l : List α) (i : Nat), (l.map f).eraseIdx i = (l.eraseIdx i).map f
  | [], i => by simp
  | a :: l, 0 => by simp
  | a :: l, i + 1 => by simp [erase_map f l i]
theorem perm_erase {α : Type} : ∀ {l : List α} {i : Nat} (h : i < l.length), (l[i] :: l.eraseIdx i).Perm l
  | a :: l, 0, _ => List.Perm.refl _
  | a :: l, i + 1, h => by
    have := perm_erase (l := l) (i := i) (by simpa using h)
    simp only [List.getElem_cons_succ, List.eraseIdx_cons_succ]
    exact (List.Perm.swap _ _ _).trans (this.cons a)
/-! ### renaming -/
structure Ren (cs ds : List CR) (f : Int → Int) : Prop where
  len : ds.length = cs.length
  at_ : ∀ (k : Nat) (c : CR), cs[k]? = some c → ∃ d, ds[k]? = some d ∧ d.thing = f c.thing ∧ d.kind = c.kind ∧ d.word = c.word ∧ d.arg = c.arg ∧ d.ans = c.ans
  inj : ∀ c ∈ cs, ∀ c' ∈ cs, f c.thing = f c'.thing → c.thing = c'.thing
  mcf : ∀ bt i j, mcfA ds bt i j = mcfA cs bt i j
def SRel (cs : List CR) (f : Int → Int) (S S' : SS) : Prop := ∀ c ∈ cs, lookA S' (f c.thing) = lookA S c.thing
theorem lookA_put (S : SS) (k : Int) (v : SV) (j : Int) : lookA (putA S k v) j = if j = k then some v else lookA S j := look_put S k v j
section
variable {cs ds : List CR} {f : Int → Int} {S S' : SS} {bt : Bool}
theorem Ren.none (R : Ren cs ds f) {k : Nat} (h : cs[k]? = none) : ds[k]? = none := by
  rw [List.getElem?_eq_none_iff] at h ⊢
  have := R.len
  omega
theorem SRel.put (R : Ren cs ds f) (h : SRel cs f S S') {c : CR} (hc : c ∈ cs) (v : SV) : SRel cs f (putA S c.thing v) (putA S' (f c.thing) v) := fun x hx => by
  rw [lookA_put, lookA_put]
  by_cases e : x.thing = c.thing
  · rw [if_pos e, if_pos (by rw [e])]
  · rw [if_neg e, if_neg (fun q => e (R.inj x hx c hc q))]
    exact h x hx
theorem ren_st {c d : CR} (h : SRel cs f S S') (hc : c ∈ cs) (h1 : d.thing = f c.thing) (h2 : d.kind = c.kind) : stOf S' d = stOf S c := by
  unfold stOf
  rw [h1, h2, h c hc]
theorem ren_none (R : Ren cs ds f) (l : List Nat) : allNone ds l = allNone cs l := by
  unfold allNone
  congr 1
  funext k
  cases h : cs[k]? with
  | none => rw [R.none h]
  | some c =>
    obtain ⟨d, h1, _, _, _, _, h2⟩ := R.at_ k c h
    rw [h1]
    simp only [h2]
theorem ren_blocked (R : Ren cs ds f) (l : List Nat) (k : Nat) : blocked ds bt l k = blocked cs bt l k := by
  unfold blocked
  congr 1
  funext o
  rw [R.mcf]
theorem ren_fits {c d : CR} (h : SRel cs f S S') (hc : c ∈ cs) (h1 : d.thing = f c.thing) (h2 : d.kind = c.kind) (h3 : d.word = c.word) (h4 : d.arg = c.arg) (h5 : d.ans = c.ans) : fits S' d ↔ fits S c := by
  unfold fits
  rw [ren_st h hc h1 h2, h2, h3, h4, h5]
theorem ren_step {c d : CR} (R : Ren cs ds f) (h : SRel cs f S S') (hc : c ∈ cs) (h1 : d.thing = f c.thing) (h2 : d.kind = c.kind) (h3 : d.word = c.word) (h4 : d.arg = c.arg) : SRel cs f (stepS S c) (stepS S' d) := by
  unfold stepS
  rw [ren_st h hc h1 h2, h1, h2, h3, h4]
  exact h.put R hc _
theorem srch_ren (R : Ren cs ds f) : ∀ (n : Nat) (done : List Nat) (S S' : SS), SRel cs f S S' → srch ds bt n done S' = srch cs bt n done S
  | 0, _, _, _, _ => rfl
  | n + 1, done, S, S', h => by
    have hl := R.len
    cases ha : allNone cs (leftOf cs.length done) with
    | true => rw [srch_all ha, srch_all (by rw [hl, ren_none R]; exact ha)]
    | false =>
      rw [srch_try ha, srch_try (by rw [hl, ren_none R]; exact ha), hl]
      refine findSome_congr fun k hk => ?_
      have hlt := left_lt hk
      have hc : cs[k]? = some cs[k] := List.getElem?_eq_getElem hlt
      have hm : cs[k] ∈ cs := List.getElem_mem _
      generalize cs[k] = c at hc hm
      obtain ⟨d, h0, h1, h2, h3, h4, h5⟩ := R.at_ k c hc
      cases hb : blocked cs bt (leftOf cs.length done) k with
      | true => rw [try_blocked hb, try_blocked (by rw [hl, ren_blocked R]; exact hb)]
      | false =>
        have hf := ren_fits h hm h1 h2 h3 h4 h5
        by_cases q : fits S c
        · rw [try_go hc hb q, try_go h0 (by rw [hl, ren_blocked R]; exact hb) (hf.mpr q)]
          exact srch_ren R n _ _ _ (ren_step R h hm h1 h2 h3 h4)
        · rw [try_unfit hc q, try_unfit h0 (fun z => q (hf.mp z))]
theorem ofRun_ren (R : Ren cs ds f) : ∀ (r : List Nat) (p : Nat) (S S' : SS), SRel cs f S S' → ofRun ds bt p r S' = ofRun cs bt p r S
  | [], _, _, _, _ => rfl
  | k :: r, p, S, S', h => by
    rw [of_cons, of_cons]
    have e : (r.any fun o => mcfA ds bt o k) = (r.any fun o => mcfA cs bt o k) := by
      congr 1
      funext o
      rw [R.mcf]
    rw [e]
    split
    · rfl
    · cases hc : cs[k]? with
      | none => rw [R.none hc]
      | some c =>
        obtain ⟨d, h0, h1, h2, h3, h4, h5⟩ := R.at_ k c hc
        have hm := List.mem_of_getElem? hc
        have hf := ren_fits h hm h1 h2 h3 h4 h5
        rw [h0]
        simp only
        by_cases q : fits S c
        · rw [if_pos q, if_pos (hf.mpr q)]
          exact ofRun_ren R r _ _ _ (ren_step R h hm h1 h2 h3 h4)
        · rw [if_neg q, if_neg (fun z => q (hf.mp z))]
theorem miss_ren (R : Ren cs ds f) (o : List Nat) : missL ds o = missL cs o := by
  unfold missL
  rw [R.len]
  congr 1
  funext k
  cases h : cs[k]? with
  | none => rw [R.none h]
  | some c =>
    obtain ⟨d, h1, _, _, _, _, h2⟩ := R.at_ k c h
    rw [h1]
    simp only [h2]
theorem ofV_ren (R : Ren cs ds f) (o : List Nat) : ofV ds o bt = ofV cs o bt := by
  unfold ofV
  rw [miss_ren R]
  cases missL cs o with
  | nil => exact ofRun_ren R o 0 [] [] fun _ _ => rfl
  | cons k r => rfl
end
theorem nats_of {ms : List Int} {n : Nat} (h : ms.Perm ((List.range n).map fun (k : Nat) => (k : Int))) (m : Nat) : ∃ o : List Nat, (ms.take m).map DV.int = o.map (fun (k : Nat) => DV.int k) ∧ o.Nodup ∧ (∀ k ∈ o, k < n) ∧ o.length ≤ n := by
  have hmem : ∀ x ∈ ms, 0 ≤ x ∧ x < n := fun x hx => by
    have := h.mem_iff.mp hx
    obtain ⟨k, hk, rfl⟩ := List.mem_map.mp this
    have := List.mem_range.mp hk
    omega
  have hnd : ms.Nodup := h.nodup_iff.mpr (nodup_cast List.nodup_range)
  have hmem2 : ∀ x ∈ ms.take m, 0 ≤ x ∧ x < n := fun x hx => hmem x (List.mem_of_mem_take hx)
  refine ⟨(ms.take m).map Int.toNat, ?_, ?_, fun k hk => ?_, ?_⟩
  · rw [List.map_map]
    refine List.map_congr_left fun x hx => ?_
    have := hmem2 x hx
    simp only [Function.comp]
    congr 1
    omega
  · have h2 : (ms.take m).Nodup := hnd.sublist (List.take_sublist _ _)
    unfold List.Nodup at h2 ⊢
    rw [List.pairwise_map]
    refine h2.imp_of_mem fun ha hb hab e => hab ?_
    have := hmem2 _ ha
    have := hmem2 _ hb
    omega
  · obtain ⟨x, hx, rfl⟩ := List.mem_map.mp hk
    have := hmem2 x hx
    omega
  · rw [List.length_map, List.length_take]
    have := h.length_eq
    rw [List.length_map, List.length_range] at this
    omega
/-! ### calls told anew -/
def tr (h q g : Int → Int) (c : CR) : CR := { c with hand := h c.hand, thing := q c.thing, beg := g c.beg, fin := c.fin.map g }
structure TrOk (cs : List CR) (h q g : Int → Int) : Prop where
  hr : ∀ c ∈ cs, 1 ≤ h c.hand ∧ h c.hand ≤ 9
  hi : ∀ c ∈ cs, ∀ d ∈ cs, h c.hand = h d.hand → c.hand = d.hand
  qr : ∀ c ∈ cs, 0 ≤ q c.thing ∧ q c.thing ≤ 9
  qi : ∀ c ∈ cs, ∀ d ∈ cs, q c.thing = q d.thing → c.thing = d.thing
  gr : ∀ x ∈ timesOf cs, 0 ≤ g x ∧ g x ≤ 1000
  gm : ∀ x ∈ timesOf cs, ∀ y ∈ timesOf cs, x < y → g x < g y
theorem fin_mem {cs : List CR} {c : CR} {f : Int} (h : c ∈ cs) (hf : c.fin = some f) : f ∈ timesOf cs := List.mem_flatMap.mpr ⟨c, h, List.mem_cons_of_mem _ (by unfold finL; rw [hf]; exact List.mem_cons_self)⟩
theorem TrOk.lt {cs : List CR} {h q g : Int → Int} (T : TrOk cs h q g) {x y : Int} (hx : x ∈ timesOf cs) (hy : y ∈ timesOf cs) : g x < g y ↔ x < y := by
  constructor
  · intro r
    rcases Int.lt_trichotomy x y with k | k | k
    · exact k
    · rw [k] at r; omega
    · have := T.gm y hy x hx k; omega
  · exact T.gm x hx y hy
theorem get_map {cs : List CR} {f : CR → CR} {k : Nat} {x : CR} (h : (cs.map f)[k]? = some x) : ∃ c, cs[k]? = some c ∧ x = f c := by
  rw [List.getElem?_map] at h
  obtain ⟨c, h1, h2⟩ := Option.map_eq_some_iff.mp h
  exact ⟨c, h1, h2.symm⟩
theorem tl_mem {cs : List CR} {c : CR} (h : c ∈ cs) : ∀ x ∈ tl c, x ∈ timesOf cs := fun x hx => List.mem_flatMap.mpr ⟨c, h, hx⟩
theorem tl_tr {h q g : Int → Int} {c : CR} {x : Int} (hx : x ∈ tl (tr h q g c)) : ∃ y ∈ tl c, x = g y := by
  unfold tl at hx ⊢
  rcases List.mem_cons.mp hx with rfl | hx
  · exact ⟨c.beg, List.mem_cons_self, rfl⟩
  · unfold finL tr at hx
    cases hf : c.fin with
    | none => rw [hf] at hx; cases hx
    | some f =>
      rw [hf] at hx
      refine ⟨f, List.mem_cons_of_mem _ (by unfold finL; rw [hf]; exact List.mem_cons_self), ?_⟩
      exact List.mem_singleton.mp hx
theorem okh_tr {things : Int} {nat : Int → String} {cs : List CR} (H : Hist things nat cs) {h q g : Int → Int} (T : TrOk cs h q g) : OkH (cs.map (tr h q g)) := by
  have hpw := H.times
  unfold timesOf List.Nodup at hpw
  rw [List.pairwise_flatMap] at hpw
  refine okh_of (fun x hx => ?_) (fun i j a b hij ha hb => ?_) (fun i j a b hij ha hb => ?_) (fun i j a b hij ha hb e => ?_) (fun i j a b hij ha hb e => ?_)
  · obtain ⟨c, hc, rfl⟩ := List.mem_map.mp hx
    obtain ⟨a1, a2, a3, a4, a5, a6, a7, a8, a9, a10, a11⟩ := H.one c hc
    constructor
    · exact T.hr c hc
    · exact T.qr c hc
    · simp only [tr]; rw [a5]; exact H.kinds _
    · exact a6.1
    · exact ⟨a6.2.1, a6.2.2.1⟩
    · exact a6.2.2.2
    · exact T.gr _ (beg_mem hc)
    · simp only [tr, Option.map_eq_none_iff]; exact a9
    · exact a10
    · intro f hf
      simp only [tr, Option.map_eq_some_iff] at hf
      obtain ⟨f0, h1, rfl⟩ := hf
      have h2 := T.gm c.beg (beg_mem hc) f0 (fin_mem hc h1) (by have := a11 f0 h1; omega)
      have h3 := T.gr f0 (fin_mem hc h1)
      simp only [tr]
      omega
  · obtain ⟨c, hc, rfl⟩ := get_map ha
    obtain ⟨d, hd, rfl⟩ := get_map hb
    intro x hx y hy
    obtain ⟨x', hx', rfl⟩ := tl_tr hx
    obtain ⟨y', hy', rfl⟩ := tl_tr hy
    have mc := tl_mem (List.mem_of_getElem? hc) x' hx'
    have md := tl_mem (List.mem_of_getElem? hd) y' hy'
    have hne : x' ≠ y' := by
      obtain ⟨hi, rfl⟩ := List.getElem?_eq_some_iff.mp hc
      obtain ⟨hj, rfl⟩ := List.getElem?_eq_some_iff.mp hd
      exact List.pairwise_iff_getElem.mp hpw.2 i j hi hj hij x' hx' y' hy'
    intro e
    rcases Int.lt_trichotomy x' y' with k | k | k
    · have := T.gm x' mc y' md k; omega
    · exact hne k
    · have := T.gm y' md x' mc k; omega
  · obtain ⟨c, hc, rfl⟩ := get_map ha
    obtain ⟨d, hd, rfl⟩ := get_map hb
    have := H.sorted i j c d hij hc hd
    have := T.gm _ (beg_mem (List.mem_of_getElem? hc)) _ (beg_mem (List.mem_of_getElem? hd)) this
    simp only [tr]
    omega
  · obtain ⟨c, hc, rfl⟩ := get_map ha
    obtain ⟨d, hd, rfl⟩ := get_map hb
    obtain ⟨f, hf, hlt⟩ := H.hand i j c d hij hc hd (T.hi c (List.mem_of_getElem? hc) d (List.mem_of_getElem? hd) e)
    refine ⟨g f, by simp [tr, hf], ?_⟩
    have := T.gm _ (fin_mem (List.mem_of_getElem? hc) hf) _ (beg_mem (List.mem_of_getElem? hd)) hlt
    simp only [tr]
    omega
  · obtain ⟨c, hc, rfl⟩ := get_map ha
    obtain ⟨d, hd, rfl⟩ := get_map hb
    have mc := List.mem_of_getElem? hc
    have md := List.mem_of_getElem? hd
    have e2 := T.qi c mc d md e
    simp only [tr]
    rw [(H.one c mc).2.2.2.2.1, (H.one d md).2.2.2.2.1, e2]
theorem ren_tr {cs : List CR} {h q g : Int → Int} (T : TrOk cs h q g) : Ren cs (cs.map (tr h q g)) q where
  len := by simp
  at_ := fun k c hc => ⟨tr h q g c, by rw [List.getElem?_map, hc]; rfl, rfl, rfl, rfl, rfl, rfl⟩
  inj := T.qi
  mcf := by
    intro bt i j
    unfold mcfA
    rw [List.getElem?_map, List.getElem?_map]
    cases ha : cs[i]? with
    | none => rfl
    | some a =>
      cases hb : cs[j]? with
      | none => rfl
      | some b =>
        have ma := List.mem_of_getElem? ha
        have mb := List.mem_of_getElem? hb
        simp only [Option.map_some, mcfV, tr]
        cases bt with
        | true =>
          cases hf : a.fin with
          | none => rfl
          | some f =>
            simp only [Option.map_some, if_true]
            rw [decide_eq_decide]
            exact T.lt (fin_mem ma hf) (beg_mem mb)
        | false =>
          have e : (h a.hand = h b.hand) ↔ a.hand = b.hand := ⟨T.hi a ma b mb, fun q => by rw [q]⟩
          simp only [Bool.false_eq_true, if_false, decide_eq_decide.mpr e]
theorem tr_id (cs : List CR) : cs.map (tr id id id) = cs := by
  have : tr id id id = id := by
    funext c
    obtain ⟨_, _, _, _, _, _, _, fin⟩ := c
    cases fin <;> rfl
  rw [this, List.map_id]
theorem okh_hist {things : Int} {nat : Int → String} {cs : List CR} (H : Hist things nat cs) (ht : things ≤ 2) : OkH cs := by
  have := okh_tr (h := id) (q := id) (g := id) H ⟨fun c hc => by have := H.one c hc; simp only [id]; omega, fun _ _ _ _ e => e, fun c hc => by have := H.one c hc; simp only [id]; omega, fun _ _ _ _ e => e, fun x hx => ?_, fun _ _ _ _ k => k⟩
  · rwa [tr_id] at this
  · obtain ⟨c, hc, hx⟩ := List.mem_flatMap.mp hx
    obtain ⟨a1, a2, a3, a4, a5, a6, a7, a8, a9, a10, a11⟩ := H.one c hc
    rcases List.mem_cons.mp hx with rfl | hx
    · simp only [id]; omega
    · unfold finL at hx
      cases hf : c.fin with
      | none => rw [hf] at hx; cases hx
      | some f =>
        rw [hf] at hx
        rw [List.mem_singleton.mp hx]
        have := a11 f hf
        simp only [id]
        omega
/-! ### a new list, behind what was drawn -/
theorem ltKs_mono {n m : Nat} (h : n ≤ m) : ∀ {d : List (Key × DV)}, ltKs n d = true → ltKs m d = true
  | [], _ => rfl
  | x :: xs, q => by
    simp only [ltKs, Bool.and_eq_true] at q ⊢
    exact ⟨ltD_mono h q.1, ltKs_mono h q.2⟩
theorem trimL_pool {F : FM} {ds : List DV} {p : PS} {g : Sto} {R : DO → Prop} (h : V (F ds (p.st ++ g)) fun d s => ∃ (p' : PS) (u : Sto) (l : Nat) (o : DO), d = .ref (g.length + 3 + l) ∧ s = p'.st ++ (g ++ u) ∧ u[l]? = some o ∧ OkP p' ∧ R o) (hR : ∀ o, R o → ltO 3 o = true) : ∃ o p', trimL F ds (p.st ++ g) = some (.ref (g.length + 3), p'.st ++ (g ++ [o])) ∧ OkP p' ∧ R o := by
  obtain ⟨_, _, h1, p', u, l, o, rfl, rfl, hu, h2, h3⟩ := h
  refine ⟨o, p', ?_, h2, h3⟩
  have hlen : (p.st ++ g).length = g.length + 3 := ps_alen
  have hg : (p'.st ++ (g ++ u))[g.length + 3 + l]? = some o := by
    rw [show g.length + 3 + l = (g.length + l) + 3 by omega, ps_get, List.getElem?_append_right (Nat.le_add_right _ _), Nat.add_sub_cancel_left]
    exact hu
  unfold trimL
  rw [h1]
  simp only [hg]
  have hlow : ∀ (j : Nat) (q : DO), j < g.length + 3 → (p'.st ++ (g ++ u))[j]? = some q → (p.st ++ g)[j]? = some q ∨ ltO (g.length + 3) q = true := fun j q hj hq => by
    match j, hq with
    | 0, hq => cases hq; exact .inr (by simp [ltO, ltDs_ints])
    | 1, hq => cases hq; exact .inr (by simp [ltO, ltDs_ints])
    | 2, hq => cases hq; exact .inr (by simp [ltO, ltDs, ltD])
    | j + 3, hq =>
      rw [ps_get] at hq
      rw [ps_get]
      rw [List.getElem?_append_left (by omega)] at hq
      exact .inl hq
  have hmono : ltO (g.length + 3) o = true := by
    have := hR o h3
    cases o with
    | lst xs => exact ltDs_mono (by omega) this
    | dct ks => exact ltKs_mono (by omega) this
    | dcn ks d =>
      simp only [ltO, Bool.and_eq_true] at this ⊢
      exact ⟨ltKs_mono (by omega) this.1, ltD_mono (by omega) this.2⟩
  rw [hlen, if_pos ⟨by omega, hlow, hmono⟩]
  have e : (p'.st ++ (g ++ u)).take (g.length + 3) = p'.st ++ g := by
    rw [← List.append_assoc, List.take_left' (by rw [ps_alen])]
  rw [e, List.append_assoc]
end DL

/-! PL11: more constructs by wanted ends. -/
namespace DL
open PySem PySem.Spec PyProof.Rows L2
section
variable {e : Env} {st : Sto} {ma mb : ME DV} {mq : ME (List DV)} {T : List DV → Sto → Prop} {S : DV → Sto → Prop} {M : (Option Nat × List DV) → Sto → Prop} {x y : DV}
/-- the items of a tuple -/
def tupOf : DV → Option (List DV)
  | .tup xs => some xs
  | _ => none
@[simp] theorem tupOf_tup {xs : List DV} : tupOf (.tup xs) = some xs := rfl
@[simp ↓] theorem v_itZ : V (itZ ma mb e st) M = V (ma e st) (fun x s => V (mb e s) (fun y s => P1 (tupOf x) (fun xs => P1 (tupOf y) (fun ys => M (none, zipD xs ys) s)))) := by
  unfold itZ
  rw [v_bind]
  refine V_ext fun x s => ?_
  rw [v_bind]
  refine V_ext fun y s => ?_
  cases x <;> cases y <;> simp [tupOf]
@[simp ↓] theorem v_ext : V (mExt ma mq e st) S = V (ma e st) (fun x s => P1 (itemsOf s x) (fun _ => V (mq e s) (fun ys s => P1 (lstOf s x) (fun p => gd (p.2.length + ys.length ≤ LIM) (le (s.set p.1 (.lst (p.2 ++ ys))) (fun s => S .non s)))))) := by
  unfold mExt
  rw [v_bind]
  refine V_ext fun x s => ?_
  cases itemsOf s x with
  | none => simp
  | some ds0 =>
    simp only [P1_some, v_bind]
    refine V_ext fun y s => ?_
    cases x with
    | ref l =>
      rw [lstOf_ref]
      simp only
      cases h : s[l]? with
      | none => simp
      | some c => cases c <;> simp [gd]
    | _ => simp [lstOf]
@[simp ↓] theorem v_extV : V (mExtV ma mb e st) S = V (ma e st) (fun x s => P1 (itemsOf s x) (fun _ => V (mb e s) (fun y s => P1 (lstOf s x) (fun p => P1 (lstOf s y) (fun q => gd (p.2.length + q.2.length ≤ LIM) (le (s.set p.1 (.lst (p.2 ++ q.2))) (fun s => S .non s))))))) := by
  unfold mExtV
  rw [v_bind]
  refine V_ext fun x s => ?_
  cases itemsOf s x with
  | none => simp
  | some ds0 =>
    simp only [P1_some, v_bind]
    refine V_ext fun y s => ?_
    cases x with
    | ref l =>
      cases y with
      | ref m =>
        rw [lstOf_ref, lstOf_ref]
        simp only
        cases h : s[l]? with
        | none => simp
        | some c =>
          cases h2 : s[m]? with
          | none => cases c <;> simp
          | some c2 => cases c <;> cases c2 <;> simp [gd]
      | _ => cases h : lstOf s (.ref l) <;> simp [lstOf]
    | _ => simp [lstOf]
@[simp ↓] theorem v_minS : V (mMinS mq e st) S = V (mq e st) (fun ds s => P1 (toIs ds) (fun ns => P1 (lowest ns) (fun i => S (.int i) s))) := by
  unfold mMinS
  rw [v_bind]
  refine V_ext fun ds s => ?_
  cases toIs ds with
  | none => simp
  | some ns => simp only [P1_some]; cases lowest ns <;> simp
@[simp ↓] theorem v_maxS : V (mMaxS mq e st) S = V (mq e st) (fun ds s => P1 (toIs ds) (fun ns => P1 (highest ns) (fun i => S (.int i) s))) := by
  unfold mMaxS
  rw [v_bind]
  refine V_ext fun ds s => ?_
  cases toIs ds with
  | none => simp
  | some ns => simp only [P1_some]; cases highest ns <;> simp
@[simp ↓] theorem v_max2 : V (mMax2 ma mb e st) S = V (ma e st) (fun x s => V (mb e s) (fun y s => kI x (fun i => kI y (fun j => S (.int (if i < j then j else i)) s)))) := by
  unfold mMax2
  rw [v_bind]
  refine V_ext fun x s => ?_
  rw [v_bind]
  refine V_ext fun y s => ?_
  cases x <;> cases y <;> simp [kI]
@[simp ↓] theorem w_dead {U : Fl → Env → Sto → Prop} : W (sDead e st) U = False := W_none
end
end DL

/-! PR1: rings by a search, level by level. -/
namespace DL
open PySem PySem.Spec PyProof.Rows L2

abbrev Edge := Bool × Nat × Nat
abbrev WW := List Nat × List Bool
def inc (v : Nat) (e : Edge) : Option (Bool × Nat) := if v = e.2.1 then some (e.1, e.2.2) else if v = e.2.2 then some (e.1, e.2.1) else none
def lastN (w : List Nat) : Nat := w.getLast?.getD 0
def headN (w : List Nat) : Nat := w.head?.getD 0
def closesE (w : WW) (p : Bool × Nat) : Bool := decide (p.2 = headN w.1) && (decide (2 < w.1.length) && (decide (true ∈ w.2 ++ [p.1]) && decide (false ∈ w.2 ++ [p.1])))
def pushE (w : WW) (p : Bool × Nat) : Option WW := if p.2 ∉ w.1 ∧ headN w.1 < p.2 then some (w.1 ++ [p.2], w.2 ++ [p.1]) else none
def incs (E : List Edge) (w : WW) : List (Bool × Nat) := E.filterMap (inc (lastN w.1))
def closable (E : List Edge) (w : WW) : Bool := (incs E w).any (closesE w)
def pushes (E : List Edge) (w : WW) : List WW := (incs E w).filterMap (pushE w)
def bfs (E : List Edge) : Nat → List WW → Option (List Nat)
  | 0, _ => none
  | _ + 1, [] => none
  | n + 1, w :: q => if closable E w = true then some w.1 else bfs E n (q ++ pushes E w)
/-- edges as they are: lower number first, each pair once -/
structure OkE (N : Nat) (E : List Edge) : Prop where
  lt : ∀ e ∈ E, e.2.1 < e.2.2 ∧ e.2.2 < N
  nd : (E.map (·.2)).Nodup
/-- joined -/
def Ed (E : List Edge) (l : Bool) (a b : Nat) : Prop := (l, a, b) ∈ E ∨ (l, b, a) ∈ E
theorem Ed.symm {E : List Edge} {l : Bool} {a b : Nat} (h : Ed E l a b) : Ed E l b a := Or.symm h
inductive From (E : List Edge) : WW → WW → Prop
  | refl (w : WW) : From E w w
  | step {w u v : WW} : u ∈ pushes E w → From E u v → From E w v
section
variable {E : List Edge} {N : Nat} {w u v : WW}
theorem From.snoc (h : From E w v) (hu : u ∈ pushes E v) : From E w u := by
  induction h with
  | refl w => exact .step hu (.refl _)
  | step h1 _ ih => exact .step h1 (ih hu)
theorem push_mem (h : u ∈ pushes E w) : ∃ p ∈ incs E w, p.2 ∉ w.1 ∧ headN w.1 < p.2 ∧ u = (w.1 ++ [p.2], w.2 ++ [p.1]) := by
  obtain ⟨p, hp, h⟩ := List.mem_filterMap.mp h
  unfold pushE at h
  split at h
  · rename_i c
    cases h
    exact ⟨p, hp, c.1, c.2, rfl⟩
  · cases h
theorem push_len (h : u ∈ pushes E w) : u.1.length = w.1.length + 1 := by
  obtain ⟨p, _, _, _, rfl⟩ := push_mem h
  simp
theorem from_len (h : From E w v) : w.1.length ≤ v.1.length := by
  induction h with
  | refl => exact Nat.le_refl _
  | step h1 _ ih => have := push_len h1; omega
theorem mem_incs (ok : OkE N E) {p : Bool × Nat} : p ∈ incs E w ↔ Ed E p.1 (lastN w.1) p.2 := by
  unfold incs Ed
  rw [List.mem_filterMap]
  constructor
  · rintro ⟨⟨l, a, b⟩, he, h⟩
    unfold inc at h
    simp only at h
    split at h
    · rename_i c
      cases h
      rw [c]
      exact .inl he
    · split at h
      · rename_i c
        cases h
        rw [c]
        exact .inr he
      · cases h
  · obtain ⟨l, x⟩ := p
    rintro (h | h)
    · exact ⟨_, h, by simp [inc]⟩
    · have := (ok.lt _ h).1
      simp only at this
      refine ⟨_, h, ?_⟩
      unfold inc
      rw [if_neg (by simp only; omega), if_pos rfl]
theorem bfs_sound : ∀ {n : Nat} {q : List WW} {r : List Nat}, bfs E n q = some r → ∃ w ∈ q, ∃ v, From E w v ∧ closable E v = true ∧ v.1 = r
  | 0, _, _, h => by cases h
  | _ + 1, [], _, h => by cases h
  | n + 1, w :: q, r, h => by
    unfold bfs at h
    split at h
    · rename_i c
      cases h
      exact ⟨w, List.mem_cons_self, w, .refl w, c, rfl⟩
    · obtain ⟨u, hu, v, h1, h2, h3⟩ := bfs_sound h
      rcases List.mem_append.mp hu with hu | hu
      · exact ⟨u, List.mem_cons_of_mem _ hu, v, h1, h2, h3⟩
      · exact ⟨w, List.mem_cons_self, v, .step hu h1, h2, h3⟩
/-! ### how much there is to do -/
def Tn : Nat → Nat
  | 0 => 1
  | m + 1 => 1 + (m + 1) * Tn m
def wt (N : Nat) (w : WW) : Nat := Tn (N - w.1.length)
def wts (N : Nat) (q : List WW) : Nat := (q.map (wt N)).sum
theorem Tn_pos : ∀ m, 1 ≤ Tn m
  | 0 => Nat.le_refl _
  | m + 1 => by unfold Tn; omega
theorem wts_append (q r : List WW) : wts N (q ++ r) = wts N q + wts N r := by unfold wts; rw [List.map_append, List.sum_append]
theorem wts_cons (q : List WW) : wts N (w :: q) = wt N w + wts N q := by unfold wts; rw [List.map_cons, List.sum_cons]
theorem len_wts : ∀ q : List WW, q.length ≤ wts N q
  | [] => Nat.le_refl _
  | w :: q => by
    rw [wts_cons, List.length_cons]
    have := len_wts q
    have := Tn_pos (N - w.1.length)
    unfold wt
    omega
structure Okw (N : Nat) (w : WW) : Prop where
  nd : w.1.Nodup
  lt : ∀ x ∈ w.1, x < N
  ne : w.1 ≠ []
theorem incs_nodup (ok : OkE N E) : ((incs E w).map (·.2)).Nodup := by
  unfold incs List.Nodup
  rw [List.pairwise_map, List.pairwise_filterMap]
  have h := ok.nd
  unfold List.Nodup at h
  rw [List.pairwise_map] at h
  refine h.imp_of_mem fun {e f} he hf hne p hp q hq e2 => hne ?_
  have h1 := ok.lt e he
  have h2 := ok.lt f hf
  obtain ⟨l, a, b⟩ := e
  obtain ⟨m, c, d⟩ := f
  unfold inc at hp hq
  simp only at hp hq h1 h2 ⊢
  split at hp
  · split at hq
    · cases hp; cases hq; simp only at e2; simp; omega
    · split at hq
      · cases hp; cases hq; simp only at e2; omega
      · cases hq
  · split at hp
    · split at hq
      · cases hp; cases hq; simp only at e2; omega
      · split at hq
        · cases hp; cases hq; simp only at e2; simp; omega
        · cases hq
    · cases hp
theorem nodup_bound : ∀ {l : List Nat} {N : Nat}, l.Nodup → (∀ x ∈ l, x < N) → l.length ≤ N := fun {l N} h1 h2 => by
  have : l.length ≤ (List.range N).length := List.Nodup.length_le_of_subset h1 fun x hx => List.mem_range.mpr (h2 x hx)
  simpa using this
theorem incs_lt (ok : OkE N E) {p : Bool × Nat} (h : p ∈ incs E w) : p.2 < N := by
  rcases (mem_incs ok).mp h with h | h
  · have := ok.lt _ h; simp only at this; omega
  · have := ok.lt _ h; simp only at this; omega
theorem push_ok (ok : OkE N E) (hw : Okw N w) (h : u ∈ pushes E w) : Okw N u := by
  obtain ⟨p, hp, h1, h2, rfl⟩ := push_mem h
  refine ⟨?_, fun x hx => ?_, by simp⟩
  · simp only
    rw [List.nodup_append]
    exact ⟨hw.nd, by simp, fun a ha b hb e => h1 (by rw [← List.mem_singleton.mp hb, ← e]; exact ha)⟩
  · rcases List.mem_append.mp hx with hx | hx
    · exact hw.lt x hx
    · rw [List.mem_singleton.mp hx]; exact incs_lt ok hp
theorem push_count (ok : OkE N E) (hw : Okw N w) : (pushes E w).length + w.1.length ≤ N := by
  have h1 : (pushes E w).length = ((incs E w).filter fun p => decide (p.2 ∉ w.1 ∧ headN w.1 < p.2)).length := by
    unfold pushes
    generalize incs E w = l
    induction l with
    | nil => rfl
    | cons p l ih =>
      rw [List.filterMap_cons, List.filter_cons]
      by_cases c : p.2 ∉ w.1 ∧ headN w.1 < p.2
      · simp [pushE, c, ih]
      · simp [pushE, c, ih]
  have hnd := incs_nodup (w := w) ok
  have h2 : (((incs E w).filter fun p => decide (p.2 ∉ w.1 ∧ headN w.1 < p.2)).map (·.2) ++ w.1).Nodup := by
    rw [List.nodup_append]
    refine ⟨hnd.sublist ((List.filter_sublist).map _), hw.nd, fun a ha b hb e => ?_⟩
    obtain ⟨p, hp, rfl⟩ := List.mem_map.mp ha
    have := (List.mem_filter.mp hp).2
    simp only [decide_eq_true_eq] at this
    exact this.1 (by rw [e]; exact hb)
  have h3 := nodup_bound h2 (N := N) fun x hx => by
    rcases List.mem_append.mp hx with hx | hx
    · obtain ⟨p, hp, rfl⟩ := List.mem_map.mp hx
      exact incs_lt ok (List.mem_filter.mp hp).1
    · exact hw.lt x hx
  rw [List.length_append, List.length_map] at h3
  omega
theorem push_wt (ok : OkE N E) (hw : Okw N w) : wts N (pushes E w) + 1 ≤ wt N w := by
  have hc := push_count ok hw
  have h1 : wts N (pushes E w) = (pushes E w).length * Tn (N - (w.1.length + 1)) := by
    have : ∀ l : List WW, (∀ u ∈ l, u.1.length = w.1.length + 1) → wts N l = l.length * Tn (N - (w.1.length + 1)) := fun l hl => by
      induction l with
      | nil => simp [wts]
      | cons u l ih =>
        rw [wts_cons, ih fun x hx => hl x (List.mem_cons_of_mem _ hx), List.length_cons, Nat.add_mul, Nat.one_mul, Nat.add_comm]
        unfold wt
        rw [hl u List.mem_cons_self]
    exact this _ fun u hu => push_len hu
  rw [h1]
  unfold wt
  cases h : N - w.1.length with
  | zero =>
    have : (pushes E w).length = 0 := by omega
    rw [this]
    simp [Tn]
  | succ m =>
    have e : N - (w.1.length + 1) = m := by omega
    have e2 : (pushes E w).length ≤ m + 1 := by omega
    rw [e]
    have e3 : Tn (m + 1) = 1 + (m + 1) * Tn m := rfl
    have := Nat.mul_le_mul_right (Tn m) e2
    omega
def Srt (q : List WW) : Prop := ∃ (k : Nat) (a b : List WW), q = a ++ b ∧ (∀ w ∈ a, w.1.length = k) ∧ ∀ w ∈ b, w.1.length = k + 1
theorem srt_head {q : List WW} (h : Srt (w :: q)) : (∀ u ∈ q, w.1.length ≤ u.1.length) ∧ (∀ l : List WW, (∀ u ∈ l, u.1.length = w.1.length + 1) → Srt (q ++ l)) := by
  obtain ⟨k, a, b, h1, h2, h3⟩ := h
  cases a with
  | nil =>
    rw [List.nil_append] at h1
    subst h1
    have hw := h3 w List.mem_cons_self
    refine ⟨fun u hu => ?_, fun l hl => ⟨k + 1, q, l, rfl, fun u hu => h3 u (List.mem_cons_of_mem _ hu), fun u hu => by rw [hl u hu, hw]⟩⟩
    rw [hw, h3 u (List.mem_cons_of_mem _ hu)]; exact Nat.le_refl _
  | cons x a =>
    rw [List.cons_append] at h1
    cases h1
    have hw := h2 w List.mem_cons_self
    refine ⟨fun u hu => ?_, fun l hl => ⟨k, a, b ++ l, by rw [List.append_assoc], fun u hu => h2 u (List.mem_cons_of_mem _ hu), fun u hu => ?_⟩⟩
    · rcases List.mem_append.mp hu with hu | hu
      · rw [hw, h2 u (List.mem_cons_of_mem _ hu)]; exact Nat.le_refl _
      · rw [hw, h3 u hu]; omega
    · rcases List.mem_append.mp hu with hu | hu
      · exact h3 u hu
      · rw [hl u hu, hw]
theorem bfs_min (ok : OkE N E) : ∀ {n : Nat} {q : List WW} {w v : WW}, Srt q → (∀ u ∈ q, Okw N u) → wts N q ≤ n → w ∈ q → From E w v → closable E v = true → ∃ r, bfs E n q = some r ∧ r.length ≤ v.1.length
  | 0, q, w, v, _, _, hn, hw, _, _ => by
    have := len_wts (N := N) q
    have := List.length_pos_of_mem hw
    omega
  | n + 1, [], w, v, _, _, _, hw, _, _ => by cases hw
  | n + 1, x :: q, w, v, hs, ho, hn, hw, hf, hc => by
    obtain ⟨s1, s2⟩ := srt_head hs
    unfold bfs
    by_cases c : closable E x = true
    · rw [if_pos c]
      refine ⟨_, rfl, ?_⟩
      have := from_len hf
      rcases List.mem_cons.mp hw with rfl | hw
      · exact this
      · have := s1 w hw; omega
    · rw [if_neg c]
      have hxo := ho x List.mem_cons_self
      have hw' : wts N (q ++ pushes E x) ≤ n := by
        have := push_wt ok hxo
        rw [wts_append]
        rw [wts_cons] at hn
        omega
      have ho' : ∀ u ∈ q ++ pushes E x, Okw N u := fun u hu => by
        rcases List.mem_append.mp hu with hu | hu
        · exact ho u (List.mem_cons_of_mem _ hu)
        · exact push_ok ok hxo hu
      have hs' := s2 (pushes E x) fun u hu => push_len hu
      rcases List.mem_cons.mp hw with rfl | hw
      · cases hf with
        | refl => exact absurd hc c
        | step h1 h2 => exact bfs_min ok hs' ho' hw' (List.mem_append_right _ h1) h2 hc
      · exact bfs_min ok hs' ho' hw' (List.mem_append_left _ hw) hf hc
/-! ### walks, rings -/
inductive Wk (E : List Edge) : List Nat → List Bool → Prop
  | one (a : Nat) : Wk E [a] []
  | cons {l : Bool} {a b : Nat} {r : List Nat} {ls : List Bool} : Ed E l a b → Wk E (b :: r) ls → Wk E (a :: b :: r) (l :: ls)
theorem Wk.app {u : List Nat} {x : Nat} {l1 : List Bool} : ∀ {v : List Nat} {l2 : List Bool}, Wk E (u ++ [x]) l1 → Wk E (x :: v) l2 → Wk E (u ++ x :: v) (l1 ++ l2) := by
  induction u generalizing l1 with
  | nil =>
    intro v l2 h1 h2
    cases h1
    exact h2
  | cons a u ih =>
    intro v l2 h1 h2
    cases u with
    | nil =>
      cases h1 with
      | cons e h =>
        cases h
        exact .cons e h2
    | cons b u =>
      cases h1 with
      | cons e h => exact .cons e (ih h h2)
theorem Wk.split {x : Nat} {v : List Nat} : ∀ {u : List Nat} {ls : List Bool}, Wk E (u ++ x :: v) ls → ∃ l1 l2, ls = l1 ++ l2 ∧ Wk E (u ++ [x]) l1 ∧ Wk E (x :: v) l2
  | [], ls, h => ⟨[], ls, rfl, .one x, h⟩
  | a :: u, ls, h => by
    cases u with
    | nil =>
      cases h with
      | @cons l _ _ _ ls e h => exact ⟨[l], ls, rfl, .cons e (.one x), h⟩
    | cons b u =>
      cases h with
      | @cons l _ _ _ ls e h =>
        obtain ⟨l1, l2, h1, h2, h3⟩ := Wk.split (u := b :: u) h
        exact ⟨l :: l1, l2, by rw [h1]; rfl, .cons e h2, h3⟩
structure Ring (E : List Edge) (f : List Nat) (ls : List Bool) : Prop where
  len : 3 ≤ f.length
  nd : f.Nodup
  wk : Wk E (f ++ [headN f]) ls
  s : true ∈ ls
  c : false ∈ ls
theorem head_cons {a : Nat} {r : List Nat} : headN (a :: r) = a := rfl
theorem last_snoc {r : List Nat} {a : Nat} : lastN (r ++ [a]) = a := by unfold lastN; simp
theorem Ring.rot {a b : Nat} {A B : List Nat} {ls : List Bool} (h : Ring E (a :: A ++ b :: B) ls) : ∃ ls', Ring E (b :: B ++ a :: A) ls' := by
  obtain ⟨h1, h2, h3, h4, h5⟩ := h
  have h3' : Wk E (a :: A ++ b :: (B ++ [a])) ls := by
    have : headN (a :: A ++ b :: B) = a := rfl
    rw [this] at h3
    rw [List.append_assoc] at h3
    exact h3
  obtain ⟨l1, l2, e, g1, g2⟩ := Wk.split h3'
  refine ⟨l2 ++ l1, by simp at h1 ⊢; omega, (List.perm_append_comm.nodup_iff).mp h2, ?_, ?_, ?_⟩
  · have : headN (b :: B ++ a :: A) = b := rfl
    rw [this, List.append_assoc]
    exact Wk.app (u := b :: B) (x := a) (v := A ++ [b]) g2 g1
  · rw [e] at h4
    simp only [List.mem_append] at h4 ⊢
    exact h4.symm
  · rw [e] at h5
    simp only [List.mem_append] at h5 ⊢
    exact h5.symm
theorem least_in : ∀ (f : List Nat), f ≠ [] → ∃ m ∈ f, ∀ x ∈ f, m ≤ x
  | [], h => absurd rfl h
  | [a], _ => ⟨a, List.mem_cons_self, fun x hx => by rw [List.mem_singleton.mp hx]; exact Nat.le_refl _⟩
  | a :: b :: r, _ => by
    obtain ⟨m, h1, h2⟩ := least_in (b :: r) (by simp)
    by_cases c : a ≤ m
    · refine ⟨a, List.mem_cons_self, fun x hx => ?_⟩
      rcases List.mem_cons.mp hx with rfl | hx
      · exact Nat.le_refl _
      · have := h2 x hx; omega
    · refine ⟨m, List.mem_cons_of_mem _ h1, fun x hx => ?_⟩
      rcases List.mem_cons.mp hx with rfl | hx
      · omega
      · exact h2 x hx
theorem Ring.low {f : List Nat} {ls : List Bool} (h : Ring E f ls) : ∃ f' ls', Ring E f' ls' ∧ f'.length = f.length ∧ ∀ x ∈ f', headN f' ≤ x := by
  obtain ⟨m, h1, h2⟩ := least_in f (fun e => by have := h.len; rw [e] at this; simp at this)
  obtain ⟨A, B, rfl⟩ := List.append_of_mem h1
  cases A with
  | nil => exact ⟨_, ls, h, rfl, h2⟩
  | cons a A =>
    obtain ⟨ls', h'⟩ := h.rot
    refine ⟨_, ls', h', by simp; omega, fun x hx => ?_⟩
    show m ≤ x
    refine h2 x ?_
    rcases List.mem_append.mp hx with hx | hx
    · exact List.mem_append_right _ hx
    · exact List.mem_append_left _ hx
theorem from_walk (ok : OkE N E) {a : Nat} : ∀ (r : List Nat) (w : WW) (ls : List Bool), Wk E (lastN w.1 :: (r ++ [a])) ls → (w.1 ++ r).Nodup → (∀ x ∈ r, headN w.1 < x) → w.1 ≠ [] → ∃ v, From E w v ∧ v.1 = w.1 ++ r ∧ ∃ l, Ed E l (lastN v.1) a ∧ v.2 ++ [l] = w.2 ++ ls
  | [], w, ls, h, _, _, _ => by
    cases h with
    | @cons l _ _ _ ls e h =>
      cases h
      exact ⟨w, .refl w, by simp, l, e, rfl⟩
  | b :: r, w, ls, h, hn, hx, hne => by
    cases h with
    | @cons l _ _ _ ls e h =>
      have hb : b ∉ w.1 := fun q => by
        rw [List.nodup_append] at hn
        exact hn.2.2 b q b List.mem_cons_self rfl
      have hu : (w.1 ++ [b], w.2 ++ [l]) ∈ pushes E w := by
        unfold pushes
        rw [List.mem_filterMap]
        refine ⟨(l, b), (mem_incs ok).mpr e, ?_⟩
        unfold pushE
        rw [if_pos ⟨hb, hx b List.mem_cons_self⟩]
      have hh : headN (w.1 ++ [b]) = headN w.1 := by
        cases hw : w.1 with
        | nil => exact absurd hw hne
        | cons y ys => rfl
      obtain ⟨v, h1, h2, l', h3, h4⟩ := from_walk ok r (w.1 ++ [b], w.2 ++ [l]) ls (by rw [last_snoc]; exact h) (by simpa using hn) (fun x hr => by rw [hh]; exact hx x (List.mem_cons_of_mem _ hr)) (by simp)
      exact ⟨v, .step hu h1, by rw [h2]; simp, l', h3, by rw [h4]; simp⟩
theorem ring_close (ok : OkE N E) {f : List Nat} {ls : List Bool} (h : Ring E f ls) (hm : ∀ x ∈ f, headN f ≤ x) : ∃ v, From E ([headN f], []) v ∧ closable E v = true ∧ v.1 = f := by
  obtain ⟨h1, h2, h3, h4, h5⟩ := h
  cases f with
  | nil => simp at h1
  | cons a r =>
    have ha : headN (a :: r) = a := rfl
    rw [ha] at h3 hm ⊢
    obtain ⟨v, g1, g2, l, g3, g4⟩ := from_walk ok (a := a) r ([a], []) ls h3 h2 (fun x hx => by
      have := hm x (List.mem_cons_of_mem _ hx)
      have hne : a ≠ x := fun e => by rw [List.nodup_cons] at h2; exact h2.1 (by rw [e]; exact hx)
      show a < x
      omega) (by simp)
    have e : v.1 = a :: r := g2
    refine ⟨v, g1, ?_, e⟩
    unfold closable
    rw [List.any_eq_true]
    refine ⟨(l, a), (mem_incs ok).mpr g3, ?_⟩
    unfold closesE
    have g4' : v.2 ++ [l] = ls := g4
    have hl : 2 < v.1.length := by rw [e]; omega
    have hh : a = headN v.1 := by rw [e]; rfl
    simp only [g4', h4, h5, hl, decide_true, Bool.and_true, decide_eq_true_eq]
    exact hh
structure Gd (E : List Edge) (a : Nat) (w : WW) : Prop where
  nd : w.1.Nodup
  hd : ∃ r, w.1 = a :: r ∧ ∀ x ∈ r, a < x
  wk : Wk E w.1 w.2
theorem wk_snoc {x y : Nat} {l : Bool} {u : List Nat} {ls : List Bool} (h : Wk E (u ++ [x]) ls) (e : Ed E l x y) : Wk E (u ++ [x] ++ [y]) (ls ++ [l]) := by
  rw [List.append_assoc]
  exact Wk.app h (.cons e (.one y))
theorem wk_snoc' {w : List Nat} {y : Nat} {l : Bool} {ls : List Bool} (hne : w ≠ []) (h : Wk E w ls) (e : Ed E l (lastN w) y) : Wk E (w ++ [y]) (ls ++ [l]) := by
  rcases List.eq_nil_or_concat w with rfl | ⟨u, x, hx⟩
  · exact absurd rfl hne
  · subst hx
    rw [List.concat_eq_append] at h e ⊢
    rw [last_snoc] at e
    exact wk_snoc h e
theorem Gd.push (ok : OkE N E) {a : Nat} (g : Gd E a w) (h : u ∈ pushes E w) : Gd E a u := by
  obtain ⟨p, hp, h1, h2, rfl⟩ := push_mem h
  obtain ⟨r, hr, hlt⟩ := g.hd
  have hh : headN w.1 = a := by rw [hr]; rfl
  refine ⟨?_, ⟨r ++ [p.2], by simp only; rw [hr]; rfl, fun x hx => ?_⟩, ?_⟩
  · simp only
    rw [List.nodup_append]
    exact ⟨g.nd, by simp, fun y hy b hb e => h1 (by rw [← List.mem_singleton.mp hb, ← e]; exact hy)⟩
  · rcases List.mem_append.mp hx with hx | hx
    · exact hlt x hx
    · rw [List.mem_singleton.mp hx]; omega
  · exact wk_snoc' (by rw [hr]; simp) g.wk ((mem_incs ok).mp hp)
theorem from_good (ok : OkE N E) {a : Nat} (h : From E w v) (g : Gd E a w) : Gd E a v := by
  induction h with
  | refl => exact g
  | step h1 _ ih => exact ih (g.push ok h1)
theorem close_ring (ok : OkE N E) {a : Nat} (h : From E ([a], []) v) (hc : closable E v = true) : ∃ ls, Ring E v.1 ls ∧ headN v.1 = a ∧ ∀ x ∈ v.1, headN v.1 ≤ x := by
  have g := from_good ok h ⟨by simp, ⟨[], rfl, by simp⟩, .one a⟩
  obtain ⟨r, hr, hlt⟩ := g.hd
  have hh : headN v.1 = a := by rw [hr]; rfl
  unfold closable at hc
  rw [List.any_eq_true] at hc
  obtain ⟨p, hp, hc⟩ := hc
  unfold closesE at hc
  simp only [Bool.and_eq_true, decide_eq_true_eq] at hc
  obtain ⟨c1, c2, c3, c4⟩ := hc
  refine ⟨v.2 ++ [p.1], ⟨by omega, g.nd, ?_, c3, c4⟩, hh, fun x hx => ?_⟩
  · rw [← c1]
    exact wk_snoc' (by rw [hr]; simp) g.wk ((mem_incs ok).mp hp)
  · rw [hh]
    rw [hr] at hx
    rcases List.mem_cons.mp hx with rfl | hx
    · exact Nat.le_refl _
    · have := hlt x hx; omega
/-! ### the whole search -/
def start (N : Nat) : List WW := (List.range N).map fun a => ([a], [])
def mixedV (E : List Edge) (N : Nat) : Option (List Nat) := bfs E 2000000 (start N)
theorem start_wts (h : N ≤ 9) : wts N (start N) ≤ 1000000 := by
  have e : wts N (start N) = N * Tn (N - 1) := by
    unfold wts start
    rw [List.map_map]
    have : ((wt N) ∘ fun a => (([a], []) : WW)) = fun _ => Tn (N - 1) := rfl
    rw [this]
    have : ∀ m, ((List.range m).map fun _ => Tn (N - 1)).sum = m * Tn (N - 1) := fun m => by
      induction m with
      | zero => simp
      | succ m ih => rw [List.range_succ, List.map_append, List.sum_append, ih, Nat.add_mul]; simp
    exact this N
  rw [e]
  have hN : N = 0 ∨ N = 1 ∨ N = 2 ∨ N = 3 ∨ N = 4 ∨ N = 5 ∨ N = 6 ∨ N = 7 ∨ N = 8 ∨ N = 9 := by omega
  rcases hN with rfl | rfl | rfl | rfl | rfl | rfl | rfl | rfl | rfl | rfl <;> decide
theorem start_srt : Srt (start N) := ⟨1, start N, [], by simp, fun w hw => by
  obtain ⟨a, _, rfl⟩ := List.mem_map.mp hw
  rfl, by simp⟩
theorem start_ok : ∀ u ∈ start N, Okw N u := fun u hu => by
  obtain ⟨a, ha, rfl⟩ := List.mem_map.mp hu
  have := List.mem_range.mp ha
  exact ⟨by simp, fun x hx => by rw [List.mem_singleton.mp hx]; exact this, by simp⟩
theorem wk_lt (ok : OkE N E) {f : List Nat} {ls : List Bool} (h : Wk E f ls) (h2 : 2 ≤ f.length) : ∀ x ∈ f, x < N := by
  induction h with
  | one => simp at h2
  | @cons l a b r ls e h ih =>
    have hab : a < N ∧ b < N := by
      rcases e with e | e
      · have := ok.lt _ e; simp only at this; omega
      · have := ok.lt _ e; simp only at this; omega
    intro x hx
    rcases List.mem_cons.mp hx with rfl | hx
    · exact hab.1
    · cases r with
      | nil => rw [List.mem_singleton.mp hx]; exact hab.2
      | cons y r => exact ih (by simp) x hx
/-- a ring is found, the shortest -/
theorem mixed_min (ok : OkE N E) (hN : N ≤ 9) {f : List Nat} {ls : List Bool} (h : Ring E f ls) : ∃ r, mixedV E N = some r ∧ r.length ≤ f.length := by
  obtain ⟨f', ls', h', hl, hm⟩ := h.low
  obtain ⟨v, h1, h2, h3⟩ := ring_close ok h' hm
  have hlt : headN f' < N := wk_lt ok h'.wk (by have := h'.len; simp; omega) _ (by simp)
  obtain ⟨r, g1, g2⟩ := bfs_min ok (n := 2000000) start_srt start_ok (by have := start_wts hN; omega) (List.mem_map.mpr ⟨headN f', List.mem_range.mpr hlt, rfl⟩) h1 h2
  exact ⟨r, g1, by rw [h3, hl] at g2; exact g2⟩
theorem mixed_ring (ok : OkE N E) {r : List Nat} (h : mixedV E N = some r) : ∃ ls, Ring E r ls ∧ ∀ x ∈ r, headN r ≤ x := by
  obtain ⟨w, hw, v, h1, h2, h3⟩ := bfs_sound h
  obtain ⟨a, _, rfl⟩ := List.mem_map.mp hw
  obtain ⟨ls, g1, _, g3⟩ := close_ring ok h1 h2
  rw [h3] at g1 g3
  exact ⟨ls, g1, g3⟩
end
end DL

/-! PR2: pieces of programs, finer cuts. -/
namespace DL
open PySem PySem.Spec PyProof.Rows L2

/-! ### rings of what is finer -/
section
variable {E E' : List Edge} {Fn : Nat → Nat → Prop}
theorem lift_walk (F2 : ∀ i i' j, Fn i j → Fn i' j → i = i') (F3 : ∀ i j j', Fn i j → Fn i j' → j ≠ j' → Ed E' true j j') (F4 : ∀ l i i', Ed E l i i' → ∃ j j', Fn i j ∧ Fn i' j' ∧ Ed E' l j j') :
    ∀ (r : List Nat) (c : Nat) (ls : List Bool), Wk E (c :: r) ls → (c :: r).Nodup → ∀ z, Fn c z → ∃ g0 e gs, Wk E' (g0 ++ [e]) gs ∧ headN (g0 ++ [e]) = z ∧ (g0 ++ [e]).Nodup ∧ Fn (lastN (c :: r)) e ∧ (∀ x ∈ g0, ∃ i ∈ (c :: r).dropLast, Fn i x) ∧ (∀ b ∈ ls, b ∈ gs) ∧ (c :: r).length ≤ (g0 ++ [e]).length
  | [], c, ls, h, _, z, hz => by
    cases h
    exact ⟨[], z, [], .one z, rfl, by simp, hz, by simp, by simp, by simp⟩
  | d :: r, c, ls, h, hn, z, hz => by
    cases h with
    | @cons l _ _ _ ls e h =>
      obtain ⟨y, x, hy, hx, hyx⟩ := F4 _ _ _ e
      have hn' := hn
      rw [List.nodup_cons] at hn
      obtain ⟨g0, t, gs, h1, h2, h3, h4, h5, h6, h7⟩ := lift_walk F2 F3 F4 r d ls h hn.2 x hx
      have hsub : ∀ u ∈ g0 ++ [t], ∃ i ∈ d :: r, Fn i u := fun u hu => by
        rcases List.mem_append.mp hu with hu | hu
        · obtain ⟨i, hi, hf⟩ := h5 u hu
          exact ⟨i, List.dropLast_subset _ hi, hf⟩
        · rw [List.mem_singleton.mp hu]
          refine ⟨_, ?_, h4⟩
          unfold lastN
          cases hg : (d :: r).getLast? with
          | none => simp at hg
          | some w => exact List.mem_of_getLast? hg
      have hnot : ∀ u, Fn c u → u ∉ g0 ++ [t] := fun u hu q => by
        obtain ⟨i, hi, hf⟩ := hsub u q
        exact hn.1 (by rw [F2 c i u hu hf]; exact hi)
      have hlast : lastN (c :: d :: r) = lastN (d :: r) := by unfold lastN; rw [List.getLast?_cons_cons]
      have hdl : (c :: d :: r).dropLast = c :: (d :: r).dropLast := rfl
      obtain ⟨g', hg'⟩ : ∃ g', g0 ++ [t] = x :: g' := by
        cases hg : g0 ++ [t] with
        | nil => simp at hg
        | cons a g' => rw [hg] at h2; exact ⟨g', by rw [← h2]; rfl⟩
      by_cases q : y = z
      · subst q
        refine ⟨y :: g0, t, l :: gs, ?_, rfl, ?_, by rw [hlast]; exact h4, ?_, ?_, ?_⟩
        · rw [List.cons_append, hg']
          rw [hg'] at h1
          exact .cons hyx h1
        · rw [List.cons_append, List.nodup_cons]
          exact ⟨hnot y hy, h3⟩
        · intro u hu
          rw [hdl]
          rcases List.mem_cons.mp hu with rfl | hu
          · exact ⟨c, List.mem_cons_self, hy⟩
          · obtain ⟨i, hi, hf⟩ := h5 u hu
            exact ⟨i, List.mem_cons_of_mem _ hi, hf⟩
        · intro b hb
          rcases List.mem_cons.mp hb with rfl | hb
          · exact List.mem_cons_self
          · exact List.mem_cons_of_mem _ (h6 b hb)
        · simp only [List.length_cons, List.cons_append] at h7 ⊢
          omega
      · refine ⟨z :: y :: g0, t, true :: l :: gs, ?_, rfl, ?_, by rw [hlast]; exact h4, ?_, ?_, ?_⟩
        · rw [List.cons_append, List.cons_append, hg']
          rw [hg'] at h1
          exact .cons (F3 c z y hz hy (fun e => q e.symm)) (.cons hyx h1)
        · rw [List.cons_append, List.cons_append, List.nodup_cons, List.nodup_cons]
          refine ⟨fun hm => ?_, hnot y hy, h3⟩
          rcases List.mem_cons.mp hm with e | hm
          · exact q e.symm
          · exact hnot z hz hm
        · intro u hu
          rw [hdl]
          rcases List.mem_cons.mp hu with rfl | hu
          · exact ⟨c, List.mem_cons_self, hz⟩
          · rcases List.mem_cons.mp hu with rfl | hu
            · exact ⟨c, List.mem_cons_self, hy⟩
            · obtain ⟨i, hi, hf⟩ := h5 u hu
              exact ⟨i, List.mem_cons_of_mem _ hi, hf⟩
        · intro b hb
          rcases List.mem_cons.mp hb with rfl | hb
          · exact List.mem_cons_of_mem _ List.mem_cons_self
          · exact List.mem_cons_of_mem _ (List.mem_cons_of_mem _ (h6 b hb))
        · simp only [List.length_cons, List.cons_append] at h7 ⊢
          omega
theorem lift_ring (F2 : ∀ i i' j, Fn i j → Fn i' j → i = i') (F3 : ∀ i j j', Fn i j → Fn i j' → j ≠ j' → Ed E' true j j') (F4 : ∀ l i i', Ed E l i i' → ∃ j j', Fn i j ∧ Fn i' j' ∧ Ed E' l j j') {f : List Nat} {ls : List Bool} (h : Ring E f ls) : ∃ f' ls', Ring E' f' ls' := by
  obtain ⟨h1, h2, h3, h4, h5⟩ := h
  cases f with
  | nil => simp at h1
  | cons c r =>
    have hr : r ≠ [] := fun e => by rw [e] at h1; simp at h1
    have hc : headN (c :: r) = c := rfl
    rw [hc] at h3
    obtain ⟨u, t, hut⟩ : ∃ u t, c :: r = u ++ [t] := ⟨(c :: r).dropLast, (c :: r).getLast (by simp), (List.dropLast_concat_getLast (by simp)).symm⟩
    rw [hut, List.append_assoc] at h3
    obtain ⟨l1, l2, e1, g1, g2⟩ := Wk.split (u := u) (x := t) (v := [c]) h3
    rw [← hut] at g1
    cases g2 with
    | @cons l _ _ _ l3 e2 g2 =>
      cases g2
      obtain ⟨y, x, hy, hx, hyx⟩ := F4 _ _ _ e2
      obtain ⟨g0, e, gs, k1, k2, k3, k4, k5, k6, k7⟩ := lift_walk F2 F3 F4 r c l1 g1 h2 x hx
      have hlast : lastN (c :: r) = t := by rw [hut, last_snoc]
      rw [hlast] at k4
      have hdl : (c :: r).dropLast = u := by rw [hut, List.dropLast_concat]
      rw [hdl] at k5
      have htu : t ∉ u := fun q => by
        rw [hut, List.nodup_append] at h2
        exact h2.2.2 t q t List.mem_cons_self rfl
      have hin : ∀ b ∈ ls, b ∈ gs ++ [l] := fun b hb => by
        rw [e1] at hb
        rcases List.mem_append.mp hb with hb | hb
        · exact List.mem_append_left _ (k6 b hb)
        · exact List.mem_append_right _ hb
      by_cases q : e = y
      · subst q
        refine ⟨g0 ++ [e], gs ++ [l], by omega, k3, ?_, hin _ h4, hin _ h5⟩
        rw [k2]
        exact wk_snoc k1 hyx
      · have hny : y ∉ g0 ++ [e] := fun hm => by
          rcases List.mem_append.mp hm with hm | hm
          · obtain ⟨i, hi, hf⟩ := k5 y hm
            exact htu (by rw [F2 t i y hy hf]; exact hi)
          · exact q (List.mem_singleton.mp hm).symm
        have hh : headN (g0 ++ [e] ++ [y]) = x := by
          rw [← k2]
          cases g0 <;> rfl
        refine ⟨g0 ++ [e] ++ [y], gs ++ [true] ++ [l], by simp at k7 h1 ⊢; omega, ?_, ?_, ?_, ?_⟩
        · rw [List.nodup_append]
          exact ⟨k3, by simp, fun a ha b hb e => hny (by rw [← List.mem_singleton.mp hb, ← e]; exact ha)⟩
        · rw [hh]
          exact wk_snoc (wk_snoc k1 (F3 t e y k4 hy q)) hyx
        · have := hin _ h4
          simp only [List.mem_append] at this ⊢
          rcases this with q | q
          · exact .inl (.inl q)
          · exact .inr q
        · have := hin _ h5
          simp only [List.mem_append] at this ⊢
          rcases this with q | q
          · exact .inl (.inl q)
          · exact .inr q
end
/-! ### programs, cuts, pieces -/
abbrev Prog := List (Bool × Int)
def sliceN {α : Type} (p : List α) (a b : Nat) : List α := (p.take b).drop a
theorem slice_mem {α : Type} {p : List α} {a b : Nat} {s : α} : s ∈ sliceN p a b ↔ ∃ j, a ≤ j ∧ j < b ∧ p[j]? = some s := by
  unfold sliceN
  rw [List.mem_iff_getElem?]
  constructor
  · rintro ⟨i, h⟩
    rw [List.getElem?_drop] at h
    have hlt : a + i < b := by
      have := (List.getElem?_eq_some_iff.mp h).1
      rw [List.length_take] at this
      omega
    rw [List.getElem?_take_of_lt hlt] at h
    exact ⟨a + i, by omega, hlt, h⟩
  · rintro ⟨j, h1, h2, h3⟩
    refine ⟨j - a, ?_⟩
    rw [List.getElem?_drop, show a + (j - a) = j by omega, List.getElem?_take_of_lt h2]
    exact h3
theorem slice_join {α : Type} {p : List α} {a b c : Nat} (h1 : a ≤ b) (h2 : b ≤ c) : sliceN p a b ++ sliceN p b c = sliceN p a c := by
  unfold sliceN
  apply List.ext_getElem?
  intro i
  by_cases hb : a + i < b
  · by_cases hl : a + i < p.length
    · rw [List.getElem?_append_left (by rw [List.length_drop, List.length_take]; omega), List.getElem?_drop, List.getElem?_drop, List.getElem?_take_of_lt hb, List.getElem?_take_of_lt (by omega)]
    · have e1 : ((p.take b).drop a ++ (p.take c).drop b).length ≤ i := by simp only [List.length_append, List.length_drop, List.length_take]; omega
      have e2 : ((p.take c).drop a).length ≤ i := by simp only [List.length_drop, List.length_take]; omega
      rw [List.getElem?_eq_none_iff.mpr e1, List.getElem?_eq_none_iff.mpr e2]
  · by_cases hl : b ≤ p.length
    · have e1 : ((p.take b).drop a).length = b - a := by rw [List.length_drop, List.length_take]; omega
      rw [List.getElem?_append_right (by omega), e1, List.getElem?_drop, List.getElem?_drop]
      congr 1
      omega
    · have e1 : ((p.take b).drop a ++ (p.take c).drop b).length ≤ i := by simp only [List.length_append, List.length_drop, List.length_take]; omega
      have e2 : ((p.take c).drop a).length ≤ i := by simp only [List.length_drop, List.length_take]; omega
      rw [List.getElem?_eq_none_iff.mpr e1, List.getElem?_eq_none_iff.mpr e2]
def adj : List Nat → List (Nat × Nat)
  | [] => []
  | [_] => []
  | a :: b :: r => (a, b) :: adj (b :: r)
theorem adj_zip : ∀ l : List Nat, l.zip l.tail = adj l
  | [] => rfl
  | [_] => rfl
  | a :: b :: r => by
    have := adj_zip (b :: r)
    show (a, b) :: (b :: r).zip r = _
    unfold adj
    rw [← this]
    rfl
theorem adj_mem : ∀ {l : List Nat} {p : Nat × Nat}, p ∈ adj l → p.1 ∈ l ∧ p.2 ∈ l
  | [], p, h => by cases h
  | [_], p, h => by cases h
  | a :: b :: r, p, h => by
    unfold adj at h
    rcases List.mem_cons.mp h with rfl | h
    · exact ⟨List.mem_cons_self, List.mem_cons_of_mem _ List.mem_cons_self⟩
    · obtain ⟨h1, h2⟩ := adj_mem h
      exact ⟨List.mem_cons_of_mem _ h1, List.mem_cons_of_mem _ h2⟩
theorem adj_lt : ∀ {l : List Nat} {p : Nat × Nat}, l.Pairwise (· < ·) → p ∈ adj l → p.1 < p.2
  | [], p, _, h => by cases h
  | [_], p, _, h => by cases h
  | a :: b :: r, p, hp, h => by
    rw [List.pairwise_cons] at hp
    unfold adj at h
    rcases List.mem_cons.mp h with rfl | h
    · exact hp.1 b List.mem_cons_self
    · exact adj_lt hp.2 h
theorem adj_sep : ∀ {l : List Nat} {p : Nat × Nat} {x : Nat}, l.Pairwise (· < ·) → p ∈ adj l → x ∈ l → x ≤ p.1 ∨ p.2 ≤ x
  | [], p, x, _, h, _ => by cases h
  | [_], p, x, _, h, _ => by cases h
  | a :: b :: r, p, x, hp, h, hx => by
    rw [List.pairwise_cons] at hp
    unfold adj at h
    rcases List.mem_cons.mp h with rfl | h'
    · rcases List.mem_cons.mp hx with rfl | hx
      · exact .inl (Nat.le_refl _)
      · rcases List.mem_cons.mp hx with rfl | hx
        · exact .inr (Nat.le_refl _)
        · have h2 := hp.2
          rw [List.pairwise_cons] at h2
          have := h2.1 x hx
          exact .inr (by simp only; omega)
    · rcases List.mem_cons.mp hx with rfl | hx
      · have := hp.1 p.1 (adj_mem (l := b :: r) h').1
        exact .inl (by omega)
      · exact adj_sep (l := b :: r) hp.2 h' hx
theorem adj_at : ∀ {l : List Nat} {j : Nat}, (∃ x ∈ l, x ≤ j) → (∃ y ∈ l, j < y) → l.Pairwise (· < ·) → ∃ p ∈ adj l, p.1 ≤ j ∧ j < p.2
  | [], j, ⟨x, hx, _⟩, _, _ => by cases hx
  | [a], j, ⟨x, hx, h1⟩, ⟨y, hy, h2⟩, _ => by
    rw [List.mem_singleton.mp hx] at h1
    rw [List.mem_singleton.mp hy] at h2
    omega
  | a :: b :: r, j, ⟨x, hx, h1⟩, ⟨y, hy, h2⟩, hp => by
    rw [List.pairwise_cons] at hp
    by_cases c : j < b
    · refine ⟨(a, b), List.mem_cons_self, ?_, c⟩
      rcases List.mem_cons.mp hx with rfl | hx
      · exact h1
      · have := hp.1 x hx; simp only; omega
    · obtain ⟨p, g1, g2⟩ := adj_at (l := b :: r) (j := j) ⟨b, List.mem_cons_self, by omega⟩ (by
        rcases List.mem_cons.mp hy with rfl | hy
        · have := hp.1 b List.mem_cons_self; omega
        · exact ⟨y, hy, h2⟩) hp.2
      exact ⟨p, List.mem_cons_of_mem _ g1, g2⟩
theorem adj_nodup : ∀ {l : List Nat}, l.Pairwise (· < ·) → (adj l).Nodup
  | [], _ => List.nodup_nil
  | [_], _ => List.nodup_nil
  | a :: b :: r, hp => by
    have hp' := hp
    rw [List.pairwise_cons] at hp
    unfold adj
    rw [List.nodup_cons]
    refine ⟨fun h => ?_, adj_nodup hp.2⟩
    have := hp.1 a (adj_mem h).1
    omega
def placesN {α : Type} (p : List α) (c : List Nat) : List Nat := 0 :: (c ++ [p.length])
structure OkCut {α : Type} (p : List α) (c : List Nat) : Prop where
  pw : c.Pairwise (· < ·)
  rg : ∀ x ∈ c, 0 < x ∧ x < p.length
theorem places_pw {α : Type} {p : List α} {c : List Nat} (h : OkCut p c) (hp : p ≠ []) : (placesN p c).Pairwise (· < ·) := by
  unfold placesN
  have hl : 0 < p.length := List.length_pos_iff.mpr hp
  rw [List.pairwise_cons, List.pairwise_append]
  refine ⟨fun x hx => ?_, h.pw, by simp, fun x hx y hy => ?_⟩
  · rcases List.mem_append.mp hx with hx | hx
    · exact (h.rg x hx).1
    · rw [List.mem_singleton.mp hx]; exact hl
  · rw [List.mem_singleton.mp hy]; exact (h.rg x hx).2
theorem places_nil {α : Type} {c : List Nat} (h : OkCut ([] : List α) c) : placesN ([] : List α) c = [0, 0] := by
  cases c with
  | nil => rfl
  | cons x r => have := h.rg x List.mem_cons_self; simp at this
abbrev Iv := Nat × Nat × Nat
def pAt (ps : List Prog) (k : Nat) : Prog := ps[k]?.getD []
def cAt (cs : List (List Nat)) (k : Nat) : List Nat := cs[k]?.getD []
def ivsAt (ps : List Prog) (cs : List (List Nat)) (k : Nat) : List Iv := (adj (placesN (pAt ps k) (cAt cs k))).map fun q => (k, q.1, q.2)
def ivs (ps : List Prog) (cs : List (List Nat)) : List Iv := (List.range ps.length).flatMap (ivsAt ps cs)
def pieceOf (ps : List Prog) (v : Iv) : Nat × Prog := (v.1 + 1, sliceN (pAt ps v.1) v.2.1 v.2.2)
def piecesV (ps : List Prog) (cs : List (List Nat)) : List (Nat × Prog) := (ivs ps cs).map (pieceOf ps)
def OkCuts (ps : List Prog) (cs : List (List Nat)) : Prop := ∀ k < ps.length, OkCut (pAt ps k) (cAt cs k)
def meetsV (p q : Prog) : Bool := (List.range 4).any fun (key : Nat) => (p.any fun s => decide (s.2 = (key : Int))) && ((q.any fun s => decide (s.2 = (key : Int))) && ((p ++ q).any fun s => decide (s.2 = (key : Int)) && s.1))
def joinV (x y : Nat × Prog) : Option Bool := if x.1 = y.1 then some true else if meetsV x.2 y.2 = true then some false else none
def rowE (P : List (Nat × Prog)) (b : Nat) : List Edge := (List.range b).filterMap fun a => match P[a]?, P[b]? with
  | some x, some y => (joinV x y).map fun l => (l, a, b)
  | _, _ => none
def edgesV (P : List (Nat × Prog)) : List Edge := (List.range P.length).flatMap (rowE P)
theorem meets_comm (p q : Prog) : meetsV p q = meetsV q p := by
  unfold meetsV
  congr 1
  funext key
  rw [List.any_append, List.any_append]
  cases p.any fun s => decide (s.2 = (key : Int)) <;> cases q.any fun s => decide (s.2 = (key : Int)) <;> simp [Bool.or_comm]
theorem join_comm (x y : Nat × Prog) : joinV x y = joinV y x := by
  unfold joinV
  rw [meets_comm]
  by_cases h : x.1 = y.1
  · rw [if_pos h, if_pos h.symm]
  · rw [if_neg h, if_neg (show ¬ y.1 = x.1 from fun e => h e.symm)]
theorem mem_rowE {P : List (Nat × Prog)} {b : Nat} {e : Edge} : e ∈ rowE P b ↔ e.2.1 < b ∧ e.2.2 = b ∧ ∃ x y, P[e.2.1]? = some x ∧ P[b]? = some y ∧ joinV x y = some e.1 := by
  unfold rowE
  rw [List.mem_filterMap]
  constructor
  · rintro ⟨a, ha, h⟩
    have ha := List.mem_range.mp ha
    split at h
    · rename_i x y hx hy
      obtain ⟨l, h1, rfl⟩ := Option.map_eq_some_iff.mp h
      exact ⟨ha, rfl, x, y, hx, hy, h1⟩
    · cases h
  · obtain ⟨l, a, b'⟩ := e
    rintro ⟨h1, h2, x, y, hx, hy, hj⟩
    simp only at h1 h2 hx hj
    subst h2
    refine ⟨a, List.mem_range.mpr h1, ?_⟩
    rw [hx, hy]
    simp only [hj, Option.map_some]
theorem mem_edges {P : List (Nat × Prog)} {l : Bool} {a b : Nat} : (l, a, b) ∈ edgesV P ↔ a < b ∧ b < P.length ∧ ∃ x y, P[a]? = some x ∧ P[b]? = some y ∧ joinV x y = some l := by
  unfold edgesV
  rw [List.mem_flatMap]
  constructor
  · rintro ⟨c, hc, h⟩
    obtain ⟨h1, h2, h3⟩ := mem_rowE.mp h
    simp only at h1 h2 h3
    subst h2
    exact ⟨h1, List.mem_range.mp hc, h3⟩
  · rintro ⟨h1, h2, h3⟩
    exact ⟨b, List.mem_range.mpr h2, mem_rowE.mpr ⟨h1, rfl, h3⟩⟩
theorem edges_ok (P : List (Nat × Prog)) : OkE P.length (edgesV P) where
  lt := by
    rintro ⟨l, a, b⟩ h
    obtain ⟨h1, h2, _⟩ := mem_edges.mp h
    exact ⟨h1, h2⟩
  nd := by
    unfold List.Nodup edgesV
    rw [List.pairwise_map, List.pairwise_flatMap]
    refine ⟨fun b hb => ?_, ?_⟩
    · unfold rowE
      rw [List.pairwise_filterMap]
      refine List.nodup_range.imp_of_mem fun {x y} hx hy hxy e he f hf q => hxy ?_
      split at he
      · obtain ⟨_, _, rfl⟩ := Option.map_eq_some_iff.mp he
        split at hf
        · obtain ⟨_, _, rfl⟩ := Option.map_eq_some_iff.mp hf
          exact (Prod.mk.inj q).1
        · cases hf
      · cases he
    · refine List.nodup_range.imp fun {x y} hxy e he f hf q => hxy ?_
      have h1 := (mem_rowE.mp he).2.1
      have h2 := (mem_rowE.mp hf).2.1
      rw [← h1, ← h2, q]
theorem ed_edges {P : List (Nat × Prog)} {l : Bool} {a b : Nat} : Ed (edgesV P) l a b ↔ a ≠ b ∧ ∃ x y, P[a]? = some x ∧ P[b]? = some y ∧ joinV x y = some l := by
  unfold Ed
  rw [mem_edges, mem_edges]
  constructor
  · rintro (⟨h1, _, h3⟩ | ⟨h1, _, x, y, hx, hy, hj⟩)
    · exact ⟨by omega, h3⟩
    · exact ⟨by omega, y, x, hy, hx, by rw [join_comm]; exact hj⟩
  · rintro ⟨h1, x, y, hx, hy, hj⟩
    have ha := (List.getElem?_eq_some_iff.mp hx).1
    have hb := (List.getElem?_eq_some_iff.mp hy).1
    rcases Nat.lt_or_gt_of_ne h1 with h | h
    · exact .inl ⟨h, hb, x, y, hx, hy, hj⟩
    · exact .inr ⟨h, ha, y, x, hy, hx, by rw [join_comm]; exact hj⟩
/-! ### finer cuts -/
section
variable {ps : List Prog} {cs ds : List (List Nat)}
theorem mem_ivs {v : Iv} : v ∈ ivs ps cs ↔ v.1 < ps.length ∧ v.2 ∈ adj (placesN (pAt ps v.1) (cAt cs v.1)) := by
  unfold ivs
  rw [List.mem_flatMap]
  constructor
  · rintro ⟨k, hk, h⟩
    obtain ⟨q, hq, rfl⟩ := List.mem_map.mp h
    exact ⟨List.mem_range.mp hk, hq⟩
  · rintro ⟨h1, h2⟩
    exact ⟨v.1, List.mem_range.mpr h1, List.mem_map.mpr ⟨v.2, h2, rfl⟩⟩
theorem ivs_nodup (ok : OkCuts ps cs) : (ivs ps cs).Nodup := by
  unfold ivs List.Nodup
  rw [List.pairwise_flatMap]
  refine ⟨fun k hk => ?_, ?_⟩
  · have ok := ok k (List.mem_range.mp hk)
    unfold ivsAt
    rw [List.pairwise_map]
    have h : (adj (placesN (pAt ps k) (cAt cs k))).Nodup := by
      by_cases hp : pAt ps k = []
      · rw [hp] at ok ⊢
        rw [places_nil ok]
        decide
      · exact adj_nodup (places_pw ok hp)
    exact h.imp fun hne e => hne (by obtain ⟨_, e⟩ := Prod.mk.inj e; obtain ⟨e1, e2⟩ := Prod.mk.inj e; exact Prod.ext e1 e2)
  · refine List.nodup_range.imp fun {x y} hxy v hv u hu e => hxy ?_
    obtain ⟨_, _, rfl⟩ := List.mem_map.mp hv
    obtain ⟨_, _, rfl⟩ := List.mem_map.mp hu
    exact (Prod.mk.inj e).1
/-- the finer one lies within -/
def Fin2 (ps : List Prog) (cs ds : List (List Nat)) (i j : Nat) : Prop := ∃ u v : Iv, (ivs ps cs)[i]? = some u ∧ (ivs ps ds)[j]? = some v ∧ u.1 = v.1 ∧ u.2.1 ≤ v.2.1 ∧ v.2.2 ≤ u.2.2
structure Finer (ps : List Prog) (cs ds : List (List Nat)) : Prop where
  c : OkCuts ps cs
  d : OkCuts ps ds
  sub : ∀ k x, x ∈ cAt cs k → x ∈ cAt ds k
theorem sub_places (F : Finer ps cs ds) {k x : Nat} (h : x ∈ placesN (pAt ps k) (cAt cs k)) : x ∈ placesN (pAt ps k) (cAt ds k) := by
  unfold placesN at h ⊢
  rcases List.mem_cons.mp h with rfl | h
  · exact List.mem_cons_self
  · rcases List.mem_append.mp h with h | h
    · exact List.mem_cons_of_mem _ (List.mem_append_left _ (F.sub k x h))
    · exact List.mem_cons_of_mem _ (List.mem_append_right _ h)
/-- the finer one at a place -/
theorem fine_at (F : Finer ps cs ds) {u : Iv} (hu : u ∈ ivs ps cs) {j : Nat} (h1 : u.2.1 ≤ j) (h2 : j < u.2.2) : ∃ v ∈ ivs ps ds, v.1 = u.1 ∧ u.2.1 ≤ v.2.1 ∧ v.2.1 ≤ j ∧ j < v.2.2 ∧ v.2.2 ≤ u.2.2 := by
  obtain ⟨hk, ha⟩ := mem_ivs.mp hu
  obtain ⟨m1, m2⟩ := adj_mem ha
  have okd := F.d u.1 hk
  by_cases hp : pAt ps u.1 = []
  · have okc := F.c u.1 hk
    rw [hp] at okc ha
    rw [places_nil okc] at ha
    simp only [adj, List.mem_singleton] at ha
    rw [ha] at h1 h2
    simp only at h1 h2
    omega
  · have hpw := places_pw okd hp
    have n1 := sub_places F m1
    have n2 := sub_places F m2
    obtain ⟨p, q1, q2, q3⟩ := adj_at ⟨_, n1, h1⟩ ⟨_, n2, h2⟩ hpw
    refine ⟨(u.1, p.1, p.2), mem_ivs.mpr ⟨hk, q1⟩, rfl, ?_, q2, q3, ?_⟩
    · rcases adj_sep hpw q1 n1 with h | h
      · exact h
      · simp only; omega
    · rcases adj_sep hpw q1 n2 with h | h
      · simp only; omega
      · exact h
theorem fine_some (F : Finer ps cs ds) {u : Iv} (hu : u ∈ ivs ps cs) : ∃ v ∈ ivs ps ds, v.1 = u.1 ∧ u.2.1 ≤ v.2.1 ∧ v.2.2 ≤ u.2.2 := by
  obtain ⟨hk, ha⟩ := mem_ivs.mp hu
  by_cases hp : pAt ps u.1 = []
  · have okc := F.c u.1 hk
    have okd := F.d u.1 hk
    refine ⟨(u.1, 0, 0), mem_ivs.mpr ⟨hk, ?_⟩, rfl, ?_⟩
    · simp only
      rw [hp] at okd ⊢
      rw [places_nil okd]
      decide
    · rw [hp] at okc ha
      rw [places_nil okc] at ha
      simp only [adj, List.mem_singleton] at ha
      rw [ha]
      exact ⟨Nat.le_refl _, Nat.le_refl _⟩
  · have := adj_lt (places_pw (F.c u.1 hk) hp) ha
    obtain ⟨v, h1, h2, h3, _, _, h4⟩ := fine_at F hu (Nat.le_refl _) this
    exact ⟨v, h1, h2, h3, h4⟩
theorem fine_one (F : Finer ps cs ds) (i i' j : Nat) (h : Fin2 ps cs ds i j) (h' : Fin2 ps cs ds i' j) : i = i' := by
  obtain ⟨u, v, h1, h2, h3, h4, h5⟩ := h
  obtain ⟨u', v', g1, g2, g3, g4, g5⟩ := h'
  rw [h2] at g2
  cases g2
  have mu := mem_ivs.mp (List.mem_of_getElem? h1)
  have mu' := mem_ivs.mp (List.mem_of_getElem? g1)
  have mv := mem_ivs.mp (List.mem_of_getElem? h2)
  obtain ⟨k, a, b⟩ := u
  obtain ⟨k', a', b'⟩ := u'
  obtain ⟨m, x, y⟩ := v
  simp only at h3 h4 h5 g3 g4 g5 mu mu' mv
  subst h3
  subst g3
  have e : (a, b) = (a', b') := by
    by_cases hp : pAt ps k' = []
    · have okc := F.c k' mu.1
      have e1 := mu.2
      have e2 := mu'.2
      rw [hp] at okc e1 e2
      rw [places_nil okc] at e1 e2
      simp only [adj, List.mem_singleton] at e1 e2
      rw [e1, e2]
    · have hpw := places_pw (F.c k' mu.1) hp
      have hxy := adj_lt (places_pw (F.d k' mv.1) hp) mv.2
      have hab := adj_lt hpw mu.2
      have hab' := adj_lt hpw mu'.2
      have m1 := adj_mem mu.2
      have m2 := adj_mem mu'.2
      have s1 := adj_sep hpw mu.2 m2.1
      have s2 := adj_sep hpw mu'.2 m1.1
      have s3 := adj_sep hpw mu.2 m2.2
      have s4 := adj_sep hpw mu'.2 m1.2
      simp only at hxy hab hab' s1 s2 s3 s4
      have : a = a' := by omega
      have : b = b' := by omega
      subst_vars
      rfl
  cases e
  have hnd := ivs_nodup F.c
  obtain ⟨hi, e1⟩ := List.getElem?_eq_some_iff.mp h1
  obtain ⟨hi', e2⟩ := List.getElem?_eq_some_iff.mp g1
  exact (List.getElem_inj hnd).mp (e1.trans e2.symm)
theorem idx_of {v : Iv} {cs : List (List Nat)} (h : v ∈ ivs ps cs) : ∃ j : Nat, (ivs ps cs)[j]? = some v := List.getElem?_of_mem h
theorem piece_at {i : Nat} {v : Iv} (h : (ivs ps cs)[i]? = some v) : (piecesV ps cs)[i]? = some (pieceOf ps v) := by
  unfold piecesV
  rw [List.getElem?_map, h]
  rfl
theorem piece_iv {i : Nat} {x : Nat × Prog} (h : (piecesV ps cs)[i]? = some x) : ∃ v, (ivs ps cs)[i]? = some v ∧ x = pieceOf ps v := by
  unfold piecesV at h
  rw [List.getElem?_map] at h
  obtain ⟨v, h1, h2⟩ := Option.map_eq_some_iff.mp h
  exact ⟨v, h1, h2.symm⟩
theorem meets_iff {p q : Prog} : meetsV p q = true ↔ ∃ key : Nat, key < 4 ∧ (∃ s ∈ p, s.2 = (key : Int)) ∧ (∃ s ∈ q, s.2 = (key : Int)) ∧ ((∃ s ∈ p, s.2 = (key : Int) ∧ s.1 = true) ∨ ∃ s ∈ q, s.2 = (key : Int) ∧ s.1 = true) := by
  unfold meetsV
  simp only [List.any_eq_true, List.mem_range, Bool.and_eq_true, decide_eq_true_eq, List.mem_append]
  constructor
  · rintro ⟨key, h1, h2, h3, s, hs, h4⟩
    refine ⟨key, h1, h2, h3, ?_⟩
    rcases hs with hs | hs
    · exact .inl ⟨s, hs, h4⟩
    · exact .inr ⟨s, hs, h4⟩
  · rintro ⟨key, h1, h2, h3, h4⟩
    refine ⟨key, h1, h2, h3, ?_⟩
    rcases h4 with ⟨s, hs, h4⟩ | ⟨s, hs, h4⟩
    · exact ⟨s, .inl hs, h4⟩
    · exact ⟨s, .inr hs, h4⟩
theorem fine_meet (F : Finer ps cs ds) {u u' : Iv} (hu : u ∈ ivs ps cs) (hu' : u' ∈ ivs ps cs) (h : meetsV (pieceOf ps u).2 (pieceOf ps u').2 = true) :
    ∃ v ∈ ivs ps ds, ∃ v' ∈ ivs ps ds, v.1 = u.1 ∧ u.2.1 ≤ v.2.1 ∧ v.2.2 ≤ u.2.2 ∧ v'.1 = u'.1 ∧ u'.2.1 ≤ v'.2.1 ∧ v'.2.2 ≤ u'.2.2 ∧ meetsV (pieceOf ps v).2 (pieceOf ps v').2 = true := by
  obtain ⟨key, hk, h1, h2, h3⟩ := meets_iff.mp h
  have go : ∀ s s', s ∈ (pieceOf ps u).2 → s' ∈ (pieceOf ps u').2 → s.2 = (key : Int) → s'.2 = (key : Int) → (s.1 = true ∨ s'.1 = true) → ∃ v ∈ ivs ps ds, ∃ v' ∈ ivs ps ds, v.1 = u.1 ∧ u.2.1 ≤ v.2.1 ∧ v.2.2 ≤ u.2.2 ∧ v'.1 = u'.1 ∧ u'.2.1 ≤ v'.2.1 ∧ v'.2.2 ≤ u'.2.2 ∧ meetsV (pieceOf ps v).2 (pieceOf ps v').2 = true := by
    intro s s' hs hs' ks ks' hw
    obtain ⟨j, j1, j2, j3⟩ := slice_mem.mp hs
    obtain ⟨j', k1, k2, k3⟩ := slice_mem.mp hs'
    obtain ⟨v, a1, a2, a3, a4, a5, a6⟩ := fine_at F hu j1 j2
    obtain ⟨v', b1, b2, b3, b4, b5, b6⟩ := fine_at F hu' k1 k2
    have ms : s ∈ (pieceOf ps v).2 := slice_mem.mpr ⟨j, a4, a5, by rw [a2]; exact j3⟩
    have ms' : s' ∈ (pieceOf ps v').2 := slice_mem.mpr ⟨j', b4, b5, by rw [b2]; exact k3⟩
    refine ⟨v, a1, v', b1, a2, a3, a6, b2, b3, b6, meets_iff.mpr ⟨key, hk, ⟨s, ms, ks⟩, ⟨s', ms', ks'⟩, ?_⟩⟩
    rcases hw with hw | hw
    · exact .inl ⟨s, ms, ks, hw⟩
    · exact .inr ⟨s', ms', ks', hw⟩
  obtain ⟨s1, m1, e1⟩ := h1
  obtain ⟨s2, m2, e2⟩ := h2
  rcases h3 with ⟨s, hs, e3, hw⟩ | ⟨s, hs, e3, hw⟩
  · exact go s s2 hs m2 e3 e2 (.inl hw)
  · exact go s1 s m1 hs e1 e3 (.inr hw)
theorem finer_ring (F : Finer ps cs ds) {f : List Nat} {ls : List Bool} (h : Ring (edgesV (piecesV ps cs)) f ls) : ∃ f' ls', Ring (edgesV (piecesV ps ds)) f' ls' := by
  refine lift_ring (Fn := Fin2 ps cs ds) (fine_one F) (fun i j j' h1 h2 hne => ?_) (fun l i i' hE => ?_) h
  · obtain ⟨u, v, a1, a2, a3, _⟩ := h1
    obtain ⟨u', v', b1, b2, b3, _⟩ := h2
    rw [a1] at b1
    cases b1
    refine ed_edges.mpr ⟨hne, _, _, piece_at a2, piece_at b2, ?_⟩
    unfold joinV pieceOf
    rw [if_pos (by simp only; rw [← a3, ← b3])]
  · obtain ⟨hne, x, y, hx, hy, hj⟩ := ed_edges.mp hE
    obtain ⟨u, hu, rfl⟩ := piece_iv hx
    obtain ⟨u', hu', rfl⟩ := piece_iv hy
    have mu := List.mem_of_getElem? hu
    have mu' := List.mem_of_getElem? hu'
    unfold joinV at hj
    by_cases c : (pieceOf ps u).1 = (pieceOf ps u').1
    · rw [if_pos c] at hj
      cases hj
      obtain ⟨v, m1, v1, v2, v3⟩ := fine_some F mu
      obtain ⟨v', m2, w1, w2, w3⟩ := fine_some F mu'
      obtain ⟨j, hj⟩ := idx_of m1
      obtain ⟨j', hj'⟩ := idx_of m2
      have f1 : Fin2 ps cs ds i j := ⟨u, v, hu, hj, v1.symm, v2, v3⟩
      have f2 : Fin2 ps cs ds i' j' := ⟨u', v', hu', hj', w1.symm, w2, w3⟩
      refine ⟨j, j', f1, f2, ed_edges.mpr ⟨fun e => hne ?_, _, _, piece_at hj, piece_at hj', ?_⟩⟩
      · subst e
        exact fine_one F _ _ _ f1 f2
      · unfold joinV
        have : (pieceOf ps v).1 = (pieceOf ps v').1 := by
          unfold pieceOf at c ⊢
          simp only at c ⊢
          omega
        rw [if_pos this]
    · rw [if_neg c] at hj
      split at hj
      · rename_i hm
        cases hj
        obtain ⟨v, m1, v', m2, v1, v2, v3, w1, w2, w3, hmm⟩ := fine_meet F mu mu' hm
        obtain ⟨j, hj⟩ := idx_of m1
        obtain ⟨j', hj'⟩ := idx_of m2
        have f1 : Fin2 ps cs ds i j := ⟨u, v, hu, hj, v1.symm, v2, v3⟩
        have f2 : Fin2 ps cs ds i' j' := ⟨u', v', hu', hj', w1.symm, w2, w3⟩
        refine ⟨j, j', f1, f2, ed_edges.mpr ⟨fun e => hne ?_, _, _, piece_at hj, piece_at hj', ?_⟩⟩
        · subst e
          exact fine_one F _ _ _ f1 f2
        · unfold joinV
          have : ¬ (pieceOf ps v).1 = (pieceOf ps v').1 := by
            unfold pieceOf at c ⊢
            simp only at c ⊢
            omega
          rw [if_neg this, if_pos hmm]
      · cases hj
end
end DL

/-! PR3: programs, pieces, joins as data. -/
namespace DL
open PySem PySem.Spec PyProof.Rows L2

def wordS (b : Bool) : String := if b then "write" else "read"
def joinS (b : Bool) : String := if b then "S" else "C"
def sD (s : Bool × Int) : DV := .tup [.str (Str.ofString (wordS s.1)), .int s.2]
def pD (p : Prog) : DV := .tup (p.map sD)
def psD (ps : List Prog) : DV := .tup (ps.map pD)
def csD (cs : List (List Nat)) : DV := .tup (cs.map nsD)
def pieceD (x : Nat × Prog) : DV := .tup [.int x.1, pD x.2]
def eD (e : Edge) : DV := .tup [.str (Str.ofString (joinS e.1)), .int e.2.1, .int e.2.2]
def signN (b : Bool) : Nat := if b then 83 else 67
def encW (w : List Bool) : Str := ⟨(w.map signN).toArray⟩
def wwD (w : WW) : DV := .tup [nsD w.1, .str (encW w.2)]
theorem encW_nil : Str.ofString "" = encW [] := by decide +kernel
theorem encW_one (b : Bool) : Str.ofString (joinS b) = encW [b] := by cases b <;> decide +kernel
theorem encW_app (a b : List Bool) : encW a ++ encW b = encW (a ++ b) := by
  unfold encW
  rw [List.map_append]
  show (⟨_⟩ : Str) = ⟨_⟩
  congr 1
  simp
theorem encW_len (a : List Bool) : (encW a).length = a.length := by
  show (a.map signN).toArray.size = _
  simp
theorem inS_enc (b : Bool) (w : List Bool) (st : Sto) : gInS (.str (Str.ofString (joinS b))) (.str (encW w)) st = some (.bl (decide (b ∈ w)), st) := by
  rw [encW_one]
  show some (DV.bl (decide (signN b ∈ (w.map signN).toArray.toList)), st) = _
  congr 3
  rw [decide_eq_decide]
  simp only [List.mem_map]
  constructor
  · rintro ⟨x, hx, e⟩
    cases x <;> cases b <;> first | exact hx | (simp [signN] at e)
  · exact fun h => ⟨b, h, rfl⟩
theorem inS_S (w : List Bool) (st : Sto) : gInS (.str (Str.ofString "S")) (.str (encW w)) st = some (.bl (decide (true ∈ w)), st) := inS_enc true w st
theorem inS_C (w : List Bool) (st : Sto) : gInS (.str (Str.ofString "C")) (.str (encW w)) st = some (.bl (decide (false ∈ w)), st) := inS_enc false w st
theorem add_word {w : List Bool} {l : Bool} {st : Sto} (h : w.length + 1 ≤ LIM) : gAdd (.str (encW w)) (.str (Str.ofString (joinS l))) st = some (.str (encW (w ++ [l])), st) := by
  rw [encW_one]
  show (if (encW w).length + (encW [l]).length ≤ LIM then some (DV.str (encW w ++ encW [l]), st) else none) = _
  rw [encW_len, encW_len, List.length_singleton, if_pos h, encW_app]
theorem ltD_nsD2 (n : Nat) (l : List Nat) : ltD n (nsD l) = true := by
  have := ltDs_ints (n := n) (l.map fun (n : Nat) => (n : Int))
  rw [List.map_map] at this
  exact this
theorem ltD_oT2 (n : Nat) (o : Option (List Nat)) : ltD n (oT o) = true := by
  cases o with
  | none => rfl
  | some l => exact ltD_nsD2 n l
theorem ltD_sD (n : Nat) (s : Bool × Int) : ltD n (sD s) = true := rfl
theorem ltDs_sD (n : Nat) (p : Prog) : ltDs n (p.map sD) = true := by
  induction p with
  | nil => rfl
  | cons s r ih => simp [ltDs, ltD_sD, ih]
theorem ltD_pD (n : Nat) (p : Prog) : ltD n (pD p) = true := ltDs_sD n p
theorem ltDs_pD (n : Nat) (ps : List Prog) : ltDs n (ps.map pD) = true := by
  induction ps with
  | nil => rfl
  | cons s r ih => simp [ltDs, ltD_pD, ih]
theorem ltDs_pieceD (n : Nat) (P : List (Nat × Prog)) : ltDs n (P.map pieceD) = true := by
  induction P with
  | nil => rfl
  | cons s r ih => simp [ltDs, pieceD, ltD, ltD_pD, ih]
theorem ltDs_eD (n : Nat) (E : List Edge) : ltDs n (E.map eD) = true := by
  induction E with
  | nil => rfl
  | cons s r ih => simp [ltDs, eD, ltD, ih]
theorem str_write : Str.ofString "write" = Str.ofString (wordS true) := rfl
theorem in_words {st : Sto} {l : Nat} {p : Prog} (h : st[l]? = some (.lst (p.map fun s => .str (Str.ofString (wordS s.1))))) : gIn (.str (Str.ofString "write")) (.ref l) st = some (.bl (p.any fun s => s.1), st) := by
  have hf : (p.map fun s => DV.str (Str.ofString (wordS s.1))).all flatD = true := by
    rw [List.all_map, List.all_eq_true]
    intro _ _; rfl
  have hi : inD (.str (Str.ofString "write")) (p.map fun s => DV.str (Str.ofString (wordS s.1))) = p.any fun s => s.1 := by
    clear h hf
    induction p with
    | nil => rfl
    | cons s r ih =>
      rw [List.map_cons, ev_inD1, ih, List.any_cons]
      congr 1
      obtain ⟨b, k⟩ := s
      cases b <;> simp [wordS]
  show (match itemsOf st (.ref l) with | some ds => if flatD (.str (Str.ofString "write")) = true ∧ ds.all flatD = true then some (DV.bl (inD (.str (Str.ofString "write")) ds), st) else none | none => _) = _
  rw [ev_itemsL h]
  simp only
  rw [if_pos ⟨rfl, hf⟩, hi]
theorem toBls_tt : ∀ {ds : List DV}, (∀ d ∈ ds, d = .bl true) → ∃ bs, toBls ds = some bs ∧ bs.all id = true
  | [], _ => ⟨[], rfl, rfl⟩
  | d :: ds, h => by
    obtain ⟨bs, h1, h2⟩ := toBls_tt fun x hx => h x (List.mem_cons_of_mem _ hx)
    rw [h d List.mem_cons_self]
    exact ⟨true :: bs, by simp [toBls, h1], by simp [h2]⟩
theorem toBls_ff : ∀ {ds : List DV}, (∀ d ∈ ds, d = .bl false) → ∃ bs, toBls ds = some bs ∧ bs.any id = false
  | [], _ => ⟨[], rfl, rfl⟩
  | d :: ds, h => by
    obtain ⟨bs, h1, h2⟩ := toBls_ff fun x hx => h x (List.mem_cons_of_mem _ hx)
    rw [h d List.mem_cons_self]
    exact ⟨false :: bs, by simp [toBls, h1], by simp [h2]⟩
theorem pos_filter {α : Type} (p : α → Bool) (l : List α) : decide ((0 : Int) < ((l.filter p).length : Nat)) = l.any p := by
  cases h : l.any p with
  | true =>
    obtain ⟨x, hx, hp⟩ := List.any_eq_true.mp h
    have := List.length_pos_of_mem (List.mem_filter.mpr ⟨hx, hp⟩)
    exact decide_eq_true (by omega)
  | false =>
    have : l.filter p = [] := List.filter_eq_nil_iff.mpr fun x hx => List.any_eq_false.mp h x hx
    rw [this]
    rfl
theorem any_ne {α : Type} (p : α → Bool) (l : List α) : l.any p = !(l.filter p).isEmpty := by
  cases h : l.filter p with
  | nil => exact List.any_eq_false.mpr fun x hx => List.filter_eq_nil_iff.mp h x hx
  | cons x r =>
    have := List.mem_filter.mp (show x ∈ l.filter p by rw [h]; exact List.mem_cons_self)
    exact List.any_eq_true.mpr ⟨x, this⟩
theorem if_skip2 {ta : ME Bool} {s1 s2 : MS} {e : DL.Env} {st s : Sto} {U : Fl → DL.Env → Sto → Prop} (h : V (ta e st) fun b s' => b = false ∧ s' = s) (q : W (s2 e s) U) : W (sIf ta s1 s2 e st) U := by
  obtain ⟨_, _, h1, rfl, rfl⟩ := h
  rw [DL.w_if, h1, V_some, cd_f]
  exact q
theorem if_take {ta : ME Bool} {s1 s2 : MS} {e : DL.Env} {st s : Sto} {U : Fl → DL.Env → Sto → Prop} (h : V (ta e st) fun b s' => b = true ∧ s' = s) (q : W (s1 e s) U) : W (sIf ta s1 s2 e st) U := by
  obtain ⟨_, _, h1, rfl, rfl⟩ := h
  rw [DL.w_if, h1, V_some, cd_t]
  exact q
/-- what a drawn program keeps -/
structure OkProg (p : Prog) : Prop where
  len : p.length ≤ 3
  key : ∀ s ∈ p, 0 ≤ s.2 ∧ s.2 ≤ 2
structure OkProgs (ps : List Prog) : Prop where
  len : ps.length ≤ 3
  one : ∀ p ∈ ps, OkProg p
theorem slice_len {p : Prog} (h : OkProg p) (a b : Nat) : (sliceN p a b).length ≤ 3 := by
  unfold sliceN
  rw [List.length_drop, List.length_take]
  have := h.len
  omega
theorem pAt_ok {ps : List Prog} (h : OkProgs ps) (k : Nat) : OkProg (pAt ps k) := by
  unfold pAt
  cases e : ps[k]? with
  | none => exact ⟨by simp, by simp⟩
  | some p => exact h.one p (List.mem_of_getElem? e)
theorem zip_adj {f : Nat → DV} (c : List Nat) : zipD (c.map f) ((c.map f).drop 1) = (adj c).map fun p => .tup [f p.1, f p.2] := by
  unfold zipD
  rw [← adj_zip, List.drop_one, ← List.map_tail, List.zip_map, List.map_map]
  rfl
theorem zip_adj_tail {f : Nat → DV} (c : List Nat) : zipD (c.map f) (c.map f).tail = (adj c).map fun p => .tup [f p.1, f p.2] := by
  rw [← List.drop_one]; exact zip_adj c
theorem toIs_f {α : Type} (f : α → Int) (l : List α) : toIs (l.map fun x => DV.int (f x)) = some (l.map f) := by
  have := toIs_map (l.map f)
  rw [List.map_map] at this
  exact this
/-- cuts of programs -/
structure OkCs2 (ps : List Prog) (cs : List (List Nat)) : Prop where
  len : cs.length = ps.length
  ok : OkCuts ps cs
theorem cAt_eq {cs : List (List Nat)} {k : Nat} (h : k < cs.length) : cs[k]? = some (cAt cs k) := by
  unfold cAt
  rw [List.getElem?_eq_getElem h]
  rfl
theorem pAt_eq {ps : List Prog} {k : Nat} (h : k < ps.length) : ps[k]? = some (pAt ps k) := by
  unfold pAt
  rw [List.getElem?_eq_getElem h]
  rfl
theorem cut_len {p : Prog} {c : List Nat} (h : OkCut p c) (hp : p.length ≤ 3) : c.length ≤ 2 := by
  have hn : (0 :: c).Nodup := by
    rw [List.nodup_cons]
    exact ⟨fun q => by have := (h.rg 0 q).1; omega, h.pw.imp fun q => by omega⟩
  cases c with
  | nil => simp
  | cons x r =>
    have h0 := h.rg x List.mem_cons_self
    have := nodup_bound hn (N := p.length) fun y hy => by
      rcases List.mem_cons.mp hy with rfl | hy
      · omega
      · exact (h.rg y hy).2
    simp only [List.length_cons] at this ⊢
    omega
theorem cuts_len {ps : List Prog} {cs : List (List Nat)} (H : OkProgs ps) (C : OkCs2 ps cs) : ∀ c ∈ cs, c.length ≤ 2 := fun c hc => by
  obtain ⟨k, hk⟩ := List.getElem?_of_mem hc
  have hlt := (List.getElem?_eq_some_iff.mp hk).1
  have e := cAt_eq hlt
  rw [hk] at e
  cases e
  exact cut_len (C.ok k (by rw [← C.len]; exact hlt)) (pAt_ok H k).len
theorem sum_le2 : ∀ (l : List (List Nat)), (∀ c ∈ l, c.length ≤ 2) → (l.map fun c => ((c.length : Nat) : Int)).sum ≤ 2 * (l.length : Int)
  | [], _ => by simp
  | c :: l, h => by
    have h1 := h c List.mem_cons_self
    have h2 := sum_le2 l fun x hx => h x (List.mem_cons_of_mem _ hx)
    rw [List.map_cons, List.sum_cons, List.length_cons]
    omega
theorem nsD_append {a b : List Nat} {st : Sto} (h : a.length + b.length ≤ LIM) : gAdd (nsD a) (nsD b) st = some (nsD (a ++ b), st) := by
  unfold nsD
  rw [ev_addT, if_pos (by simpa using h), List.map_append]
theorem places_len {p : Prog} {c : List Nat} : (placesN p c).length = c.length + 2 := by unfold placesN; simp
theorem adj_len : ∀ l : List Nat, (adj l).length = l.length - 1
  | [] => rfl
  | [_] => rfl
  | a :: b :: r => by
    have := adj_len (b :: r)
    unfold adj
    simp only [List.length_cons] at this ⊢
    omega
theorem ivsAt_len {ps : List Prog} {cs : List (List Nat)} {k : Nat} : (ivsAt ps cs k).length = (cAt cs k).length + 1 := by
  unfold ivsAt
  rw [List.length_map, adj_len, places_len]
  omega
theorem ivs_len {ps : List Prog} {cs : List (List Nat)} (H : OkProgs ps) (C : OkCs2 ps cs) (n : Nat) : ((List.range n).flatMap (ivsAt ps cs)).length ≤ 3 * n := by
  induction n with
  | zero => simp
  | succ n ih =>
    rw [List.range_succ, List.flatMap_append, List.length_append]
    have : (cAt cs n).length ≤ 2 := by
      unfold cAt
      cases h : cs[n]? with
      | none => simp
      | some c => exact cuts_len H C c (List.mem_of_getElem? h)
    simp only [List.flatMap_cons, List.flatMap_nil, List.append_nil, ivsAt_len]
    omega
theorem pieces_len {ps : List Prog} {cs : List (List Nat)} (H : OkProgs ps) (C : OkCs2 ps cs) : (piecesV ps cs).length ≤ 9 := by
  unfold piecesV ivs
  rw [List.length_map]
  have := ivs_len H C ps.length
  have := H.len
  omega
theorem cut_slice {α : Type} {p : List α} {a b : Nat} : DL.cutD p (some (a : Int)) (some (b : Int)) = sliceN p a b := by
  unfold DL.cutD HT.sIx sliceN
  simp only [Int.toNat_natCast]
  rw [if_neg (by omega), if_neg (by omega)]
  by_cases h1 : a ≤ p.length
  · rw [Nat.min_eq_left h1, List.take_drop]
    by_cases h2 : b ≤ p.length
    · rw [Nat.min_eq_left h2]
      by_cases h3 : a ≤ b
      · congr 2
        omega
      · rw [List.drop_eq_nil_of_le (by rw [List.length_take]; omega), List.drop_eq_nil_of_le (by rw [List.length_take]; omega)]
    · rw [Nat.min_eq_right (by omega), List.take_of_length_le (by omega), List.take_of_length_le (by omega)]
  · have e1 : p.drop p.length = [] := by simp
    have e2 : (p.take b).drop a = [] := List.drop_eq_nil_of_le (by rw [List.length_take]; omega)
    rw [Nat.min_eq_right (by omega : p.length ≤ a), e1, e2]
    simp
end DL

/-! PR4: what the law asks of a ring. -/
namespace DL
open PySem PySem.Spec PyProof.Rows L2

def labsOf (E : List Edge) (x y : Nat) : List Bool := (E.filter fun e => decide (e.2.1 = min x y ∧ e.2.2 = max x y)).map (·.1)
def prevN (r : List Nat) (k : Nat) : Nat := if k = 0 then lastN r else r[k - 1]?.getD 0
def labAt (E : List Edge) (r : List Nat) (k : Nat) : List Bool := labsOf E (prevN r k) (r[k]?.getD 0)
def isMixedV (E : List Edge) (r : List Nat) : Bool := decide (3 ≤ r.length) && (decide r.Nodup && (decide (∀ x ∈ r, headN r ≤ x) && ((List.range r.length).all (fun k => !(labAt E r k).isEmpty) && (decide (true ∈ (List.range r.length).flatMap (labAt E r)) && decide (false ∈ (List.range r.length).flatMap (labAt E r))))))
theorem ddp_nd : ∀ ns : List Int, (ddp ns).length = ns.length ↔ ns.Nodup
  | [] => by simp [ddp]
  | y :: r => by
    unfold ddp
    have h1 := ddp_len r
    have h2 := ddp_nd r
    rw [List.nodup_cons, List.length_cons]
    by_cases h : y ∈ r
    · rw [if_pos h]
      exact ⟨fun q => by omega, fun q => absurd h q.1⟩
    · rw [if_neg h, List.length_cons]
      exact ⟨fun q => ⟨h, h2.mp (by omega)⟩, fun q => by rw [h2.mpr q.2]⟩
theorem usort_nd (r : List Nat) : (usort (r.map fun (n : Nat) => (n : Int))).length = r.length ↔ r.Nodup := by
  have h := ddp_nd (r.map fun (n : Nat) => (n : Int))
  rw [List.length_map] at h
  unfold usort
  rw [isort_len, h]
  unfold List.Nodup
  rw [List.pairwise_map]
  exact ⟨fun q => q.imp fun a b => a (by rw [b]), fun q => q.imp fun a b => a (by omega)⟩
theorem low_head {r : List Nat} (h : r ≠ []) : ∃ m : Nat, lowest (r.map fun (n : Nat) => (n : Int)) = some (m : Int) ∧ ((m : Nat) = headN r ↔ ∀ x ∈ r, headN r ≤ x) := by
  obtain ⟨m, h1, h2⟩ := least_in r h
  refine ⟨m, low_of (List.mem_map.mpr ⟨m, h1, rfl⟩) (fun y hy => ?_), fun e => by rw [← e]; exact h2, fun q => ?_⟩
  · obtain ⟨x, hx, rfl⟩ := List.mem_map.mp hy
    have := h2 x hx
    omega
  · have a := q m h1
    have : headN r ∈ r := by
      cases r with
      | nil => exact absurd rfl h
      | cons x r => exact List.mem_cons_self
    have b := h2 _ this
    omega
theorem min_cast (x y : Nat) : (if y < x then (y : Int) else (x : Int)) = ((min x y : Nat) : Int) := by
  by_cases h : y < x
  · rw [if_pos h, Nat.min_eq_right (by omega)]
  · rw [if_neg h, Nat.min_eq_left (by omega)]
theorem max_cast (x y : Nat) : (if x < y then (y : Int) else (x : Int)) = ((max x y : Nat) : Int) := by
  by_cases h : x < y
  · rw [if_pos h, Nat.max_eq_right (by omega)]
  · rw [if_neg h, Nat.max_eq_left (by omega)]
def labD (b : Bool) : DV := .str (Str.ofString (joinS b))
theorem in_labs {st : Sto} {l : Nat} {p : List Bool} {b : Bool} (h : st[l]? = some (.lst (p.map labD))) : gIn (labD b) (.ref l) st = some (.bl (decide (b ∈ p)), st) := by
  have hf : (p.map labD).all flatD = true := by
    rw [List.all_map, List.all_eq_true]
    intro _ _; rfl
  have hi : inD (labD b) (p.map labD) = decide (b ∈ p) := by
    clear h hf
    induction p with
    | nil => rfl
    | cons s r ih =>
      rw [List.map_cons, ev_inD1, ih]
      cases s <;> cases b <;> simp [joinS, labD]
  show (match itemsOf st (.ref l) with | some ds => if flatD (labD b) = true ∧ ds.all flatD = true then some (DV.bl (inD (labD b) ds), st) else none | none => _) = _
  rw [ev_itemsL h]
  simp only
  rw [if_pos ⟨rfl, hf⟩, hi]
theorem labs_len {E : List Edge} {r : List Nat} (n : Nat) : ((List.range n).flatMap (labAt E r)).length ≤ n * E.length := by
  induction n with
  | zero => simp
  | succ n ih =>
    rw [List.range_succ, List.flatMap_append, List.length_append]
    have h1 : (labAt E r n).length ≤ E.length := by
      unfold labAt labsOf
      rw [List.length_map]
      exact List.length_filter_le _ _
    simp only [List.flatMap_cons, List.flatMap_nil, List.append_nil]
    rw [Nat.add_mul, Nat.one_mul]
    omega
theorem eq_pair {st : Sto} {u v a b : Int} : gEq (.tup [.int u, .int v]) (.tup [.int a, .int b]) st = some (.bl (decide (u = a ∧ v = b)), st) := by
  have h := eqv_ints [u, v] [a, b]
  show some (DV.bl (PyData.eqv (.tuple (toPs ([u, v].map DV.int))) (.tuple (toPs ([a, b].map DV.int)))), st) = _
  simp only [PyData.eqv, h]
  congr 3
  rw [decide_eq_decide]
  simp
theorem eq_empty {st : Sto} {a b : Nat} {ds : List DV} (h1 : st[a]? = some (.lst ds)) (hok : ds.all (okD 8) = true) (h2 : st[b]? = some (.lst [])) : gEq (.ref a) (.ref b) st = some (.bl ds.isEmpty, st) := by
  have e1 : toPS st (.ref a) = some (.list (toPs ds)) := by
    show (match st[a]? with | some (.lst ds) => if ds.all (okD 8) = true then some (PyData.list (toPs ds)) else none | _ => none) = _
    rw [h1]
    simp only
    rw [if_pos hok]
  have e2 : toPS st (.ref b) = some (.list (toPs [])) := by
    show (match st[b]? with | some (.lst ds) => if ds.all (okD 8) = true then some (PyData.list (toPs ds)) else none | _ => none) = _
    rw [h2]
    rfl
  unfold gEq
  rw [e1, e2]
  cases ds <;> rfl
theorem ok_labs (l : List Bool) : (l.map labD).all (okD 8) = true := by
  rw [List.all_map, List.all_eq_true]
  intro b _
  show okD 8 (.str (Str.ofString (joinS b))) = true
  simp only [okD]
  exact ofS_ok _

/-! ### rings by place -/
section
variable {E : List Edge} {N : Nat}
theorem wk_get : ∀ {w : List Nat} {ls : List Bool}, Wk E w ls → ls.length + 1 = w.length ∧ ∀ i l, ls[i]? = some l → Ed E l (w[i]?.getD 0) (w[i + 1]?.getD 0)
  | _, _, .one a => ⟨rfl, fun i l h => by simp at h⟩
  | _, _, .cons e h => by
    obtain ⟨h1, h2⟩ := wk_get h
    refine ⟨by simp only [List.length_cons] at h1 ⊢; omega, fun i l q => ?_⟩
    cases i with
    | zero =>
      simp at q
      subst q
      exact e
    | succ i => exact h2 i l q
theorem wk_fn : ∀ (w : List Nat) (g : Nat → Bool), w ≠ [] → (∀ i, i + 1 < w.length → Ed E (g i) (w[i]?.getD 0) (w[i + 1]?.getD 0)) → Wk E w ((List.range (w.length - 1)).map g)
  | [], g, h, _ => absurd rfl h
  | [a], g, _, _ => .one a
  | a :: b :: r, g, _, h => by
    have ih := wk_fn (b :: r) (fun i => g (i + 1)) (by simp) fun i hi => h (i + 1) (by simp only [List.length_cons] at hi ⊢; omega)
    have e : (List.range ((a :: b :: r).length - 1)).map g = g 0 :: (List.range ((b :: r).length - 1)).map fun i => g (i + 1) := by
      simp only [List.length_cons, Nat.add_sub_cancel]
      rw [List.range_succ_eq_map, List.map_cons, List.map_map]
      rfl
    rw [e]
    exact .cons (h 0 (by simp)) ih
theorem mem_labs (ok : OkE N E) {l : Bool} {x y : Nat} : l ∈ labsOf E x y ↔ Ed E l x y := by
  unfold labsOf Ed
  rw [List.mem_map]
  constructor
  · rintro ⟨⟨l', a, b⟩, h, rfl⟩
    obtain ⟨h1, h2⟩ := List.mem_filter.mp h
    simp only [decide_eq_true_eq] at h2
    obtain ⟨rfl, rfl⟩ := h2
    by_cases c : x ≤ y
    · rw [Nat.min_eq_left c, Nat.max_eq_right c] at h1
      exact .inl h1
    · rw [Nat.min_eq_right (by omega), Nat.max_eq_left (by omega)] at h1
      exact .inr h1
  · rintro (h | h)
    · have := (ok.lt _ h).1
      simp only at this
      exact ⟨_, List.mem_filter.mpr ⟨h, by rw [Nat.min_eq_left (by omega), Nat.max_eq_right (by omega)]; simp⟩, rfl⟩
    · have := (ok.lt _ h).1
      simp only at this
      exact ⟨_, List.mem_filter.mpr ⟨h, by rw [Nat.min_eq_right (by omega), Nat.max_eq_left (by omega)]; simp⟩, rfl⟩
theorem nd_inj {α β : Type} {f : α → β} : ∀ {l : List α}, (l.map f).Nodup → ∀ {x y : α}, x ∈ l → y ∈ l → f x = f y → x = y
  | [], _, _, _, h, _, _ => by cases h
  | a :: r, h, x, y, hx, hy, e => by
    rw [List.map_cons, List.nodup_cons] at h
    have hin : ∀ {z : α}, z ∈ r → f z ∈ r.map f := fun hz => List.mem_map.mpr ⟨_, hz, rfl⟩
    rcases List.mem_cons.mp hx with q | q
    · rcases List.mem_cons.mp hy with p | p
      · rw [q, p]
      · exact absurd (hin p) (by rw [← e, q]; exact h.1)
    · rcases List.mem_cons.mp hy with p | p
      · exact absurd (hin q) (by rw [e, p]; exact h.1)
      · exact nd_inj h.2 q p e
theorem labs_one (ok : OkE N E) {l m : Bool} {x y : Nat} (h1 : l ∈ labsOf E x y) (h2 : m ∈ labsOf E x y) : l = m := by
  unfold labsOf at h1 h2
  obtain ⟨e, he, rfl⟩ := List.mem_map.mp h1
  obtain ⟨f, hf, rfl⟩ := List.mem_map.mp h2
  obtain ⟨a1, a2⟩ := List.mem_filter.mp he
  obtain ⟨b1, b2⟩ := List.mem_filter.mp hf
  simp only [decide_eq_true_eq] at a2 b2
  have : e = f := nd_inj ok.nd a1 b1 (Prod.ext (by omega) (by omega))
  rw [this]
/-- the place in the walk whose step comes to k, and back -/
theorem at_step {f : List Nat} {i : Nat} (hi : i < f.length) : ∃ k, k < f.length ∧ (f ++ [headN f])[i]?.getD 0 = prevN f k ∧ (f ++ [headN f])[i + 1]?.getD 0 = f[k]?.getD 0 := by
  have h1 : (f ++ [headN f])[i]?.getD 0 = f[i]?.getD 0 := by rw [List.getElem?_append_left hi]
  by_cases c : i + 1 < f.length
  · refine ⟨i + 1, c, ?_, by rw [List.getElem?_append_left c]⟩
    rw [h1]
    unfold prevN
    rw [if_neg (by omega), Nat.add_sub_cancel]
  · have e : i + 1 = f.length := by omega
    refine ⟨0, by omega, ?_, ?_⟩
    · rw [h1]
      unfold prevN lastN
      rw [if_pos rfl, List.getLast?_eq_getElem?, show f.length - 1 = i by omega]
    · rw [e, List.getElem?_append_right (Nat.le_refl _), Nat.sub_self]
      unfold headN
      cases f <;> rfl
theorem at_place {f : List Nat} {k : Nat} (hk : k < f.length) : ∃ i, i < f.length ∧ (f ++ [headN f])[i]?.getD 0 = prevN f k ∧ (f ++ [headN f])[i + 1]?.getD 0 = f[k]?.getD 0 := by
  cases k with
  | zero =>
    refine ⟨f.length - 1, by omega, ?_, ?_⟩
    · rw [List.getElem?_append_left (by omega)]
      unfold prevN lastN
      rw [if_pos rfl, List.getLast?_eq_getElem?]
    · rw [show f.length - 1 + 1 = f.length by omega, List.getElem?_append_right (Nat.le_refl _), Nat.sub_self]
      unfold headN
      cases f <;> rfl
  | succ k =>
    refine ⟨k, by omega, ?_, by rw [List.getElem?_append_left hk]⟩
    rw [List.getElem?_append_left (by omega)]
    unfold prevN
    rw [if_neg (by omega), Nat.add_sub_cancel]
theorem ring_mixed (ok : OkE N E) {f : List Nat} {ls : List Bool} (h : Ring E f ls) (hm : ∀ x ∈ f, headN f ≤ x) : isMixedV E f = true := by
  obtain ⟨h1, h2, h3, h4, h5⟩ := h
  obtain ⟨g1, g2⟩ := wk_get h3
  rw [List.length_append, List.length_singleton] at g1
  have has : ∀ b, b ∈ ls → b ∈ (List.range f.length).flatMap (labAt E f) := fun b hb => by
    obtain ⟨i, hi⟩ := List.getElem?_of_mem hb
    have hlt := (List.getElem?_eq_some_iff.mp hi).1
    obtain ⟨k, k1, k2, k3⟩ := at_step (f := f) (i := i) (by omega)
    have := g2 i b hi
    rw [k2, k3] at this
    exact List.mem_flatMap.mpr ⟨k, List.mem_range.mpr k1, (mem_labs ok).mpr this⟩
  have hall : ((List.range f.length).all fun k => !(labAt E f k).isEmpty) = true := by
    rw [List.all_eq_true]
    intro k hk
    obtain ⟨i, i1, i2, i3⟩ := at_place (List.mem_range.mp hk)
    have hli : ls[i]? = some ls[i] := List.getElem?_eq_getElem (by omega)
    have := g2 i _ hli
    rw [i2, i3] at this
    have hmem := (mem_labs ok).mpr this
    show (!(labsOf E (prevN f k) (f[k]?.getD 0)).isEmpty) = true
    cases q : labsOf E (prevN f k) (f[k]?.getD 0) with
    | nil => rw [q] at hmem; cases hmem
    | cons _ _ => rfl
  unfold isMixedV
  rw [decide_eq_true h1, decide_eq_true h2, decide_eq_true hm, hall, decide_eq_true (has true h4), decide_eq_true (has false h5)]
  rfl
theorem mixed_is_ring (ok : OkE N E) {f : List Nat} (h : isMixedV E f = true) : ∃ ls, Ring E f ls := by
  unfold isMixedV at h
  simp only [Bool.and_eq_true, decide_eq_true_eq] at h
  obtain ⟨h1, h2, _, h4, h5, h6⟩ := h
  obtain ⟨g, hg⟩ : ∃ g : Nat → Bool, g = fun i => (labsOf E ((f ++ [headN f])[i]?.getD 0) ((f ++ [headN f])[i + 1]?.getD 0)).head?.getD false := ⟨_, rfl⟩
  have hmem : ∀ i, i < f.length → g i ∈ labsOf E ((f ++ [headN f])[i]?.getD 0) ((f ++ [headN f])[i + 1]?.getD 0) := fun i hi => by
    obtain ⟨k, k1, k2, k3⟩ := at_step hi
    rw [hg]
    simp only
    rw [k2, k3]
    have := List.all_eq_true.mp h4 k (List.mem_range.mpr k1)
    have e : labAt E f k = labsOf E (prevN f k) (f[k]?.getD 0) := rfl
    rw [e] at this
    cases q : labsOf E (prevN f k) (f[k]?.getD 0) with
    | nil => rw [q] at this; cases this
    | cons x r => exact List.mem_cons_self
  have hw := wk_fn (E := E) (f ++ [headN f]) g (by simp) fun i hi => (mem_labs ok).mp (hmem i (by rw [List.length_append, List.length_singleton] at hi; omega))
  have hl : (f ++ [headN f]).length - 1 = f.length := by simp
  rw [hl] at hw
  have has : ∀ b, b ∈ (List.range f.length).flatMap (labAt E f) → b ∈ (List.range f.length).map g := fun b hb => by
    obtain ⟨k, hk, hb⟩ := List.mem_flatMap.mp hb
    obtain ⟨i, i1, i2, i3⟩ := at_place (List.mem_range.mp hk)
    have := hmem i i1
    rw [i2, i3] at this
    exact List.mem_map.mpr ⟨i, List.mem_range.mpr i1, labs_one ok this hb⟩
  exact ⟨_, h1, h2, hw, has true h5, has false h6⟩
end
end DL

/-! PR5: programs uncut have no ring; pieces joined are the programs. -/
namespace DL
open PySem PySem.Spec PyProof.Rows L2

section
variable {ps : List Prog} {cs : List (List Nat)} {E : List Edge} {N : Nat}
theorem cAt_none (ps : List Prog) (k : Nat) : cAt (ps.map fun _ => []) k = [] := by
  unfold cAt
  rw [List.getElem?_map]
  cases ps[k]? <;> rfl
theorem none_ok (ps : List Prog) : OkCs2 ps (ps.map fun _ => []) where
  len := List.length_map _
  ok k _ := by rw [cAt_none]; exact ⟨by simp, by simp⟩
theorem nd_ix {α : Type} {l : List α} (h : l.Nodup) {i j : Nat} {x : α} (hi : l[i]? = some x) (hj : l[j]? = some x) : i = j := by
  obtain ⟨i1, i2⟩ := List.getElem?_eq_some_iff.mp hi
  obtain ⟨j1, j2⟩ := List.getElem?_eq_some_iff.mp hj
  have hp := List.pairwise_iff_getElem.mp h
  rcases Nat.lt_trichotomy i j with c | c | c
  · exact absurd (i2.trans j2.symm) (hp i j i1 j1 c)
  · exact c
  · exact absurd (j2.trans i2.symm) (hp j i j1 i1 c)
theorem none_free (ps : List Prog) : mixedV (edgesV (piecesV ps (ps.map fun _ => []))) (piecesV ps (ps.map fun _ => [])).length = none := by
  cases h : mixedV (edgesV (piecesV ps (ps.map fun _ => []))) (piecesV ps (ps.map fun _ => [])).length with
  | none => rfl
  | some r =>
    exfalso
    obtain ⟨ls, hr, _⟩ := mixed_ring (edges_ok _) h
    obtain ⟨i, hi⟩ := List.getElem?_of_mem hr.s
    have he := (wk_get hr.wk).2 i true hi
    obtain ⟨hne, x, y, hx, hy, hj⟩ := ed_edges.mp he
    obtain ⟨u, hu, rfl⟩ := piece_iv hx
    obtain ⟨v, hv, rfl⟩ := piece_iv hy
    have e1 : u.1 = v.1 := by
      unfold joinV at hj
      split at hj
      · rename_i c
        unfold pieceOf at c
        simp only at c
        omega
      · split at hj <;> cases hj
    have hat : ∀ w ∈ ivs ps (ps.map fun _ => []), w.2 = (0, (pAt ps w.1).length) := fun w hw => by
      have := (mem_ivs.mp hw).2
      rw [cAt_none] at this
      exact List.mem_singleton.mp this
    have a1 := hat u (List.mem_of_getElem? hu)
    have a2 := hat v (List.mem_of_getElem? hv)
    have e2 : u = v := Prod.ext e1 (by rw [a1, a2, e1])
    subst e2
    exact hne (nd_ix (ivs_nodup (none_ok ps).ok) hu hv)
theorem ring_of_finer {ds : List (List Nat)} (H : OkProgs ps) (D : OkCs2 ps ds) (F : Finer ps cs ds) (h : mixedV (edgesV (piecesV ps ds)) (piecesV ps ds).length = none) : mixedV (edgesV (piecesV ps cs)) (piecesV ps cs).length = none := by
  cases q : mixedV (edgesV (piecesV ps cs)) (piecesV ps cs).length with
  | none => rfl
  | some r =>
    obtain ⟨ls, hr, _⟩ := mixed_ring (edges_ok _) q
    obtain ⟨f, l2, h2⟩ := finer_ring F hr
    obtain ⟨r2, h3, _⟩ := mixed_min (edges_ok _) (pieces_len H D) h2
    rw [h] at h3
    cases h3
theorem no_short (ok : OkE N E) (hN : N ≤ 9) {r : List Nat} (h : mixedV E N = some r) : ∀ f : List Nat, f.length ≤ r.length - 1 → isMixedV E f = false := fun f hf => by
  cases q : isMixedV E f with
  | false => rfl
  | true =>
    obtain ⟨ls, hr⟩ := mixed_is_ring ok q
    obtain ⟨r2, h2, h3⟩ := mixed_min ok hN hr
    rw [h] at h2
    cases h2
    have := hr.len
    omega
theorem no_ring (ok : OkE N E) (hN : N ≤ 9) (h : mixedV E N = none) : ∀ f : List Nat, isMixedV E f = false := fun f => by
  cases q : isMixedV E f with
  | false => rfl
  | true =>
    obtain ⟨ls, hr⟩ := mixed_is_ring ok q
    obtain ⟨r2, h2, h3⟩ := mixed_min ok hN hr
    rw [h] at h2
    cases h2
theorem ring_le (ok : OkE N E) {f : List Nat} {ls : List Bool} (h : Ring E f ls) : f.length ≤ N := by
  refine nodup_bound h.nd fun x hx => ?_
  exact wk_lt ok h.wk (by have := h.len; simp; omega) x (List.mem_append_left _ hx)
/-! ### joined again -/
def wholeK (ps : List Prog) (vs : List Iv) (k : Nat) : Prog := (vs.filter fun v => decide (v.1 = k)).flatMap fun v => sliceN (pAt ps k) v.2.1 v.2.2
theorem whole_snoc (vs : List Iv) (v : Iv) (k : Nat) : wholeK ps (vs ++ [v]) k = if v.1 = k then wholeK ps vs k ++ sliceN (pAt ps v.1) v.2.1 v.2.2 else wholeK ps vs k := by
  unfold wholeK
  rw [List.filter_append, List.flatMap_append]
  by_cases h : v.1 = k
  · rw [if_pos h, List.filter_cons, if_pos (decide_eq_true h), h]
    simp
  · rw [if_neg h, List.filter_cons, if_neg (by simpa using h)]
    simp
theorem whole_len (H : OkProgs ps) (vs : List Iv) (k : Nat) : (wholeK ps vs k).length ≤ 3 * vs.length := by
  unfold wholeK
  induction vs with
  | nil => simp
  | cons v r ih =>
    rw [List.filter_cons, List.length_cons]
    split
    · rw [List.flatMap_cons, List.length_append]
      have := slice_len (pAt_ok H k) v.2.1 v.2.2
      omega
    · omega
theorem adj_join {α : Type} {p : List α} : ∀ (r : List Nat) (a : Nat), (a :: r).Pairwise (· ≤ ·) → (adj (a :: r)).flatMap (fun q => sliceN p q.1 q.2) = sliceN p a ((a :: r).getLast (by simp))
  | [], a, _ => by
    show [] = sliceN p a a
    unfold sliceN
    exact (List.drop_eq_nil_of_le (by rw [List.length_take]; omega)).symm
  | b :: r, a, h => by
    rw [List.pairwise_cons] at h
    have ih := adj_join (p := p) r b h.2
    have hb : b ≤ (b :: r).getLast (by simp) := by
      rcases List.mem_cons.mp (List.getLast_mem (l := b :: r) (by simp)) with q | q
      · rw [q]; exact Nat.le_refl _
      · exact (List.pairwise_cons.mp h.2).1 _ q
    unfold adj
    rw [List.flatMap_cons, ih, slice_join (h.1 b List.mem_cons_self) hb]
    exact congrArg (sliceN p a) (List.getLast_cons (by simp)).symm
theorem filt_at (n k : Nat) (f : Nat → List Iv) (hf : ∀ j, ∀ v ∈ f j, v.1 = j) (h : k < n) : ((List.range n).flatMap f).filter (fun v => decide (v.1 = k)) = f k := by
  have hz : ∀ n, n ≤ k → ((List.range n).flatMap f).filter (fun v => decide (v.1 = k)) = [] := fun n hn => by
    rw [List.filter_eq_nil_iff]
    intro v hv
    obtain ⟨j, hj, hv⟩ := List.mem_flatMap.mp hv
    have := hf j v hv
    have := List.mem_range.mp hj
    simp
    omega
  induction n with
  | zero => omega
  | succ n ih =>
    rw [List.range_succ, List.flatMap_append, List.filter_append]
    simp only [List.flatMap_cons, List.flatMap_nil, List.append_nil]
    by_cases c : k = n
    · subst c
      rw [hz k (Nat.le_refl _), List.nil_append, List.filter_eq_self]
      intro v hv
      rw [hf _ v hv]
      simp
    · rw [ih (by omega)]
      have : (f n).filter (fun v => decide (v.1 = k)) = [] := by
        rw [List.filter_eq_nil_iff]
        intro v hv
        have := hf n v hv
        simp
        omega
      rw [this, List.append_nil]
theorem whole_all (ok : OkCuts ps cs) {k : Nat} (h : k < ps.length) : wholeK ps (ivs ps cs) k = pAt ps k := by
  unfold wholeK ivs
  rw [filt_at _ _ _ (fun j v hv => by
    unfold ivsAt at hv
    obtain ⟨q, _, rfl⟩ := List.mem_map.mp hv
    rfl) h]
  unfold ivsAt
  rw [List.flatMap_map]
  show (adj (placesN (pAt ps k) (cAt cs k))).flatMap (fun q => sliceN (pAt ps k) q.1 q.2) = _
  have hc := ok k h
  generalize pAt ps k = p at hc
  generalize cAt cs k = c at hc
  have hpw : (placesN p c).Pairwise (· ≤ ·) := by
    cases p with
    | nil => rw [places_nil hc]; simp
    | cons x r => exact (places_pw hc (by simp)).imp fun q => Nat.le_of_lt q
  unfold placesN at hpw ⊢
  rw [adj_join _ _ hpw]
  rw [List.getLast_cons (by simp), show (c ++ [p.length]).getLast (by simp) = p.length from by simp]
  unfold sliceN
  simp
theorem sub_ok {α : Type} {p : List α} {c d : List Nat} (h : OkCut p d) (s : c.Sublist d) : OkCut p c := ⟨h.pw.sublist s, fun x hx => h.rg x (s.subset hx)⟩
theorem same_sD {st : Sto} (s : Bool × Int) : Same st 1 (sD s) (sD s) := (.tup rfl (by show (2 : Nat) ≤ 1000; decide) (same_two (.str 0 _) (.int 0 _)))
theorem same_pD {st : Sto} {p : Prog} (h : OkProg p) : Same st 2 (pD p) (pD p) := .tup rfl (by rw [List.length_map]; have := h.len; omega) (same_self fun x hx => by
  obtain ⟨s, _, rfl⟩ := List.mem_map.mp hx
  exact same_sD s)
theorem same_psD {st : Sto} {ps : List Prog} (h : OkProgs ps) : Same st 3 (psD ps) (psD ps) := .tup rfl (by rw [List.length_map]; have := h.len; omega) (same_self fun x hx => by
  obtain ⟨p, hp, rfl⟩ := List.mem_map.mp hx
  exact same_pD (h.one p hp))
theorem pAt_map {f : Prog → DV} (ps : List Prog) : (List.range ps.length).map (fun k => f (pAt ps k)) = ps.map f := by
  apply List.ext_getElem?
  intro i
  rw [List.getElem?_map, List.getElem?_map]
  by_cases h : i < ps.length
  · rw [List.getElem?_range h, pAt_eq h]; rfl
  · rw [List.getElem?_eq_none (by simpa using Nat.le_of_not_lt h), List.getElem?_eq_none (Nat.le_of_not_lt h)]; rfl
theorem rg_set {f g : Nat → DV} {n k : Nat} (hk : k < n) (h : ∀ j, j ≠ k → g j = f j) : ((List.range n).map f).set k (g k) = (List.range n).map g := by
  apply List.ext_getElem?
  intro i
  by_cases c : i = k
  · subst c
    rw [List.getElem?_set_self (by simpa using hk), List.getElem?_map, List.getElem?_range hk]
    rfl
  · rw [List.getElem?_set_ne (by omega), List.getElem?_map, List.getElem?_map]
    by_cases hi : i < n
    · rw [List.getElem?_range hi]
      show some (f i) = some (g i)
      rw [h i c]
    · rw [List.getElem?_eq_none (by simpa using Nat.le_of_not_lt hi)]
      rfl
theorem rgD_get1 {n i : Nat} {d : DV} (h : (rgD 1 (n : Int))[i]? = some d) : i + 1 < n ∧ d = .int ((i + 1 : Nat) : Int) := by
  unfold rgD at h
  rw [List.getElem?_map] at h
  obtain ⟨j, hj, rfl⟩ := Option.map_eq_some_iff.mp h
  obtain ⟨h1, h2⟩ := List.getElem?_eq_some_iff.mp hj
  rw [List.length_range] at h1
  rw [List.getElem_range] at h2
  subst h2
  refine ⟨by omega, ?_⟩
  show DV.int _ = _
  congr 1
  omega
end
end DL

namespace Law
open PySem PySem.Spec PyProof.Rows L2 DL
noncomputable def c_KEYS : DV := .int 4
noncomputable def c_HANDS : DV := .int 9
noncomputable def c_MOST_STEPS : DV := .int 12
noncomputable def c_MOST_PIECES : DV := .int 9
def N_is_whole : List Str := ["value"]
noncomputable def m_is_whole : MS :=
 (sRet (mAnd (mIsi "int" (mVar 0)) (mNot (mIsi "bool" (mVar 0)))))
noncomputable def F_is_whole : FM := bodyM 1 m_is_whole

noncomputable def G_is_whole : FM := trim F_is_whole
theorem n_is_whole : NrmF F_is_whole G_is_whole := nrm_trim _
@[simp] theorem p_is_whole (i : Int) (st : Sto) : G_is_whole [.int i] st = some (.bl true, st) := trim_V (by
  simp -dsimp [F_is_whole, m_is_whole]) rfl

def N_is_from : List Str := ["value", "low", "high"]
noncomputable def m_is_from : MS :=
 (sRet (mAnd (mCall G_is_whole [(mVar 0)]) (mChn gLe gLe (mVar 1) (mVar 0) (mVar 2))))
noncomputable def F_is_from : FM := bodyM 3 m_is_from

noncomputable def G_is_from : FM := trim F_is_from
theorem n_is_from : NrmF F_is_from G_is_from := nrm_trim _
@[simp] theorem p_is_from (i lo hi : Int) (st : Sto) : G_is_from [.int i, .int lo, .int hi] st = some (.bl (decide (lo ≤ i ∧ i ≤ hi)), st) := trim_V (by
  by_cases h1 : lo ≤ i <;> simp -dsimp [F_is_from, m_is_from, h1]) rfl

def N_is_step : List Str := ["value"]
noncomputable def m_is_step : MS :=
 (sSeq (sIf (mOrT (mNotT (mTst (mIsi "tuple" (mVar 0)))) (mOrT (mTst (mBin gNe (mLen (mSeq (mVar 0))) (mC (.int 2)))) (mNotT (mTst (mCall G_is_from [(mBin gIx (mVar 0) (mC (.int 1))), (mC (.int 0)), (mBin gSub (mC c_KEYS) (mC (.int 1)))])))))
 (sRet (mC (.bl false)))
 sSkip)
 (sRet (mAnd (mIsi "str" (mBin gIx (mVar 0) (mC (.int 0)))) (mBin gIn (mBin gIx (mVar 0) (mC (.int 0))) (mTup [(mC (.str (Str.ofString "read"))), (mC (.str (Str.ofString "write")))])))))
noncomputable def F_is_step : FM := bodyM 1 m_is_step

noncomputable def G_is_step : FM := trim F_is_step
theorem n_is_step : NrmF F_is_step G_is_step := nrm_trim _
theorem p_is_step {s : Bool × Int} (h : 0 ≤ s.2 ∧ s.2 ≤ 2) (st : Sto) : G_is_step [sD s] st = some (.bl true, st) := by
  refine trim_V ?_ rfl
  obtain ⟨b, k⟩ := s
  have h1 : k ≤ 3 := by have := h.2; simp only at this; omega
  have h0 : 0 ≤ k := h.1
  cases b <;> simp -dsimp [F_is_step, m_is_step, sD, at_nat, wordS, c_KEYS, h0, h1]

def N_are_programs : List Str := ["value", "part", "step"]
noncomputable def m_are_programs : MS :=
 (sSeq (sIf (mOrT (mNotT (mTst (mIsi "tuple" (mVar 0)))) (mOrT (mTst (mBin gGt (mLen (mSeq (mVar 0))) (mC c_HANDS))) (mNotT (mTst (mAll (mLc (itV (mVar 0)) [1] (.nm 1) (ME.pure true) (mIsi "tuple" (mVar 1))))))))
 (sRet (mC (.bl false)))
 sSkip)
 (sSeq (sIf (mTst (mAny (mLc (itV (mVar 0)) [1] (.nm 1) (ME.pure true) (mBin gGt (mLen (mSeq (mVar 1))) (mC c_MOST_STEPS)))))
 (sRet (mC (.bl false)))
 sSkip)
 (sRet (mAll (mLc2 (itV (mVar 0)) [1, 2] (.nm 1) (ME.pure true) (itV (mVar 1)) [2] (.nm 2) (ME.pure true) (mCall G_is_step [(mVar 2)]))))))
noncomputable def F_are_programs : FM := bodyM 3 m_are_programs

noncomputable def G_are_programs : FM := trim F_are_programs
theorem n_are_programs : NrmF F_are_programs G_are_programs := nrm_trim _
theorem p_are_programs {ps : List Prog} (h : OkProgs ps) (st : Sto) : G_are_programs [psD ps] st = some (.bl true, st) := by
  refine trim_V ?_ rfl
  have hl : ¬ (9 : Int) < ps.length := by have := h.len; omega
  simp -dsimp [F_are_programs, m_are_programs, psD, c_HANDS, c_MOST_STEPS, hl]
  refine lc_map ps pD (fun _ => .bl true) rfl trivial (fun p hp => ?_) ?_
  · simp -dsimp [pD]
  simp -dsimp
  refine lc_map ps pD (fun _ => .bl false) rfl trivial (fun p hp => ?_) ?_
  · have : ¬ (12 : Int) < p.length := by have := (h.one p hp).len; omega
    simp -dsimp [pD, this]
  simp -dsimp
  refine lc2_map ps pD (fun p => p.map fun _ => .bl true) (ps.flatMap fun p => p.map fun _ => .bl true) rfl rfl trivial (fun p hp => ?_) ?_
  · simp -dsimp [pD]
    refine lc_map p sD (fun _ => .bl true) rfl trivial (fun s hs => ?_) ?_
    · simp -dsimp [p_is_step ((h.one p hp).key s hs)]
    simp -dsimp
  have htt : ∀ d ∈ (ps.flatMap fun p => p.map fun _ => DV.bl true), d = DV.bl true := fun d hd => by
    obtain ⟨p, _, hd⟩ := List.mem_flatMap.mp hd
    obtain ⟨_, _, rfl⟩ := List.mem_map.mp hd
    rfl
  have hz : (ps.flatMap fun p => p.map fun _ => DV.bl true).length ≤ LIM := by
    have : ∀ qs : List Prog, (∀ q ∈ qs, q.length ≤ 3) → (qs.flatMap fun p => p.map fun _ => DV.bl true).length ≤ 3 * qs.length := fun qs hq => by
      induction qs with
      | nil => simp
      | cons q r ih =>
        have h1 := hq q List.mem_cons_self
        have h2 := ih fun x hx => hq x (List.mem_cons_of_mem _ hx)
        rw [List.flatMap_cons, List.length_append, List.length_map, List.length_cons]
        omega
    have h1 := this ps fun q hq => (h.one q hq).len
    have h2 := h.len
    show _ ≤ 10000000
    omega
  refine gd_of hz ?_
  obtain ⟨bs, h1, h2⟩ := toBls_tt htt
  simp -dsimp [h1, h2]

def N_meets : List Str := ["one", "two", "key", "first", "second", "word", "other"]
noncomputable def m_meets : MS :=
 (sSeq (sFor (itF (mRg1 (mC c_KEYS))) (tgN 2)
 (sSeq (sSet 3 (mNew (mLc (itV (mVar 0)) [5, 6] (.tp [5, 6]) (mTst (mBin gEq (mVar 6) (mVar 2))) (mVar 5))))
 (sSeq (sSet 4 (mNew (mLc (itV (mVar 1)) [5, 6] (.tp [5, 6]) (mTst (mBin gEq (mVar 6) (mVar 2))) (mVar 5))))
 (sIf (mAndT (mTst (mBin gGt (mLen (mSeq (mVar 3))) (mC (.int 0)))) (mAndT (mTst (mBin gGt (mLen (mSeq (mVar 4))) (mC (.int 0)))) (mTst (mBin gIn (mC (.str (Str.ofString "write"))) (mBin gAdd (mVar 3) (mVar 4))))))
 (sRet (mC (.bl true)))
 sSkip))))
 (sRet (mC (.bl false))))
noncomputable def F_meets : FM := bodyM 7 m_meets

noncomputable def G_meets : FM := trim F_meets
theorem n_meets : NrmF F_meets G_meets := nrm_trim _
def MeP (p q : Prog) (st : Sto) (i : Nat) (e : DL.Env) (s : Sto) : Prop := Pre st s ∧ ((List.range i).any fun (key : Nat) => (p.any fun s => decide (s.2 = (key : Int))) && ((q.any fun s => decide (s.2 = (key : Int))) && ((p ++ q).any fun s => decide (s.2 = (key : Int)) && s.1))) = false ∧ ∃ x2 x3 x4 x5 x6, e = [some (pD p), some (pD q), x2, x3, x4, x5, x6]
theorem p_meets {p q : Prog} (hp : p.length ≤ 3) (hq : q.length ≤ 3) (st : Sto) : G_meets [pD p, pD q] st = some (.bl (meetsV p q), st) := by
  refine trim_V ?_ rfl
  have hr : okR 0 4 = true := by decide
  simp -dsimp [F_meets, m_meets, c_KEYS, hr]
  refine for_W (fun i e s => MeP p q st i e s) ⟨pre1, rfl, none, none, none, none, none, rfl⟩ (fun _ _ _ _ => trivial) (fun i d e s hd hp' => ?_) (fun e s hp' => ?_)
  · obtain ⟨hi, rfl⟩ := rgD_get (n := 4) hd
    obtain ⟨hpre, hany, x2, x3, x4, x5, x6, rfl⟩ := hp'
    simp -dsimp [pD]
    refine lc_pure p sD (fun s => decide (s.2 = (i : Int))) (fun s => .str (Str.ofString (wordS s.1))) rfl trivial (fun s hs => ?_) ?_
    · simp -dsimp [sD]
    simp -dsimp
    refine lc_pure q sD (fun s => decide (s.2 = (i : Int))) (fun s => .str (Str.ofString (wordS s.1))) rfl trivial (fun s hs => ?_) ?_
    · simp -dsimp [sD]
    have hz1 := List.length_filter_le (fun s => decide (s.2 = (i : Int))) p
    have hz2 := List.length_filter_le (fun s => decide (s.2 = (i : Int))) q
    have hany2 : ((List.range (i + 1)).any fun (key : Nat) => (p.any fun s => decide (s.2 = (key : Int))) && ((q.any fun s => decide (s.2 = (key : Int))) && ((p ++ q).any fun s => decide (s.2 = (key : Int)) && s.1))) = (!(p.filter fun s => decide (s.2 = (i : Int))).isEmpty && (!(q.filter fun s => decide (s.2 = (i : Int))).isEmpty && ((p.filter fun s => decide (s.2 = (i : Int))) ++ (q.filter fun s => decide (s.2 = (i : Int)))).any fun s => s.1)) := by
      rw [List.range_succ, List.any_append, hany, ← any_ne, ← any_ne, ← List.filter_append, List.any_filter]
      simp
    have hone : ((List.range (i + 1)).any fun (key : Nat) => (p.any fun s => decide (s.2 = (key : Int))) && ((q.any fun s => decide (s.2 = (key : Int))) && ((p ++ q).any fun s => decide (s.2 = (key : Int)) && s.1))) = true → meetsV p q = true := fun h => by
      obtain ⟨x, hx, h⟩ := List.any_eq_true.mp h
      exact List.any_eq_true.mpr ⟨x, List.mem_range.mpr (by have := List.mem_range.mp hx; omega), h⟩
    rw [hany2] at hone
    generalize p.filter (fun s => decide (s.2 = (i : Int))) = f at hany2 hone hz1 ⊢
    generalize q.filter (fun s => decide (s.2 = (i : Int))) = g at hany2 hone hz2 ⊢
    cases f with
    | nil =>
      simp -dsimp [app_get0, app_get]
      exact ⟨hpre.app _, by rw [hany2]; rfl, _, _, _, _, _, rfl⟩
    | cons x f =>
      cases g with
      | nil =>
        simp -dsimp [app_get0, app_get]
        exact ⟨hpre.app _, by rw [hany2]; rfl, _, _, _, _, _, rfl⟩
      | cons y g =>
        have hz : (f.length + 1) + (g.length + 1) ≤ LIM := by simp only [List.length_cons] at hz1 hz2; show _ ≤ 10000000; omega
        have hpos : ∀ n : Nat, (0 : Int) < (n : Int) + 1 := fun n => by omega
        simp -dsimp [app_get0, app_get, hpos, hz]
        refine V_of (in_words (p := (x :: f) ++ (y :: g)) (by simp [app_get])) ?_
        simp only [List.isEmpty_cons, Bool.not_false, Bool.true_and] at hany2 hone
        cases hh : ((x :: f) ++ (y :: g)).any fun s => s.1 with
        | false =>
          simp -dsimp
          exact ⟨hpre.app _, by rw [hany2, hh], _, _, _, _, _, rfl⟩
        | true => simp -dsimp [hone hh, hpre.app]
  · obtain ⟨hpre, hany, x2, x3, x4, x5, x6, rfl⟩ := hp'
    rw [show (rgD 0 4).length = 4 from rgD_length 4] at hany
    have : meetsV p q = false := hany
    simp -dsimp [this, hpre]

def N_are_cuts : List Str := ["programs", "cuts", "program", "row", "place", "a", "b"]
noncomputable def m_are_cuts : MS :=
 (sSeq (sIf (mOrT (mNotT (mTst (mIsi "tuple" (mVar 1)))) (mTst (mBin gNe (mLen (mSeq (mVar 1))) (mLen (mSeq (mVar 0))))))
 (sRet (mC (.bl false)))
 sSkip)
 (sSeq (sFor (itZ (mVar 0) (mVar 1)) (tgT [(tgN 2), (tgN 3)])
 (sSeq (sIf (mOrT (mNotT (mTst (mIsi "tuple" (mVar 3)))) (mNotT (mTst (mAll (mLc (itV (mVar 3)) [4] (.nm 4) (ME.pure true) (mCall G_is_from [(mVar 4), (mC (.int 1)), (mBin gSub (mLen (mSeq (mVar 2))) (mC (.int 1)))]))))))
 (sRet (mC (.bl false)))
 sSkip)
 (sIf (mTst (mAny (mLc (itZ (mVar 3) (mSl (mVar 3) (mSome (mC (.int 1))) (ME.pure none))) [5, 6] (.tp [5, 6]) (ME.pure true) (mBin gGe (mVar 5) (mVar 6)))))
 (sRet (mC (.bl false)))
 sSkip)))
 (sRet (mBin gLe (mBin gAdd (mLen (mSeq (mVar 0))) (mSum (mLc (itV (mVar 1)) [3] (.nm 3) (ME.pure true) (mLen (mSeq (mVar 3)))))) (mC c_MOST_PIECES)))))
noncomputable def F_are_cuts : FM := bodyM 7 m_are_cuts

noncomputable def G_are_cuts : FM := trim F_are_cuts
theorem n_are_cuts : NrmF F_are_cuts G_are_cuts := nrm_trim _
def AcP (ps : List Prog) (cs : List (List Nat)) (st : Sto) (e : DL.Env) (s : Sto) : Prop := Pre st s ∧ ∃ x2 x3 x4 x5 x6, e = [some (psD ps), some (csD cs), x2, x3, x4, x5, x6]
theorem p_are_cuts {ps : List Prog} {cs : List (List Nat)} (H : OkProgs ps) (C : OkCs2 ps cs) (st : Sto) : G_are_cuts [psD ps, csD cs] st = some (.bl true, st) := by
  refine trim_V ?_ rfl
  have hl := C.len
  simp -dsimp [F_are_cuts, m_are_cuts, psD, csD, hl]
  refine for_W (fun i e s => AcP ps cs st e s) ⟨pre1, none, none, none, none, none, rfl⟩ (fun _ _ _ _ => trivial) (fun i d e s hd hp => ?_) (fun e s hp => ?_)
  · obtain ⟨hpre, x2, x3, x4, x5, x6, rfl⟩ := hp
    obtain ⟨dx, dy, h1, h2, rfl⟩ := zipD_get hd
    rw [List.getElem?_map] at h1 h2
    obtain ⟨p, hp, rfl⟩ := Option.map_eq_some_iff.mp h1
    obtain ⟨c, hc, rfl⟩ := Option.map_eq_some_iff.mp h2
    have hip := (List.getElem?_eq_some_iff.mp hp).1
    have hic := (List.getElem?_eq_some_iff.mp hc).1
    have ep := pAt_eq hip
    have ec := cAt_eq hic
    rw [hp] at ep
    rw [hc] at ec
    have ok := C.ok i hip
    cases ep
    cases ec
    generalize pAt ps i = p at ok hp hd h1
    generalize cAt cs i = c at ok hc hd h2
    simp -dsimp [ev_tgs0, ev_tgs1, nsD]
    refine lc_map c (fun k => .int (k : Nat)) (fun _ => .bl true) rfl trivial (fun x hx => ?_) ?_
    · have := ok.rg x hx
      have h3 : (1 : Int) ≤ (x : Int) := by omega
      have h4 : (x : Int) ≤ (p.length : Int) - 1 := by omega
      simp -dsimp [pD, h3, h4]
    simp -dsimp [cut_from]
    refine lc_map (adj c) (fun q => .tup [.int (q.1 : Nat), .int (q.2 : Nat)]) (fun _ => .bl false) (zip_adj_tail (f := fun k => .int (k : Nat)) c) trivial (fun q hq => ?_) ?_
    · have := adj_lt ok.pw hq
      have h3 : ¬ (q.2 : Int) ≤ (q.1 : Int) := by omega
      simp -dsimp [h3]
    simp -dsimp
    exact ⟨hpre, _, _, _, _, _, rfl⟩
  · obtain ⟨hpre, x2, x3, x4, x5, x6, rfl⟩ := hp
    simp -dsimp [csD, psD]
    refine lc_map cs nsD (fun c => .int (c.length : Nat)) rfl trivial (fun c hc => ?_) ?_
    · simp -dsimp [nsD]
    have hs := sum_le2 cs (cuts_len H C)
    have h9 : (ps.length : Int) + (cs.map fun c => ((c.length : Nat) : Int)).sum ≤ 9 := by have := H.len; omega
    simp -dsimp [toIs_f, c_MOST_PIECES, h9, hpre]

def N_pieces_of : List Str := ["programs", "cuts", "found", "k", "places", "a", "b"]
noncomputable def m_pieces_of : MS :=
 (sSeq (sIf (mOrT (mNotT (mTst (mCall G_are_programs [(mVar 0)]))) (mNotT (mTst (mCall G_are_cuts [(mVar 0), (mVar 1)]))))
 sDead
 sSkip)
 (sSeq (sSet 2 (mNew (mArgs [])))
 (sSeq (sFor (itF (mRg1 (mLen (mSeq (mVar 0))))) (tgN 3)
 (sSeq (sSet 4 (mBin gAdd (mBin gAdd (mTup [(mC (.int 0))]) (mBin gIx (mVar 1) (mVar 3))) (mTup [(mLen (mSeq (mBin gIx (mVar 0) (mVar 3))))])))
 (sExpr (mExt (mVar 2) (mLc (itZ (mVar 4) (mSl (mVar 4) (mSome (mC (.int 1))) (ME.pure none))) [5, 6] (.tp [5, 6]) (ME.pure true) (mTup [(mBin gAdd (mVar 3) (mC (.int 1))), (mSl (mBin gIx (mVar 0) (mVar 3)) (mSome (mVar 5)) (mSome (mVar 6)))]))))))
 (sRet (mVar 2)))))
noncomputable def F_pieces_of : FM := bodyM 7 m_pieces_of

noncomputable def G_pieces_of : FM := trimL F_pieces_of
theorem n_pieces_of : NrmF F_pieces_of G_pieces_of := nrm_trimL _
def PcP (ps : List Prog) (cs : List (List Nat)) (st : Sto) (i : Nat) (e : DL.Env) (s : Sto) : Prop := Pre st s ∧ s[st.length]? = some (.lst (((List.range i).flatMap (ivsAt ps cs)).map fun v => pieceD (pieceOf ps v))) ∧ ∃ x3 x4 x5 x6, e = [some (psD ps), some (csD cs), some (.ref st.length), x3, x4, x5, x6]
theorem p_pieces_of {ps : List Prog} {cs : List (List Nat)} (H : OkProgs ps) (C : OkCs2 ps cs) (st : Sto) : G_pieces_of [psD ps, csD cs] st = some (.ref st.length, st ++ [.lst ((piecesV ps cs).map pieceD)]) := by
  refine trimL_V ?_ (ltDs_pieceD _ _)
  have hr : okR 0 (ps.length : Int) = true := by have := H.len; simp [okR]; omega
  have A1 : ∀ s, G_are_programs [psD ps] s = some (.bl true, s) := fun s => p_are_programs H s
  have A2 : ∀ s, G_are_cuts [psD ps, csD cs] s = some (.bl true, s) := fun s => p_are_cuts H C s
  have hps : ∀ s, itemsOf s (psD ps) = some (ps.map pD) := fun _ => rfl
  simp -dsimp [F_pieces_of, m_pieces_of, A1, A2, hps, hr]
  refine for_W (fun i e s => PcP ps cs st i e s) ⟨pre2, app_get0, none, none, none, none, rfl⟩ (fun _ _ _ _ => trivial) (fun i d e s hd hp => ?_) (fun e s hp => ?_)
  · obtain ⟨hi, rfl⟩ := rgD_get hd
    obtain ⟨hpre, hg, x3, x4, x5, x6, rfl⟩ := hp
    have ep := pAt_eq hi
    have ec := cAt_eq (cs := cs) (k := i) (by rw [C.len]; exact hi)
    have hcl := cuts_len H C _ (List.mem_of_getElem? ec)
    have hpl := (pAt_ok H i).len
    have ix1 : ∀ s, gIx (csD cs) (.int i) s = some (nsD (cAt cs i), s) := fun s => by
      show (atI (cs.map nsD) i).map (·, s) = _
      rw [atI_ofNat, List.getElem?_map, ec]; rfl
    have ix2 : ∀ s, gIx (psD ps) (.int i) s = some (pD (pAt ps i), s) := fun s => by
      show (atI (ps.map pD) i).map (·, s) = _
      rw [atI_ofNat, List.getElem?_map, ep]; rfl
    have hz1 : 1 + (cAt cs i).length ≤ LIM := by show _ ≤ 10000000; omega
    have hz2 : (1 + (cAt cs i).length) + 1 ≤ LIM := by show _ ≤ 10000000; omega
    have hz3 : ((List.range i).flatMap (ivsAt ps cs)).length + (adj (placesN (pAt ps i) (cAt cs i))).length ≤ LIM := by
      have := ivs_len H C i
      have := H.len
      rw [adj_len, places_len]
      show _ ≤ 10000000
      omega
    have hlen : ∀ s, itemsOf s (pD (pAt ps i)) = some ((pAt ps i).map sD) := fun _ => rfl
    have ha : ∀ s, gAdd (.tup [.int 0]) (nsD (cAt cs i)) s = some (nsD (0 :: cAt cs i), s) := fun s => nsD_append (a := [0]) (by simpa using hz1)
    have hb : ∀ s, gAdd (nsD (0 :: cAt cs i)) (.tup [.int ((pAt ps i).length : Nat)]) s = some (nsD (placesN (pAt ps i) (cAt cs i)), s) := fun s => nsD_append (a := 0 :: cAt cs i) (b := [(pAt ps i).length]) (by simp only [List.length_cons, List.length_nil]; omega)
    simp -dsimp [ix1, ix2, hlen, ha, hb, hg]
    have hsl : ∀ s, gSl (nsD (placesN (pAt ps i) (cAt cs i))) (some 1) none s = some (.tup (((placesN (pAt ps i) (cAt cs i)).map fun (n : Nat) => DV.int n).drop 1), s) := fun s => by
      show some (DV.tup (DL.cutD _ _ _), s) = _
      rw [cut_from (by decide)]; rfl
    have htu : tupOf (nsD (placesN (pAt ps i) (cAt cs i))) = some ((placesN (pAt ps i) (cAt cs i)).map fun (n : Nat) => DV.int n) := rfl
    simp -dsimp [hsl, htu]
    refine lc_map (adj (placesN (pAt ps i) (cAt cs i))) (fun q => .tup [.int (q.1 : Nat), .int (q.2 : Nat)]) (fun q => pieceD (pieceOf ps (i, q.1, q.2))) (zip_adj (f := fun k => .int (k : Nat)) _) trivial (fun q hq => ?_) ?_
    · have hsl2 : ∀ s, gSl (pD (pAt ps i)) (some (q.1 : Int)) (some (q.2 : Int)) s = some (pD (sliceN (pAt ps i) q.1 q.2), s) := fun s => by
        show some (DV.tup (DL.cutD _ _ _), s) = _
        rw [cut_slice]
        unfold pD sliceN
        rw [List.map_drop, List.map_take]
      simp -dsimp [ix2, hsl2, pieceD, pieceOf]
    simp -dsimp [hg, hz3, -List.length_flatMap]
    refine ⟨hpre.set (Nat.le_refl _) _, ?_, _, _, _, _, rfl⟩
    rw [List.getElem?_set_self (List.getElem?_eq_some_iff.mp hg).1, List.range_succ, List.flatMap_append, List.map_append]
    simp [ivsAt]
  · obtain ⟨hpre, hg, x3, x4, x5, x6, rfl⟩ := hp
    rw [show (rgD 0 (ps.length : Int)).length = ps.length from rgD_length _] at hg
    simp -dsimp
    exact ⟨hpre, by rw [hg]; unfold piecesV ivs; rw [List.map_map]; rfl⟩

def N_joins : List Str := ["pieces", "found", "b", "a"]
noncomputable def m_joins : MS :=
 (sSeq (sSet 1 (mNew (mArgs [])))
 (sSeq (sFor (itF (mRg1 (mLen (mSeq (mVar 0))))) (tgN 2)
 (sFor (itF (mRg1 (mVar 2))) (tgN 3)
 (sIf (mTst (mBin gEq (mBin gIx (mBin gIx (mVar 0) (mVar 3)) (mC (.int 0))) (mBin gIx (mBin gIx (mVar 0) (mVar 2)) (mC (.int 0)))))
 (sExpr (mApp (mVar 1) (mTup [(mC (.str (Str.ofString "S"))), (mVar 3), (mVar 2)])))
 (sIf (mTst (mCall G_meets [(mBin gIx (mBin gIx (mVar 0) (mVar 3)) (mC (.int 1))), (mBin gIx (mBin gIx (mVar 0) (mVar 2)) (mC (.int 1)))]))
 (sExpr (mApp (mVar 1) (mTup [(mC (.str (Str.ofString "C"))), (mVar 3), (mVar 2)])))
 sSkip))))
 (sRet (mVar 1))))
noncomputable def F_joins : FM := bodyM 4 m_joins

noncomputable def G_joins : FM := trimL F_joins
theorem n_joins : NrmF F_joins G_joins := nrm_trimL _
def JnP (P : List (Nat × Prog)) (l : Nat) (st : Sto) (i : Nat) (e : DL.Env) (s : Sto) : Prop := Pre st s ∧ s[st.length]? = some (.lst (((List.range i).flatMap (rowE P)).map eD)) ∧ ∃ x2 x3, e = [some (.ref l), some (.ref st.length), x2, x3]
def cellE (P : List (Nat × Prog)) (b a : Nat) : Option Edge := match P[a]?, P[b]? with
  | some x, some y => (joinV x y).map fun l => (l, a, b)
  | _, _ => none
def JnQ (P : List (Nat × Prog)) (l : Nat) (st : Sto) (b i : Nat) (e : DL.Env) (s : Sto) : Prop := Pre st s ∧ s[st.length]? = some (.lst (((List.range b).flatMap (rowE P) ++ (List.range i).filterMap (cellE P b)).map eD)) ∧ ∃ x3, e = [some (.ref l), some (.ref st.length), some (.int b), x3]
theorem rows_len (P : List (Nat × Prog)) (n : Nat) (hn : n ≤ 9) : ((List.range n).flatMap (rowE P)).length ≤ 9 * n := by
  induction n with
  | zero => simp
  | succ n ih =>
    rw [List.range_succ, List.flatMap_append, List.length_append]
    have h1 : (rowE P n).length ≤ n := by
      have := List.length_filterMap_le (cellE P n) (List.range n)
      rwa [List.length_range] at this
    have := ih (by omega)
    simp only [List.flatMap_cons, List.flatMap_nil, List.append_nil]
    omega
theorem p_joins {P : List (Nat × Prog)} {l : Nat} {st : Sto} (hl : st[l]? = some (.lst (P.map pieceD))) (hn : P.length ≤ 9) (hp : ∀ x ∈ P, x.2.length ≤ 3) : G_joins [.ref l] st = some (.ref st.length, st ++ [.lst ((edgesV P).map eD)]) := by
  refine trimL_V ?_ (ltDs_eD _ _)
  have hr : okR 0 (P.length : Int) = true := by simp [okR]; omega
  simp -dsimp [F_joins, m_joins, hr, hl, app_old hl]
  refine for_W (fun i e s => JnP P l st i e s) ⟨pre2, app_get0, none, none, rfl⟩ (fun _ _ _ _ => trivial) (fun b d e s hd hp1 => ?_) (fun e s hp1 => ?_)
  · obtain ⟨hb, rfl⟩ := rgD_get hd
    obtain ⟨hpre, hg, x2, x3, rfl⟩ := hp1
    have hr2 : okR 0 (b : Int) = true := by simp [okR]; omega
    simp -dsimp [hr2]
    refine for_W (fun i e s => JnQ P l st b i e s) ⟨hpre, by rw [hg]; simp, _, rfl⟩ (fun _ _ _ _ => trivial) (fun a d e s hd hp1 => ?_) (fun e s hp1 => ?_)
    · obtain ⟨ha, rfl⟩ := rgD_get hd
      obtain ⟨hpre, hg, x3, rfl⟩ := hp1
      have e1 : P[a]? = some P[a] := List.getElem?_eq_getElem (by omega)
      have e2 : P[b]? = some P[b] := List.getElem?_eq_getElem hb
      have m1 := hp P[a] (List.getElem_mem _)
      have m2 := hp P[b] (List.getElem_mem _)
      generalize P[a] = x at e1 m1
      generalize P[b] = y at e2 m2
      have hls : s[l]? = some (.lst (P.map pieceD)) := hpre.get hl
      have hz : ((List.range b).flatMap (rowE P) ++ (List.range a).filterMap (cellE P b)).length < LIM := by
        have h1 := rows_len P b (by omega)
        have h2 := List.length_filterMap_le (cellE P b) (List.range a)
        rw [List.length_range] at h2
        rw [List.length_append]
        show _ < 10000000
        omega
      have hc : (List.range (a + 1)).filterMap (cellE P b) = (List.range a).filterMap (cellE P b) ++ (match joinV x y with | some l => [(l, a, b)] | none => []) := by
        rw [List.range_succ, List.filterMap_append]
        congr 1
        have e3 : cellE P b a = (joinV x y).map fun l => (l, a, b) := by unfold cellE; rw [e1, e2]
        rw [List.filterMap_cons, e3]
        cases joinV x y <;> rfl
      have hlt := (List.getElem?_eq_some_iff.mp hg).1
      obtain ⟨R, hR⟩ : ∃ R, R = (List.range b).flatMap (rowE P) := ⟨_, rfl⟩
      obtain ⟨T, hT⟩ : ∃ T, T = (List.range a).filterMap (cellE P b) := ⟨_, rfl⟩
      rw [← hR, ← hT] at hg hz
      rw [← hT] at hc
      have M := p_meets m1 m2
      simp -dsimp [hls, atI_ofNat, e1, e2, pieceD, at_nat]
      by_cases q : x.1 = y.1
      · have hj : joinV x y = some true := by unfold joinV; rw [if_pos q]
        rw [hj] at hc
        rw [List.length_append] at hz
        simp -dsimp [q, hg, hz]
        refine ⟨hpre.set (Nat.le_refl _) _, ?_, _, rfl⟩
        rw [List.getElem?_set_self hlt, hc, ← hR]
        simp [eD, joinS]
      · rw [List.length_append] at hz
        have q' : ¬ (x.1 : Int) = (y.1 : Int) := fun e => q (Int.ofNat_inj.mp e)
        cases hm : meetsV x.2 y.2 with
        | true =>
          have hj : joinV x y = some false := by unfold joinV; rw [if_neg q, if_pos hm]
          rw [hj] at hc
          simp -dsimp [q', hg, hz, hls, atI_ofNat, e1, e2, pieceD, at_nat, M, hm]
          refine ⟨hpre.set (Nat.le_refl _) _, ?_, _, rfl⟩
          rw [List.getElem?_set_self hlt, hc, ← hR]
          simp [eD, joinS]
        | false =>
          have hj : joinV x y = none := by unfold joinV; rw [if_neg q, if_neg (by rw [hm]; decide)]
          rw [hj] at hc
          simp -dsimp [q', hg, hz, hls, atI_ofNat, e1, e2, pieceD, at_nat, M, hm]
          exact ⟨hpre, by rw [hg, hc, List.append_nil, ← hR], _, rfl⟩
    · obtain ⟨hpre, hg, x3, rfl⟩ := hp1
      rw [show (rgD 0 (b : Int)).length = b from rgD_length b] at hg
      simp -dsimp
      refine ⟨hpre, ?_, _, _, rfl⟩
      rw [hg, List.range_succ, List.flatMap_append]
      simp only [List.flatMap_cons, List.flatMap_nil, List.append_nil]
      rfl
  · obtain ⟨hpre, hg, x2, x3, rfl⟩ := hp1
    rw [show (rgD 0 (P.length : Int)).length = P.length from rgD_length _] at hg
    simp -dsimp
    exact ⟨hpre, hg⟩

def N_mixed_ring : List Str := ["programs", "cuts", "pieces", "found", "waiting", "way", "words", "word", "a", "b", "after", "both"]
noncomputable def m_mixed_ring : MS :=
 (sSeq (sSet 2 (mCall G_pieces_of [(mVar 0), (mVar 1)]))
 (sSeq (sSet 3 (mCall G_joins [(mVar 2)]))
 (sSeq (sSet 4 (mNew (mLc (itF (mRg1 (mLen (mSeq (mVar 2))))) [8] (.nm 8) (ME.pure true) (mTup [(mTup [(mVar 8)]), (mC (.str (Str.ofString "")))]))))
 (sSeq (sWhile (mTst (mBin gGt (mLen (mSeq (mVar 4))) (mC (.int 0))))
 (sSeq (sAsg (tgT [(tgN 5), (tgN 6)]) (mPopAt (mVar 4) (mC (.int 0))))
 (sFor (itV (mVar 3)) (tgT [(tgN 7), (tgN 8), (tgN 9)])
 (sIf (mTst (mBin gIn (mBin gIx (mVar 5) (mNeg (mC (.int 1)))) (mTup [(mVar 8), (mVar 9)])))
 (sSeq (sSet 10 (mBin gSub (mBin gAdd (mVar 8) (mVar 9)) (mBin gIx (mVar 5) (mNeg (mC (.int 1))))))
 (sSeq (sSet 11 (mAnd (mBin gInS (mC (.str (Str.ofString "S"))) (mBin gAdd (mVar 6) (mVar 7))) (mBin gInS (mC (.str (Str.ofString "C"))) (mBin gAdd (mVar 6) (mVar 7)))))
 (sSeq (sIf (mAndT (mTst (mBin gEq (mVar 10) (mBin gIx (mVar 5) (mC (.int 0))))) (mAndT (mTst (mBin gGt (mLen (mSeq (mVar 5))) (mC (.int 2)))) (mTst (mVar 11))))
 (sRet (mVar 5))
 sSkip)
 (sIf (mAndT (mTst (mBin gNotIn (mVar 10) (mVar 5))) (mTst (mBin gGt (mVar 10) (mBin gIx (mVar 5) (mC (.int 0))))))
 (sExpr (mApp (mVar 4) (mTup [(mBin gAdd (mVar 5) (mTup [(mVar 10)])), (mBin gAdd (mVar 6) (mVar 7))])))
 sSkip))))
 sSkip))) 2000000)
 (sRet (mC .non))))))
noncomputable def F_mixed_ring : FM := bodyM 12 m_mixed_ring

noncomputable def G_mixed_ring : FM := trim F_mixed_ring
theorem n_mixed_ring : NrmF F_mixed_ring G_mixed_ring := nrm_trim _
def ringOf (ps : List Prog) (cs : List (List Nat)) : Option (List Nat) := mixedV (edgesV (piecesV ps cs)) (piecesV ps cs).length
def MxP (A B : DV) (st st2 : Sto) (E : List Edge) (N : Nat) (T : Option (List Nat)) (n : Nat) (e : DL.Env) (s : Sto) : Prop := ∃ q : List WW, Pre st2 s ∧ s[st.length + 2]? = some (.lst (q.map wwD)) ∧ n ≤ 1999999 ∧ bfs E (n + 1) q = T ∧ wts N q ≤ n ∧ (∀ u ∈ q, Okw N u ∧ u.2.length < u.1.length) ∧ ∃ x5 x6 x7 x8 x9 x10 x11, e = [some A, some B, some (.ref st.length), some (.ref (st.length + 1)), some (.ref (st.length + 2)), x5, x6, x7, x8, x9, x10, x11]
def MxQ (A B : DV) (st st2 : Sto) (E : List Edge) (q : List WW) (w : WW) (i : Nat) (e : DL.Env) (s : Sto) : Prop := Pre st2 s ∧ s[st.length + 2]? = some (.lst ((q ++ ((E.take i).filterMap (inc (lastN w.1))).filterMap (pushE w)).map wwD)) ∧ ((E.take i).filterMap (inc (lastN w.1))).any (closesE w) = false ∧ ∃ x7 x8 x9 x10 x11, e = [some A, some B, some (.ref st.length), some (.ref (st.length + 1)), some (.ref (st.length + 2)), some (nsD w.1), some (.str (encW w.2)), x7, x8, x9, x10, x11]
theorem ix_last {w : List Nat} (h : w ≠ []) (st : Sto) : gIx (nsD w) (.int (-1)) st = some (.int (lastN w : Nat), st) := by
  show (atI (w.map fun (n : Nat) => DV.int n) (-1)).map (·, st) = _
  rw [at_last, List.getLast?_map]
  unfold lastN
  cases hw : w.getLast? with
  | none => exact absurd (List.getLast?_eq_none_iff.mp hw) h
  | some x => rfl
theorem ix_head {w : List Nat} (h : w ≠ []) (st : Sto) : gIx (nsD w) (.int 0) st = some (.int (headN w : Nat), st) := by
  cases w with
  | nil => exact absurd rfl h
  | cons x r =>
    show (atI (DV.int (x : Nat) :: r.map fun (n : Nat) => DV.int n) 0).map (·, st) = _
    rw [ev_at0]
    rfl
theorem p_mixed_ring {ps : List Prog} {cs : List (List Nat)} (H : OkProgs ps) (C : OkCs2 ps cs) (st : Sto) : G_mixed_ring [psD ps, csD cs] st = some (oT (ringOf ps cs), st) := by
  refine trim_V ?_ (ltD_oT2 _ _)
  have hN := pieces_len H C
  have hpl : ∀ x ∈ piecesV ps cs, x.2.length ≤ 3 := fun x hx => by
    obtain ⟨v, _, rfl⟩ := List.mem_map.mp hx
    exact slice_len (pAt_ok H _) _ _
  have okE := edges_ok (piecesV ps cs)
  have hEl : (edgesV (piecesV ps cs)).length ≤ 81 := by
    have := rows_len (piecesV ps cs) (piecesV ps cs).length hN
    unfold edgesV
    omega
  have B1 : ∀ s, G_pieces_of [psD ps, csD cs] s = some (.ref s.length, s ++ [.lst ((piecesV ps cs).map pieceD)]) := fun s => p_pieces_of H C s
  have hR : ringOf ps cs = mixedV (edgesV (piecesV ps cs)) (piecesV ps cs).length := rfl
  generalize ringOf ps cs = T at hR ⊢
  have J1 := @p_joins (piecesV ps cs)
  generalize piecesV ps cs = P at hN hpl okE hEl B1 hR J1
  have J2 : ∀ s : Sto, G_joins [.ref s.length] (s ++ [.lst (P.map pieceD)]) = some (.ref (s.length + 1), s ++ [.lst (P.map pieceD), .lst ((edgesV P).map eD)]) := fun s => by
    rw [J1 app_get0 hN hpl, List.append_assoc, List.length_append]
    rfl
  generalize edgesV P = E at okE hEl hR J2
  have hr : okR 0 (P.length : Int) = true := by simp [okR]; omega
  simp -dsimp [F_mixed_ring, m_mixed_ring, B1, J2, app_get0, hr]
  refine lc_map (List.range P.length) (fun k => .int (k : Nat)) (fun a => wwD ([a], [])) (rgD_map _) trivial (fun k hk => ?_) ?_
  · simp -dsimp [wwD, encW_nil, nsD]
  have hstart : (List.range P.length).map (fun a => wwD ([a], [])) = (DL.start P.length).map wwD := by unfold DL.start; rw [List.map_map]; rfl
  rw [hstart]
  simp -dsimp
  refine while_W (fun n e s => MxP (psD ps) (csD cs) st (st ++ [.lst (P.map pieceD), .lst (E.map eD)]) E P.length T n e s) (fun n e s hp => ?_) 2000000 1999999 _ _ ⟨DL.start P.length, ⟨[.lst ((DL.start P.length).map wwD)], by simp⟩, ?_, Nat.le_refl _, hR.symm, ?_, fun u hu => ⟨start_ok u hu, ?_⟩, none, none, none, none, none, none, none, rfl⟩ (by decide)
  · obtain ⟨q, hpre, hq, hn9, hT, hw, ho, x5, x6, x7, x8, x9, x10, x11, rfl⟩ := hp
    have hql : q.length ≤ wts P.length q := len_wts q
    simp -dsimp [hq]
    cases q with
    | nil =>
      have hTn : T = none := by rw [← hT]; cases n <;> rfl
      simp -dsimp [hTn, oT]
      exact pre2.trans hpre
    | cons w q =>
      obtain ⟨ow, ow2⟩ := ho w List.mem_cons_self
      have hlt := (List.getElem?_eq_some_iff.mp hq).1
      have hwl : w.1.length ≤ 9 := Nat.le_trans (nodup_bound ow.nd ow.lt) hN
      obtain ⟨m, rfl⟩ : ∃ m, n = m + 1 := ⟨n - 1, by have := len_wts (N := P.length) (w :: q); simp only [List.length_cons] at this; omega⟩
      have hpos : (0 : Int) < (q.length : Int) + 1 := by omega
      have hle : q.length + 1 ≤ LIM := by simp only [List.length_cons] at hql; show _ ≤ 10000000; omega
      have hq2 : s[st.length + 2]? = some (.lst (wwD w :: q.map wwD)) := hq
      have hwd : wwD w = .tup [nsD w.1, .str (encW w.2)] := rfl
      simp -dsimp [hq2, hpos, hle, hwd, ev_tgs0, ev_tgs1]
      have hf' : s[st.length + 1]? = some (.lst (E.map eD)) := hpre.get (by rw [app_get]; rfl)
      simp -dsimp [hf']
      have hne := ow.ne
      have hqlen : q.length ≤ 1999999 := by simp only [List.length_cons] at hql; omega
      refine for_W (fun i e s => MxQ (psD ps) (csD cs) st (st ++ [.lst (P.map pieceD), .lst (E.map eD)]) E q w i e s) ⟨hpre.set (by simp) _, by rw [List.getElem?_set_self hlt]; simp, rfl, _, _, _, _, _, rfl⟩ (fun i e s hp => ?_) (fun i d e s hd hp => ?_) (fun e s hp => ?_)
      · obtain ⟨hpre, _⟩ := hp
        exact hpre.get (by rw [app_get]; rfl)
      · obtain ⟨hpre, hg, hcl, x7, x8, x9, x10, x11, rfl⟩ := hp
        rw [List.getElem?_map] at hd
        obtain ⟨⟨l, a, b⟩, he, rfl⟩ := Option.map_eq_some_iff.mp hd
        have heE := List.mem_of_getElem? he
        have hab := okE.lt _ heE
        simp only at hab
        have htake : E.take (i + 1) = E.take i ++ [(l, a, b)] := by rw [List.take_add_one, he]; rfl
        have hlt2 := (List.getElem?_eq_some_iff.mp hg).1
        have hpl2 : (((E.take i).filterMap (inc (lastN w.1))).filterMap (pushE w)).length ≤ 81 := by
          have h1 := List.length_filterMap_le (pushE w) ((E.take i).filterMap (inc (lastN w.1)))
          have h2 := List.length_filterMap_le (inc (lastN w.1)) (E.take i)
          rw [List.length_take] at h2
          omega
        have hstep : ∀ e s, (inc (lastN w.1) (l, a, b) = none ∧ MxQ (psD ps) (csD cs) st (st ++ [.lst (P.map pieceD), .lst (E.map eD)]) E q w i e s) → MxQ (psD ps) (csD cs) st (st ++ [.lst (P.map pieceD), .lst (E.map eD)]) E q w (i + 1) e s := fun e s ⟨h1, h2, h3, h4, h5⟩ => by
          refine ⟨h2, ?_, ?_, h5⟩
          · rw [htake, List.filterMap_append, List.filterMap_cons, h1]
            simpa using h3
          · rw [htake, List.filterMap_append, List.filterMap_cons, h1]
            simpa using h4
        have hL := ix_last hne
        have hH := ix_head hne
        simp -dsimp [eD, ev_tgs0, ev_tgs1, hL, hH]
        by_cases hv : lastN w.1 = a ∨ lastN w.1 = b
        · obtain ⟨x, hinc, hxi⟩ : ∃ x, inc (lastN w.1) (l, a, b) = some (l, x) ∧ (a : Int) + (b : Int) - (lastN w.1 : Nat) = (x : Nat) := by
            unfold inc
            by_cases h1 : lastN w.1 = a
            · exact ⟨b, by rw [if_pos h1], by rw [h1]; omega⟩
            · have h2 : lastN w.1 = b := hv.resolve_left h1
              exact ⟨a, by rw [if_neg h1, if_pos h2], by rw [h2]; omega⟩
          have hd1 : (decide ((a : Int) = (lastN w.1 : Nat)) || decide ((b : Int) = (lastN w.1 : Nat))) = true := by
            rcases hv with h | h
            · rw [h]; simp
            · rw [h]; simp
          rw [hd1]
          have hwz : w.2.length + 1 ≤ LIM := by show _ ≤ 10000000; omega
          simp -dsimp [hL, hH, hxi, -DL.v_and]
          refine and_V (decide (true ∈ w.2 ++ [l])) (decide (false ∈ w.2 ++ [l])) (by simp -dsimp [add_word hwz, inS_S]) (by simp -dsimp [add_word hwz, inS_C]) ?_
          generalize hS : decide (true ∈ w.2 ++ [l]) = bS
          generalize hC : decide (false ∈ w.2 ++ [l]) = bC
          have hlen : itemsOf s (nsD w.1) = some (w.1.map fun (n : Nat) => DV.int n) := rfl
          by_cases hc : closesE w (l, x) = true
          · have hcc := hc
            unfold closesE at hc
            simp only [Bool.and_eq_true, decide_eq_true_eq] at hc
            obtain ⟨c1, c2, c3, c4⟩ := hc
            have c2' : (2 : Int) < (w.1.length : Nat) := by omega
            have hT2 : T = some w.1 := by
              rw [← hT]
              show (if closable E w = true then some w.1 else bfs E (m + 1) (q ++ pushes E w)) = _
              rw [if_pos]
              unfold closable incs
              exact List.any_eq_true.mpr ⟨(l, x), List.mem_filterMap.mpr ⟨_, heE, hinc⟩, hcc⟩
            have c3' : bS = true := by rw [← hS]; exact decide_eq_true c3
            have c4' : bC = true := by rw [← hC]; exact decide_eq_true c4
            rw [c3', c4', hT2]
            have hx2 : ((x : Nat) : Int) = (headN w.1 : Nat) := by rw [c1]
            simp -dsimp [hH, hx2, hlen, c2', oT]
            exact pre2.trans hpre
          · simp -dsimp [-DL.w_if]
            refine if_skip2 (s := s) ?_ ?_
            · unfold closesE at hc
              simp only [Bool.and_eq_true, decide_eq_true_eq] at hc
              by_cases c1 : x = headN w.1
              · by_cases c2 : 2 < w.1.length
                · have c2' : (2 : Int) < (w.1.length : Nat) := by omega
                  have c34 : (bS && bC) = false := by
                    cases bS with
                    | false => rfl
                    | true =>
                      cases bC with
                      | false => rfl
                      | true => exact absurd ⟨c1, c2, of_decide_eq_true hS, of_decide_eq_true hC⟩ hc
                  rw [c34]
                  have hx2 : ((x : Nat) : Int) = (headN w.1 : Nat) := by rw [c1]
                  simp -dsimp [hH, hx2, hlen, c2']
                · have c2' : ¬ (2 : Int) < (w.1.length : Nat) := by omega
                  have hx2 : ((x : Nat) : Int) = (headN w.1 : Nat) := by rw [c1]
                  simp -dsimp [hH, hx2, hlen, c2']
              · have hx2 : ¬ ((x : Nat) : Int) = (headN w.1 : Nat) := fun e => c1 (Int.ofNat_inj.mp e)
                simp -dsimp [hH, hx2, hlen]
            · have hcl2 : ((E.take (i + 1)).filterMap (inc (lastN w.1))).any (closesE w) = false := by
                rw [htake, List.filterMap_append, List.any_append, hcl, List.filterMap_cons, hinc]
                simp only [List.filterMap_nil, List.any_cons, List.any_nil, Bool.or_false, Bool.false_or]
                simpa using hc
              have hz1 : w.1.length + 1 ≤ LIM := by show _ ≤ 10000000; omega
              have hz2 : (q ++ ((E.take i).filterMap (inc (lastN w.1))).filterMap (pushE w)).length < LIM := by rw [List.length_append]; show _ < 10000000; omega
              have htk : ((E.take (i + 1)).filterMap (inc (lastN w.1))).filterMap (pushE w) = ((E.take i).filterMap (inc (lastN w.1))).filterMap (pushE w) ++ (match pushE w (l, x) with | some u => [u] | none => []) := by
                rw [htake, List.filterMap_append, List.filterMap_append, List.filterMap_cons, hinc]
                congr 1
                simp only [List.filterMap_nil, List.filterMap_cons]
                cases pushE w (l, x) <;> rfl
              by_cases hp1 : x ∈ w.1
              · have hpn : pushE w (l, x) = none := by unfold pushE; rw [if_neg]; exact fun h => h.1 hp1
                rw [hpn] at htk
                simp -dsimp [hL, hH, notin_nsD, hp1]
                exact ⟨hpre, by rw [hg, htk, List.append_nil], hcl2, _, _, _, _, _, rfl⟩
              · by_cases hp2 : headN w.1 < x
                · have hpn : pushE w (l, x) = some (w.1 ++ [x], w.2 ++ [l]) := by unfold pushE; rw [if_pos ⟨hp1, hp2⟩]
                  rw [hpn] at htk
                  have hp2' : ((headN w.1 : Nat) : Int) < (x : Nat) := by omega
                  rw [List.length_append] at hz2
                  simp -dsimp [hL, hH, notin_nsD, hp1, hp2', hg, hz2, nsD_add1 hz1, add_word hwz]
                  refine ⟨hpre.set (by simp) _, ?_, hcl2, _, _, _, _, _, rfl⟩
                  rw [List.getElem?_set_self hlt2, htk]
                  simp [wwD]
                · have hpn : pushE w (l, x) = none := by unfold pushE; rw [if_neg]; exact fun h => hp2 h.2
                  rw [hpn] at htk
                  have hp2' : ¬ ((headN w.1 : Nat) : Int) < (x : Nat) := by omega
                  simp -dsimp [hL, hH, notin_nsD, hp1, hp2']
                  exact ⟨hpre, by rw [hg, htk, List.append_nil], hcl2, _, _, _, _, _, rfl⟩
        · have hinc : inc (lastN w.1) (l, a, b) = none := by
            unfold inc
            rw [if_neg fun e => hv (.inl e), if_neg fun e => hv (.inr e)]
          have hd1 : (decide ((a : Int) = (lastN w.1 : Nat)) || decide ((b : Int) = (lastN w.1 : Nat))) = false := by
            have h1 : ¬ (a : Int) = (lastN w.1 : Nat) := fun e => hv (.inl (Int.ofNat_inj.mp e).symm)
            have h2 : ¬ (b : Int) = (lastN w.1 : Nat) := fun e => hv (.inr (Int.ofNat_inj.mp e).symm)
            rw [decide_eq_false h1, decide_eq_false h2]
            rfl
          rw [hd1]
          simp -dsimp
          exact hstep _ _ ⟨hinc, hpre, hg, hcl, _, _, _, _, _, rfl⟩
      · obtain ⟨hpre, hg, hcl, x7, x8, x9, x10, x11, rfl⟩ := hp
        rw [List.length_map, List.take_length] at hg hcl
        have hnc : ¬ closable E w = true := by
          unfold closable incs
          rw [hcl]
          decide
        have hT2 : bfs E (m + 1) (q ++ pushes E w) = T := by
          rw [← hT]
          show _ = (if closable E w = true then some w.1 else bfs E (m + 1) (q ++ pushes E w))
          rw [if_neg hnc]
        have hpw := push_wt okE ow
        rw [wts_cons] at hw
        refine ⟨m, Nat.lt_succ_self _, q ++ pushes E w, hpre, hg, by omega, hT2, by rw [wts_append]; omega, fun u hu => ?_, _, _, _, _, _, _, _, rfl⟩
        rcases List.mem_append.mp hu with hu | hu
        · exact ho u (List.mem_cons_of_mem _ hu)
        · refine ⟨push_ok okE ow hu, ?_⟩
          obtain ⟨_, _, _, _, rfl⟩ := push_mem hu
          simp only [List.length_append, List.length_cons, List.length_nil]
          omega
  · exact app_get
  · have := start_wts hN
    omega
  · obtain ⟨a, _, rfl⟩ := List.mem_map.mp hu
    simp

def N_is_as_good : List Str := ["programs", "cuts"]
noncomputable def m_is_as_good : MS :=
 (sRet (mBin gIs (mCall G_mixed_ring [(mVar 0), (mVar 1)]) (mC .non)))
noncomputable def F_is_as_good : FM := bodyM 2 m_is_as_good

noncomputable def G_is_as_good : FM := trim F_is_as_good
theorem n_is_as_good : NrmF F_is_as_good G_is_as_good := nrm_trim _
theorem p_is_as_good {ps : List Prog} {cs : List (List Nat)} (H : OkProgs ps) (C : OkCs2 ps cs) (st : Sto) : G_is_as_good [psD ps, csD cs] st = some (.bl (ringOf ps cs).isNone, st) := by
  refine trim_V ?_ rfl
  have M : ∀ s, G_mixed_ring [psD ps, csD cs] s = some (oT (ringOf ps cs), s) := fun s => p_mixed_ring H C s
  cases h : ringOf ps cs with
  | none => simp -dsimp [F_is_as_good, m_is_as_good, M, h, oT]
  | some r => simp -dsimp [F_is_as_good, m_is_as_good, M, h, oT, nsD]

def N__law_same : List Str := ["actual", "due", "k"]
noncomputable def m__law_same (self : FM) : MS :=
 (sSeq (sIf (mOrT (mTst (mIsi "tuple" (mVar 1))) (mTst (mIsi "list" (mVar 1))))
 (sSeq (sIf (mOrT (mTst (mBin gNe (mIsi "tuple" (mVar 1)) (mIsi "tuple" (mVar 0)))) (mOrT (mTst (mBin gNe (mIsi "list" (mVar 1)) (mIsi "list" (mVar 0)))) (mTst (mBin gNe (mLen (mSeq (mVar 0))) (mLen (mSeq (mVar 1)))))))
 (sRet (mC (.bl false)))
 sSkip)
 (sRet (mBin gEq (mLen (mLc (itF (mRg1 (mLen (mSeq (mVar 1))))) [2] (.nm 2) (mNotT (mTst (mCall self [(mBin gIx (mVar 0) (mVar 2)), (mBin gIx (mVar 1) (mVar 2))]))) (mVar 2))) (mC (.int 0)))))
 sSkip)
 (sSeq (sIf (mTst (mBin gIs (mVar 1) (mC .non)))
 (sRet (mBin gIs (mVar 0) (mC .non)))
 sSkip)
 (sSeq (sIf (mOrT (mTst (mIsi "bool" (mVar 1))) (mTst (mIsi "bool" (mVar 0))))
 (sRet (mAnd (mIsi "bool" (mVar 1)) (mAnd (mIsi "bool" (mVar 0)) (mBin gEq (mVar 0) (mVar 1)))))
 sSkip)
 (sSeq (sIf (mTst (mIsi "int" (mVar 1)))
 (sRet (mAnd (mIsi "int" (mVar 0)) (mBin gEq (mVar 0) (mVar 1))))
 sSkip)
 (sRet (mAnd (mIsi "str" (mVar 0)) (mAnd (mIsi "str" (mVar 1)) (mBin gEq (mVar 0) (mVar 1)))))))))
noncomputable def F__law_same : Nat → FM
  | 0 => fun _ _ => none
  | k + 1 => bodyM 3 (m__law_same (F__law_same k))

noncomputable def G__law_same : FM := trim (F__law_same 8)
theorem n__law_same : NrmF (F__law_same 8) G__law_same := nrm_trim _
theorem p_same0 : ∀ (k n : Nat) (a b : DV) (st : Sto), n < k → Same st n a b → V (F__law_same k [a, b] st) fun d s => d = .bl true ∧ Pre st s := by
  intro k
  induction k with
  | zero => intro n a b st h; omega
  | succ k ih =>
    intro n a b st hn h
    show V (bodyM 3 (m__law_same (F__law_same k)) _ _) _
    cases h with
    | non => simp -dsimp [m__law_same]
    | bl n b => simp -dsimp [m__law_same]
    | int n i => simp -dsimp [m__law_same]
    | str n s => simp -dsimp [m__law_same]
    | @tup n xs ys hl hz h =>
      have hr : okR 0 (ys.length : Int) = true := by simp [okR]; omega
      simp -dsimp [m__law_same, hl, hr]
      refine lc_V (fun i acc s => acc = [] ∧ Pre st s) ⟨rfl, pre1⟩ (fun _ _ _ _ => trivial) (fun i d acc s hd hp => ?_) (fun acc s hp => ?_)
      · obtain ⟨hi, rfl⟩ := rgD_get hd
        obtain ⟨rfl, hp⟩ := hp
        have e1 : xs[i]? = some xs[i] := List.getElem?_eq_getElem (by omega)
        have e2 : ys[i]? = some ys[i] := List.getElem?_eq_getElem hi
        simp -dsimp [atI_ofNat, e1, e2]
        refine (ih n _ _ s (by omega) ((h i _ _ e1 e2).pre hp)).mono fun d s' hd => ?_
        obtain ⟨rfl, hp'⟩ := hd
        simp -dsimp [hp.trans hp']
      · obtain ⟨rfl, hp⟩ := hp
        simp -dsimp [hp]
    | @lst n a b xs ys h1 h2 hl hz h =>
      have hr : okR 0 (ys.length : Int) = true := by simp [okR]; omega
      simp -dsimp [m__law_same, hl, hr, h1, h2]
      refine lc_V (fun i acc s => acc = [] ∧ Pre st s) ⟨rfl, pre1⟩ (fun _ _ _ _ => trivial) (fun i d acc s hd hp => ?_) (fun acc s hp => ?_)
      · obtain ⟨hi, rfl⟩ := rgD_get hd
        obtain ⟨rfl, hp⟩ := hp
        have e1 : xs[i]? = some xs[i] := List.getElem?_eq_getElem (by omega)
        have e2 : ys[i]? = some ys[i] := List.getElem?_eq_getElem hi
        simp -dsimp [atI_ofNat, e1, e2, hp.get h1, hp.get h2]
        refine (ih n _ _ s (by omega) ((h i _ _ e1 e2).pre hp)).mono fun d s' hd => ?_
        obtain ⟨rfl, hp'⟩ := hd
        simp -dsimp [hp.trans hp']
      · obtain ⟨rfl, hp⟩ := hp
        simp -dsimp [hp]
theorem p_same {n : Nat} {a b : DV} {st : Sto} (h : Same st n a b) (hn : n < 8) : G__law_same [a, b] st = some (.bl true, st) := trim_V (p_same0 8 n a b st hn h) rfl

def N__law_pool : List Str := ["script", "salt", "cell"]
noncomputable def m__law_pool : MS :=
 (sSeq (sSet 1 (mC (.int 7)))
 (sSeq (sFor (itV (mSl (mVar 0) (ME.pure none) (mSome (mC (.int 63))))) (tgN 2)
 (sSet 1 (mBin gMod (mInt (mBin gAdd (mBin gMul (mVar 1) (mC (.int 31))) (mVar 2))) (mC (.int 1000003)))))
 (sRet (mNew (mArgs [(mNew (mSeq (mVar 0))), (mC (.int 0)), (mC (.int 0)), (mC (.int 0)), (mVar 1)])))))
noncomputable def F__law_pool : FM := bodyM 3 m__law_pool

noncomputable def G__law_pool : FM := F__law_pool
theorem n__law_pool : NrmF F__law_pool G__law_pool := fun ds st d st' h => ⟨d, st', h, .same d st'⟩
theorem p_pool {ns : List Int} (h : ns.length ≤ 63) : ∃ p, G__law_pool [.scr (ns.map DV.int)] [] = some (.ref 2, p.st) ∧ OkP p := by
  have : V (F__law_pool [.scr (ns.map DV.int)] []) fun d s => ∃ salt, d = .ref 2 ∧ s = [.lst (ns.map DV.int), .lst (ns.map DV.int), .lst [.ref 1, .int 0, .int 0, .int 0, .int salt]] := by
    simp -dsimp [F__law_pool, m__law_pool, cut_to]
    have ht : (ns.map DV.int).take 63 = ns.map DV.int := List.take_of_length_le (by simpa using h)
    rw [ht]
    refine for_W (fun i e s => s = [.lst (ns.map DV.int)] ∧ ∃ x y, e = [some (.scr (ns.map DV.int)), some (.int x), y]) ⟨rfl, _, _, rfl⟩ (fun i e s hp => by obtain ⟨rfl, _⟩ := hp; rfl) (fun i d e s hd hp => ?_) (fun e s hp => ?_)
    · obtain ⟨rfl, x, y, rfl⟩ := hp
      rw [List.getElem?_map] at hd
      obtain ⟨z, _, rfl⟩ := Option.map_eq_some_iff.mp hd
      have hs : small 31 = true := by decide
      simp -dsimp [gMul, gMod, hs]
    · obtain ⟨rfl, x, y, rfl⟩ := hp
      simp -dsimp
  obtain ⟨_, _, h1, salt, rfl, rfl⟩ := this
  exact ⟨⟨ns, 0, 0, 0, salt⟩, h1, by simp [OkP, h]⟩

def N__law_spread : List Str := ["cell", "mixed", "total", "k"]
noncomputable def m__law_spread : MS :=
 (sSeq (sSet 1 (mBin gMod (mInt (mVar 0)) (mC (.int 2147483647))))
 (sSeq (sSet 2 (mC (.int 1)))
 (sSeq (sFor (itF (mRg1 (mC (.int 4)))) (tgN 3)
 (sSeq (sSet 1 (mBin gMod (mInt (mBin gAdd (mBin gAdd (mBin gMul (mVar 1) (mC (.int 48271))) (mC (.int 12345))) (mVar 3))) (mC (.int 2147483647))))
 (sSet 2 (mBin gAdd (mBin gMul (mVar 2) (mC (.int 2147483647))) (mVar 1)))))
 (sRet (mVar 2)))))
noncomputable def F__law_spread : FM := bodyM 4 m__law_spread

noncomputable def G__law_spread : FM := trim F__law_spread
theorem n__law_spread : NrmF F__law_spread G__law_spread := nrm_trim _
theorem p_spread (c : Int) (st : Sto) : ∃ v, G__law_spread [.int c] st = some (.int v, st) := by
  have : V (F__law_spread [.int c] st) fun d s => (∃ v, d = .int v) ∧ Pre st s := by
    have hr : okR 0 4 = true := by decide
    simp -dsimp [F__law_spread, m__law_spread, hr]
    refine for_W (fun i e s => Pre st s ∧ ∃ x y z, e = [some (.int c), some (.int x), some (.int y), z]) ⟨pre1, _, _, _, rfl⟩ (fun _ _ _ _ => trivial) (fun i d e s hd hp => ?_) (fun e s hp => ?_)
    · obtain ⟨hi, rfl⟩ := rgD_get (n := 4) hd
      obtain ⟨hp, x, y, z, rfl⟩ := hp
      have hs : small 48271 = true := by decide
      have hs2 : small 2147483647 = true := by decide
      simp -dsimp [gMul, gMod, hs, hs2, hp]
    · obtain ⟨hp, x, y, z, rfl⟩ := hp
      simp -dsimp [hp]
  obtain ⟨_, _, h1, ⟨v, rfl⟩, h2⟩ := this
  exact ⟨v, trim_V ⟨_, _, h1, rfl, h2⟩ rfl⟩

def N__law_draw : List Str := ["pool", "many", "cell", "mixed", "value"]
noncomputable def m__law_draw : MS :=
 (sSeq (sIf (mAndT (mTst (mBin gLe (mBin gIx (mVar 0) (mC (.int 2))) (mC (.int 0)))) (mTst (mBin gLt (mBin gIx (mVar 0) (mC (.int 1))) (mLen (mSeq (mBin gIx (mVar 0) (mC (.int 0))))))))
 (sSeq (sSet 2 (mBin gIx (mBin gIx (mVar 0) (mC (.int 0))) (mBin gIx (mVar 0) (mC (.int 1)))))
 (sSeq (sAsg (tgI (mVar 0) (mC (.int 1))) (mBin gAdd (mBin gIx (mVar 0) (mC (.int 1))) (mC (.int 1))))
 (sSeq (sAsg (tgI (mVar 0) (mC (.int 2))) (mVar 2))
 (sIf (mTst (mBin gLt (mVar 2) (mC (.int 1000000000000000000))))
 (sAsg (tgI (mVar 0) (mC (.int 2))) (mCall G__law_spread [(mVar 2)]))
 sSkip))))
 sSkip)
 (sSeq (sAsg (tgI (mVar 0) (mC (.int 3))) (mBin gAdd (mBin gIx (mVar 0) (mC (.int 3))) (mC (.int 1))))
 (sSeq (sIf (mTst (mBin gLe (mBin gIx (mVar 0) (mC (.int 2))) (mC (.int 0))))
 (sSeq (sSet 3 (mBin gMod (mInt (mBin gAdd (mBin gAdd (mBin gMul (mBin gIx (mVar 0) (mC (.int 4))) (mC (.int 48271))) (mBin gMul (mBin gIx (mVar 0) (mC (.int 3))) (mC (.int 69621)))) (mC (.int 1)))) (mC (.int 2147483647))))
 (sSeq (sSet 3 (mBin gMod (mInt (mBin gAdd (mBin gMul (mVar 3) (mC (.int 16807))) (mBin gIx (mVar 0) (mC (.int 3))))) (mC (.int 2147483629))))
 (sRet (mBin gMod (mBin gDiv (mVar 3) (mC (.int 5))) (mVar 1)))))
 sSkip)
 (sSeq (sSet 4 (mBin gMod (mInt (mBin gIx (mVar 0) (mC (.int 2)))) (mVar 1)))
 (sSeq (sAsg (tgI (mVar 0) (mC (.int 2))) (mBin gDiv (mBin gIx (mVar 0) (mC (.int 2))) (mVar 1)))
 (sRet (mVar 4)))))))
noncomputable def F__law_draw : FM := bodyM 5 m__law_draw

noncomputable def G__law_draw : FM := trim F__law_draw
theorem n__law_draw : NrmF F__law_draw G__law_draw := nrm_trim _
theorem p_draw {p : PS} (h : OkP p) (g : Sto) {many : Int} (h0 : 0 < many) (h1 : many < 1073741824) : ∃ v p', G__law_draw [.ref 2, .int many] (p.st ++ g) = some (.int v, p'.st ++ g) ∧ 0 ≤ v ∧ v < many ∧ OkP p' := by
  obtain ⟨ns, i, r, c, salt⟩ := p
  obtain ⟨hi1, hi2, hz⟩ := h
  simp only at hi1 hi2 hz
  refine trim_draw ?_
  have hs : small 48271 = true := by decide
  have hs2 : small 69621 = true := by decide
  have hs3 : small 16807 = true := by decide
  have hm : ∀ z : Int, 0 ≤ z % many ∧ z % many < many := fun z => ⟨Int.emod_nonneg _ (by omega), Int.emod_lt_of_pos _ h0⟩
  simp -dsimp [F__law_draw, m__law_draw, PS.st, at_nat]
  refine cd_of (fun q => ?_) (fun q => ?_)
  · simp -dsimp [at_nat]
    refine cd_of (fun q => ?_) (fun q => ?_)
    · have q : i < ns.length := by simpa using q
      have hn : i.toNat < ns.length := by omega
      have hc : ns[i.toNat]? = some ns[i.toNat] := List.getElem?_eq_getElem hn
      generalize ns[i.toNat] = cell at hc
      have hi3 : 0 ≤ i + 1 := by omega
      simp -dsimp [at_nat, hi1, hc, gSet, ixN]
      refine cd_of (fun q2 => ?_) (fun q2 => ?_)
      · simp -dsimp
        obtain ⟨v, hv⟩ := p_spread cell (DO.lst (ns.map DV.int) :: DO.lst (ns.map DV.int) :: DO.lst [DV.ref 1, DV.int (i + 1), DV.int cell, DV.int c, DV.int salt] :: g)
        refine V_of hv ?_
        simp -dsimp [at_nat, gSet, ixN]
        refine cd_of (fun _ => ?_) (fun _ => ?_) <;>
        (simp -dsimp [at_nat, gMul, gMod, gDiv, hs, hs2, hs3, h0, h1, gSet, ixN]; exact draw_ok (hm _).1 (hm _).2 ⟨by simp only; omega, by simp only; omega, hz⟩)
      · simp -dsimp [at_nat, gSet, ixN]
        refine cd_of (fun _ => ?_) (fun _ => ?_) <;>
        (simp -dsimp [at_nat, gMul, gMod, gDiv, hs, hs2, hs3, h0, h1, gSet, ixN]; exact draw_ok (hm _).1 (hm _).2 ⟨by simp only; omega, by simp only; omega, hz⟩)
    · simp -dsimp [at_nat, gSet, ixN]
      refine cd_of (fun _ => ?_) (fun _ => ?_) <;>
        (simp -dsimp [at_nat, gMul, gMod, gDiv, hs, hs2, hs3, h0, h1, gSet, ixN]; exact draw_ok (hm _).1 (hm _).2 ⟨by simp only; omega, by simp only; omega, hz⟩)
  · simp -dsimp [at_nat, gSet, ixN]
    refine cd_of (fun _ => ?_) (fun _ => ?_) <;>
        (simp -dsimp [at_nat, gMul, gMod, gDiv, hs, hs2, hs3, h0, h1, gSet, ixN]; exact draw_ok (hm _).1 (hm _).2 ⟨by simp only; omega, by simp only; omega, hz⟩)
theorem draw_V {p : PS} (h : OkP p) {g : Sto} {many : Int} (h0 : 0 < many) (h1 : many < 1073741824) {Q : DV → Sto → Prop} (q : ∀ v p', OkP p' → 0 ≤ v → v < many → Q (.int v) (p'.st ++ g)) : V (G__law_draw [.ref 2, .int many] (p.st ++ g)) Q := by
  obtain ⟨v, p', e, h2, h3, h4⟩ := p_draw h g h0 h1
  exact V_of e (q v p' h4 h2 h3)

def N__law_pick : List Str := ["pool", "items"]
noncomputable def m__law_pick : MS :=
 (sRet (mBin gIx (mVar 1) (mCall G__law_draw [(mVar 0), (mLen (mSeq (mVar 1)))])))
noncomputable def F__law_pick : FM := bodyM 2 m__law_pick

noncomputable def G__law_pick : FM := trim F__law_pick
theorem n__law_pick : NrmF F__law_pick G__law_pick := nrm_trim _
theorem p_pick {p : PS} (h : OkP p) {g : Sto} {j : Nat} {ds : List DV} (hj : g[j]? = some (.lst ds)) (h0 : 0 < ds.length) (h1 : ds.length ≤ 1000) (hd : ∀ d ∈ ds, ltD 3 d = true) : ∃ d p', G__law_pick [.ref 2, .ref (j + 3)] (p.st ++ g) = some (d, p'.st ++ g) ∧ OkP p' ∧ d ∈ ds := by
  refine trim_pool (R := fun d => d ∈ ds) ?_ hd
  obtain ⟨v, p', h2, h3, h4, h5⟩ := p_draw h g (many := ds.length) (by omega) (by omega)
  have hv : v.toNat < ds.length := by omega
  have e1 : ds[v.toNat]? = some ds[v.toNat] := List.getElem?_eq_getElem hv
  simp -dsimp [F__law_pick, m__law_pick, hj, h2, at_nat, h3, e1]
  exact ⟨p', pre1, h5, List.getElem_mem hv⟩
theorem pick_V {p : PS} (h : OkP p) {g : Sto} {j : Nat} {ds : List DV} {Q : DV → Sto → Prop} (hj : g[j]? = some (.lst ds)) (h0 : 0 < ds.length) (h1 : ds.length ≤ 1000) (hd : ∀ d ∈ ds, ltD 3 d = true) (q : ∀ d p', OkP p' → d ∈ ds → Q d (p'.st ++ g)) : V (G__law_pick [.ref 2, .ref (j + 3)] (p.st ++ g)) Q := by
  obtain ⟨d, p', e, h2, h3⟩ := p_pick h hj h0 h1 hd
  exact V_of e (q d p' h2 h3)

def N__law_programs : List Str := ["pool", "most", "many", "keys", "work", "k"]
noncomputable def m__law_programs : MS :=
 (sSeq (sSet 2 (mBin gAdd (mC (.int 1)) (mCall G__law_draw [(mVar 0), (mVar 1)])))
 (sSeq (sSet 3 (mBin gAdd (mC (.int 1)) (mCall G__law_draw [(mVar 0), (mC (.int 3))])))
 (sRet (mTupOf (mLc (itF (mRg1 (mVar 2))) [4] (.nm 4) (ME.pure true) (mTupOf (mLc (itF (mRg1 (mCall G__law_draw [(mVar 0), (mC (.int 4))]))) [5] (.nm 5) (ME.pure true) (mTup [(mCall G__law_pick [(mVar 0), (mNew (mArgs [(mC (.str (Str.ofString "read"))), (mC (.str (Str.ofString "write")))]))]), (mCall G__law_draw [(mVar 0), (mVar 3)])]))))))))
noncomputable def F__law_programs : FM := bodyM 6 m__law_programs

noncomputable def G__law_programs : FM := trim F__law_programs
theorem n__law_programs : NrmF F__law_programs G__law_programs := nrm_trim _
def PgO (g : Sto) (i : Nat) (acc : List DV) (s : Sto) : Prop := ∃ (p : PS) (G : Sto) (ps : List Prog), s = p.st ++ (g ++ G) ∧ OkP p ∧ acc = ps.map pD ∧ ps.length = i ∧ ∀ q ∈ ps, OkProg q
def PgI (g : Sto) (i : Nat) (acc : List DV) (s : Sto) : Prop := ∃ (p : PS) (G : Sto) (q : Prog), s = p.st ++ (g ++ G) ∧ OkP p ∧ acc = q.map sD ∧ q.length = i ∧ ∀ x ∈ q, 0 ≤ x.2 ∧ x.2 ≤ 2
theorem programs_V {p : PS} (ok : OkP p) {g : Sto} {Q : DV → Sto → Prop} (q : ∀ ps p', OkP p' → OkProgs ps → Q (psD ps) (p'.st ++ g)) : V (G__law_programs [.ref 2, .int 3] (p.st ++ g)) Q := by
  suffices key : V (F__law_programs [.ref 2, .int 3] (p.st ++ g)) (PoolOk g fun d => ∃ ps, d = psD ps ∧ OkProgs ps) from by
    obtain ⟨d, p', h1, h2, ps, rfl, h3⟩ := trim_pool key fun d ⟨ps, e, _⟩ => by rw [e]; exact ltDs_pD 3 ps
    exact V_of h1 (q ps p' h2 h3)
  simp -dsimp [F__law_programs, m__law_programs]
  refine draw_V ok (by decide) (by decide) fun v p1 ok1 v0 v1 => ?_
  simp -dsimp
  refine draw_V ok1 (by decide) (by decide) fun w p2 ok2 w0 w1 => ?_
  have hr : okR 0 (1 + v) = true := by simp [okR]; omega
  simp -dsimp [hr]
  refine lc_V (fun i acc s => PgO g i acc s) ⟨p2, [], [], by simp, ok2, rfl, rfl, by simp⟩ (fun _ _ _ _ => trivial) (fun i d acc s hd hp => ?_) (fun acc s hp => ?_)
  · obtain ⟨p, G, ps, rfl, ok, rfl, hi, hps⟩ := hp
    simp -dsimp
    refine draw_V ok (by decide) (by decide) fun u p3 ok3 u0 u1 => ?_
    have hr2 : okR 0 u = true := by simp [okR]; omega
    simp -dsimp [hr2]
    refine lc_V (fun i acc s => PgI g i acc s) ⟨p3, G, [], rfl, ok3, rfl, rfl, by simp⟩ (fun _ _ _ _ => trivial) (fun j d2 acc s hd2 hp => ?_) (fun acc s hp => ?_)
    · obtain ⟨p, G, q, rfl, ok, rfl, hj, hq⟩ := hp
      simp -dsimp
      refine pick_V (g := g ++ (G ++ [DO.lst [DV.str (Str.ofString "read"), DV.str (Str.ofString "write")]])) (j := g.length + G.length) (ds := [DV.str (Str.ofString "read"), DV.str (Str.ofString "write")]) ok (by rw [← List.append_assoc, ← List.length_append]; exact app_get0) (by simp) (by simp) (fun d hd => ?_) (fun d p4 ok4 hd => ?_)
      · simp only [List.mem_cons, List.not_mem_nil, or_false] at hd
        rcases hd with rfl | rfl <;> rfl
      · simp -dsimp
        refine draw_V ok4 (by omega) (by omega) fun k p5 ok5 k0 k1 => ?_
        simp only [List.mem_cons, List.not_mem_nil, or_false] at hd
        have hdb : ∃ b, d = .str (Str.ofString (wordS b)) := by
          rcases hd with rfl | rfl
          · exact ⟨false, rfl⟩
          · exact ⟨true, rfl⟩
        obtain ⟨b, rfl⟩ := hdb
        simp -dsimp
        refine ⟨p5, G ++ [DO.lst [DV.str (Str.ofString "read"), DV.str (Str.ofString "write")]], q ++ [(b, k)], rfl, ok5, by simp [sD], by simp [hj], fun x hx => ?_⟩
        rcases List.mem_append.mp hx with hx | hx
        · exact hq x hx
        · rw [List.mem_singleton.mp hx]
          simp only
          omega
    · obtain ⟨p, G, q, rfl, ok, rfl, hj, hq⟩ := hp
      rw [rgD_len] at hj
      refine ⟨p, G, ps ++ [q], rfl, ok, by simp [pD], by simp [hi], fun x hx => ?_⟩
      rcases List.mem_append.mp hx with hx | hx
      · exact hps x hx
      · rw [List.mem_singleton.mp hx]
        exact ⟨by omega, hq⟩
  · obtain ⟨p, G, ps, rfl, ok, rfl, hi, hps⟩ := hp
    rw [rgD_len] at hi
    simp -dsimp
    exact ⟨p, by rw [← List.append_assoc]; exact pre2, ok, ps, rfl, by omega, hps⟩

def N__law_is_mixed : List Str := ["found", "ring", "words", "k", "a", "b", "some", "word", "x", "y"]
noncomputable def m__law_is_mixed : MS :=
 (sSeq (sIf (mOrT (mTst (mBin gLt (mLen (mSeq (mVar 1))) (mC (.int 3)))) (mOrT (mTst (mBin gNe (mLen (mSrtSet (mSeq (mVar 1)))) (mLen (mSeq (mVar 1))))) (mTst (mBin gNe (mBin gIx (mVar 1) (mC (.int 0))) (mMinS (mSeq (mVar 1)))))))
 (sRet (mC (.bl false)))
 sSkip)
 (sSeq (sSet 2 (mNew (mArgs [])))
 (sSeq (sFor (itF (mRg1 (mLen (mSeq (mVar 1))))) (tgN 3)
 (sSeq (sAsg (tgT [(tgN 4), (tgN 5)]) (mTup [(mMin2 (mBin gIx (mVar 1) (mBin gSub (mVar 3) (mC (.int 1)))) (mBin gIx (mVar 1) (mVar 3))), (mMax2 (mBin gIx (mVar 1) (mBin gSub (mVar 3) (mC (.int 1)))) (mBin gIx (mVar 1) (mVar 3)))]))
 (sSeq (sSet 6 (mNew (mLc (itV (mVar 0)) [7, 8, 9] (.tp [7, 8, 9]) (mTst (mBin gEq (mTup [(mVar 8), (mVar 9)]) (mTup [(mVar 4), (mVar 5)]))) (mVar 7))))
 (sSeq (sIf (mTst (mBin gEq (mVar 6) (mNew (mArgs []))))
 (sRet (mC (.bl false)))
 sSkip)
 (sSet 2 (mBin gAdd (mVar 2) (mVar 6)))))))
 (sRet (mAnd (mBin gIn (mC (.str (Str.ofString "S"))) (mVar 2)) (mBin gIn (mC (.str (Str.ofString "C"))) (mVar 2)))))))
noncomputable def F__law_is_mixed : FM := bodyM 10 m__law_is_mixed

noncomputable def G__law_is_mixed : FM := trim F__law_is_mixed
theorem n__law_is_mixed : NrmF F__law_is_mixed G__law_is_mixed := nrm_trim _
theorem ix_prev {r : List Nat} (hne : r ≠ []) {k : Nat} (h : k < r.length) (st : Sto) : gIx (nsD r) (.int ((k : Int) - 1)) st = some (.int (prevN r k : Nat), st) := by
  unfold prevN
  cases k with
  | zero => exact ix_last hne st
  | succ k =>
    have e : ((k + 1 : Nat) : Int) - 1 = (k : Int) := by omega
    rw [e, if_neg (by omega)]
    show (atI (r.map fun (n : Nat) => DV.int n) (k : Int)).map (·, st) = _
    rw [atI_ofNat, List.getElem?_map, Nat.add_sub_cancel, List.getElem?_eq_getElem (by omega)]
    rfl
theorem ix_here {r : List Nat} {k : Nat} (h : k < r.length) (st : Sto) : gIx (nsD r) (.int (k : Int)) st = some (.int (r[k]?.getD 0 : Nat), st) := by
  show (atI (r.map fun (n : Nat) => DV.int n) (k : Int)).map (·, st) = _
  rw [atI_ofNat, List.getElem?_map, List.getElem?_eq_getElem h]
  rfl
def MmP (E : List Edge) (r : List Nat) (l : Nat) (st : Sto) (i : Nat) (e : DL.Env) (s : Sto) : Prop := ∃ a x3 x4 x5 x6 x7 x8 x9, Pre st s ∧ s[a]? = some (.lst (((List.range i).flatMap (labAt E r)).map labD)) ∧ ((List.range i).all fun k => !(labAt E r k).isEmpty) = true ∧ e = [some (.ref l), some (nsD r), some (.ref a), x3, x4, x5, x6, x7, x8, x9]
theorem p_is_mixed {E : List Edge} {r : List Nat} {l : Nat} {st : Sto} (hl : st[l]? = some (.lst (E.map eD))) (hE : E.length ≤ 81) (hne : r ≠ []) (hr : r.length ≤ 60) : G__law_is_mixed [.ref l, nsD r] st = some (.bl (isMixedV E r), st) := by
  refine trim_V ?_ rfl
  have hlen : ∀ s, itemsOf s (nsD r) = some (r.map fun (n : Nat) => DV.int n) := fun _ => rfl
  have htup : tupOf (nsD r) = some (r.map fun (n : Nat) => DV.int n) := rfl
  obtain ⟨R, hR⟩ : ∃ R, R = isMixedV E r := ⟨_, rfl⟩
  have hR' := hR
  rw [← hR]
  unfold isMixedV at hR
  simp -dsimp [F__law_is_mixed, m__law_is_mixed, hlen, -DL.w_if]
  by_cases h3 : 3 ≤ r.length
  case neg =>
    have h3' : ((r.length : Nat) : Int) < 3 := by omega
    have hf : R = false := by rw [hR, decide_eq_false h3]; rfl
    simp -dsimp [hlen, h3, h3', hf]
  rw [decide_eq_true h3, Bool.true_and] at hR
  have h3' : ¬ ((r.length : Nat) : Int) < 3 := by omega
  have ht := toIs_f (fun (n : Nat) => (n : Int)) r
  have hnd := usort_nd r
  obtain ⟨m, hm, hmh⟩ := low_head hne
  have hul := usort_len (r.map fun (n : Nat) => (n : Int))
  rw [List.length_map] at hul
  have hz1 : (usort (r.map fun (n : Nat) => (n : Int))).length < 64 ∧ r.length ≤ 4000 := by omega
  have hH := ix_head hne
  by_cases hn : r.Nodup
  case neg =>
    have hn' : ¬ ((usort (r.map fun (n : Nat) => (n : Int))).length : Int) = (r.length : Int) := fun q => hn (hnd.mp (by omega))
    have hf : R = false := by rw [hR, decide_eq_false hn]; rfl
    simp -dsimp [hlen, h3', ht, hz1, hn', hf]
  have hn' := hnd.mpr hn
  have hz2 : r.length < 64 ∧ r.length ≤ 4000 := by omega
  rw [decide_eq_true hn, Bool.true_and] at hR
  by_cases hh : ∀ x ∈ r, headN r ≤ x
  case neg =>
    have hh' : ¬ ((headN r : Nat) : Int) = (m : Int) := fun q => hh (hmh.mp (by omega))
    have hf : R = false := by rw [hR, decide_eq_false hh]; rfl
    simp -dsimp [hlen, h3', ht, hz2, hn', hH, hm, hh', hf]
  have hh' := hmh.mpr hh
  rw [decide_eq_true hh, Bool.true_and] at hR
  have hrr : okR 0 (r.length : Int) = true := by simp [okR]; omega
  simp -dsimp [hlen, h3', ht, hz2, hn', hH, hm, hh', hrr]
  have hRall : ∀ k < r.length, labAt E r k = [] → R = false := fun k hk q => by
    rw [hR]
    have : ((List.range r.length).all fun k => !(labAt E r k).isEmpty) = false := List.all_eq_false.mpr ⟨k, List.mem_range.mpr hk, by rw [q]; decide⟩
    rw [this]
    rfl
  refine for_W (fun i e s => MmP E r l st i e s) ⟨st.length, _, _, _, _, _, _, _, pre2, app_get0, rfl, rfl⟩ (fun _ _ _ _ => trivial) (fun k d e s hd hp => ?_) (fun e s hp => ?_)
  · obtain ⟨hk, rfl⟩ := rgD_get hd
    obtain ⟨a, x3, x4, x5, x6, x7, x8, x9, hpre, ha, hall, rfl⟩ := hp
    have hP := ix_prev hne hk
    have hC := ix_here hk
    have hls := hpre.get hl
    simp -dsimp [hP, hC, min_cast, max_cast, hls]
    have hlab : labAt E r k = (E.filter fun e => decide (e.2.1 = min (prevN r k) (r[k]?.getD 0) ∧ e.2.2 = max (prevN r k) (r[k]?.getD 0))).map (·.1) := rfl
    have hll := labs_len (E := E) (r := r) k
    have hk60 : k * E.length ≤ 60 * 81 := Nat.mul_le_mul (by omega) hE
    have hsn : (List.range (k + 1)).flatMap (labAt E r) = (List.range k).flatMap (labAt E r) ++ labAt E r k := by rw [List.range_succ, List.flatMap_append]; simp only [List.flatMap_cons, List.flatMap_nil, List.append_nil]
    have hal : (labAt E r k).isEmpty = false → ((List.range (k + 1)).all fun k => !(labAt E r k).isEmpty) = true := fun q => by
      rw [List.range_succ, List.all_append, hall]
      simp only [List.all_cons, List.all_nil, q]
      rfl
    have hRk := hRall k hk
    have hlk : (labAt E r k).length ≤ 81 := by
      rw [hlab, List.length_map]
      exact Nat.le_trans (List.length_filter_le _ _) hE
    generalize min (prevN r k) (r[k]?.getD 0) = lo at hlab ⊢
    generalize max (prevN r k) (r[k]?.getD 0) = hi at hlab ⊢
    refine lc_pure E eD (fun e => decide (e.2.1 = lo ∧ e.2.2 = hi)) (fun e => labD e.1) rfl (by simp [hls]) (fun e he => ?_) ?_
    · obtain ⟨b, u, v⟩ := e
      simp -dsimp [eD, eq_pair]
      refine ⟨?_, fun _ _ => rfl⟩
      rw [decide_eq_decide.mpr (Int.ofNat_inj : (u : Int) = lo ↔ u = lo), decide_eq_decide.mpr (Int.ofNat_inj : (v : Int) = hi ↔ v = hi)]
    have hmap : (E.filter fun e => decide (e.2.1 = lo ∧ e.2.2 = hi)).map (fun e => labD e.1) = (labAt E r k).map labD := by
      rw [hlab, List.map_map]; rfl
    rw [hmap]
    generalize labAt E r k = L at hsn hal hRk hlk
    generalize (List.range k).flatMap (labAt E r) = M at ha hsn hll
    have ha2 := app_old (g := [DO.lst (L.map labD)]) ha
    cases L with
    | nil =>
      have hf := hRk rfl
      have q := eq_empty (st := s ++ [DO.lst [], DO.lst []]) (a := s.length) (b := s.length + 1) app_get0 rfl (by rw [app_get]; rfl)
      simp -dsimp [q, hf]
      exact hpre.app _
    | cons x L =>
      have hz : M.length + (L.length + 1) ≤ LIM := by
        simp only [List.length_cons] at hlk
        show _ ≤ 10000000
        omega
      have q := eq_empty (st := s ++ [DO.lst (labD x :: L.map labD), DO.lst []]) (a := s.length) (b := s.length + 1) app_get0 (ok_labs (x :: L)) (by rw [app_get]; rfl)
      have ha3 := app_old (g := [DO.lst (labD x :: L.map labD), DO.lst []]) ha
      have ha4 : (s ++ [DO.lst (labD x :: L.map labD), DO.lst []])[s.length]? = some (DO.lst (labD x :: L.map labD)) := app_get0
      simp -dsimp [q, ha3, ha4, hz]
      refine ⟨s.length + 2, _, _, _, _, _, _, _, hpre.app _, by rw [app_get, hsn]; simp, hal rfl, rfl⟩
  · obtain ⟨a, x3, x4, x5, x6, x7, x8, x9, hpre, ha, hall, rfl⟩ := hp
    rw [rgD_length] at ha hall
    have i1 : gIn (.str (Str.ofString "S")) (.ref a) s = _ := in_labs (b := true) ha
    have i2 : gIn (.str (Str.ofString "C")) (.ref a) s = _ := in_labs (b := false) ha
    rw [hall, Bool.true_and] at hR
    generalize decide (true ∈ (List.range r.length).flatMap (labAt E r)) = bS at hR i1
    generalize decide (false ∈ (List.range r.length).flatMap (labAt E r)) = bC at hR i2
    simp -dsimp [i1, i2, hR]
    cases bS <;> simp -dsimp [i1, i2, hpre, hR]

def N__law_some_ring : List Str := ["found", "many", "most", "ways", "k", "way", "later", "word", "a", "b", "there"]
noncomputable def m__law_some_ring : MS :=
 (sSeq (sSet 3 (mNew (mLc (itF (mRg1 (mVar 1))) [4] (.nm 4) (ME.pure true) (mTup [(mVar 4)]))))
 (sSeq (sFor (itF (mRg1 (mVar 2))) (tgN 4)
 (sSeq (sFor (itV (mVar 3)) (tgN 5)
 (sIf (mTst (mCall G__law_is_mixed [(mVar 0), (mVar 5)]))
 (sRet (mC (.bl true)))
 sSkip))
 (sSeq (sSet 6 (mNew (mArgs [])))
 (sSeq (sFor (itV (mVar 3)) (tgN 5)
 (sFor (itV (mVar 0)) (tgT [(tgN 7), (tgN 8), (tgN 9)])
 (sIf (mTst (mBin gIn (mBin gIx (mVar 5) (mNeg (mC (.int 1)))) (mTup [(mVar 8), (mVar 9)])))
 (sSeq (sSet 10 (mBin gSub (mBin gAdd (mVar 8) (mVar 9)) (mBin gIx (mVar 5) (mNeg (mC (.int 1))))))
 (sSet 6 (mBin gAdd (mVar 6) (mIf (mAndT (mTst (mBin gNotIn (mVar 10) (mVar 5))) (mTst (mBin gGt (mVar 10) (mBin gIx (mVar 5) (mC (.int 0)))))) (mNew (mArgs [(mBin gAdd (mVar 5) (mTup [(mVar 10)]))])) (mNew (mArgs []))))))
 sSkip)))
 (sSet 3 (mSl (mVar 6) (ME.pure none) (mSome (mC (.int 400)))))))))
 (sRet (mC (.bl false)))))
noncomputable def F__law_some_ring : FM := bodyM 11 m__law_some_ring

noncomputable def G__law_some_ring : FM := trim F__law_some_ring
theorem n__law_some_ring : NrmF F__law_some_ring G__law_some_ring := nrm_trim _
theorem cut_take {α : Type} {p : List α} {b : Nat} : DL.cutD p none (some (b : Int)) = p.take b := by
  unfold DL.cutD HT.sIx
  simp only [Int.toNat_natCast]
  rw [if_neg (by omega)]
  by_cases h : b ≤ p.length
  · rw [Nat.min_eq_left h]
    simp
  · rw [Nat.min_eq_right (by omega), List.take_of_length_le (by omega : p.length ≤ b)]
    simp
def SrP (l N m : Nat) (st : Sto) (k : Nat) (e : DL.Env) (s : Sto) : Prop := ∃ (a : Nat) (W : List (List Nat)) (x4 x5 x6 x7 x8 x9 x10 : Option DV), Pre st s ∧ s[a]? = some (.lst (W.map nsD)) ∧ W.length ≤ 400 ∧ (∀ w ∈ W, w.length = k + 1) ∧ e = [some (.ref l), some (.int N), some (.int m), some (.ref a), x4, x5, x6, x7, x8, x9, x10]
def SrA (l N m a k : Nat) (s0 : Sto) (x6 x7 x8 x9 x10 : Option DV) (e : DL.Env) (s : Sto) : Prop := s = s0 ∧ ∃ x5, e = [some (.ref l), some (.int N), some (.int m), some (.ref a), some (.int (k : Nat)), x5, x6, x7, x8, x9, x10]
def SrB (l N m a k : Nat) (s0 : Sto) (i : Nat) (e : DL.Env) (s : Sto) : Prop := ∃ (b : Nat) (L : List (List Nat)) (x5 x7 x8 x9 x10 : Option DV), Pre s0 s ∧ s[b]? = some (.lst (L.map nsD)) ∧ L.length ≤ 81 * i ∧ (∀ w ∈ L, w.length = k + 2) ∧ e = [some (.ref l), some (.int N), some (.int m), some (.ref a), some (.int (k : Nat)), x5, some (.ref b), x7, x8, x9, x10]
def SrC (l N m a k : Nat) (w : List Nat) (s0 : Sto) (i j : Nat) (e : DL.Env) (s : Sto) : Prop := ∃ (b : Nat) (L : List (List Nat)) (x7 x8 x9 x10 : Option DV), Pre s0 s ∧ s[b]? = some (.lst (L.map nsD)) ∧ L.length ≤ 81 * i + j ∧ (∀ w ∈ L, w.length = k + 2) ∧ e = [some (.ref l), some (.int N), some (.int m), some (.ref a), some (.int (k : Nat)), some (nsD w), some (.ref b), x7, x8, x9, x10]
theorem p_some_ring {E : List Edge} {l N m : Nat} {st : Sto} (hl : st[l]? = some (.lst (E.map eD))) (hE : E.length ≤ 81) (hN : N ≤ 9) (hm : m ≤ 9) (no : ∀ r : List Nat, r.length ≤ m → isMixedV E r = false) : G__law_some_ring [.ref l, .int N, .int m] st = some (.bl false, st) := by
  refine trim_V ?_ rfl
  have hr : okR 0 (N : Int) = true := by simp [okR]; omega
  have hr2 : okR 0 (m : Int) = true := by simp [okR]; omega
  simp -dsimp [F__law_some_ring, m__law_some_ring, hr]
  refine lc_map (List.range N) (fun k => .int (k : Nat)) (fun a => nsD [a]) (rgD_map _) trivial (fun k hk => ?_) ?_
  · simp -dsimp [nsD]
  have hst : (List.range N).map (fun a => nsD [a]) = ((List.range N).map fun a => [a]).map nsD := by rw [List.map_map]; rfl
  rw [hst]
  obtain ⟨W0, hW0⟩ : ∃ W0, W0 = (List.range N).map fun a => [a] := ⟨_, rfl⟩
  have w1 : W0.length ≤ 400 := by rw [hW0, List.length_map, List.length_range]; omega
  have w2 : ∀ w ∈ W0, w.length = 0 + 1 := fun w hw => by
    rw [hW0] at hw
    obtain ⟨x, _, rfl⟩ := List.mem_map.mp hw
    rfl
  rw [← hW0]
  clear hW0 hst
  simp -dsimp [hr2]
  refine for_W (fun i e s => SrP l N m st i e s) ⟨st.length, W0, _, _, _, _, _, _, _, pre2, app_get0, w1, w2, rfl⟩ (fun _ _ _ _ => trivial) (fun k d e s hd hp => ?_) (fun e s hp => ?_)
  · obtain ⟨hk, rfl⟩ := rgD_get hd
    obtain ⟨a, W, x4, x5, x6, x7, x8, x9, x10, hpre, ha, hW, hw, rfl⟩ := hp
    have hls := hpre.get hl
    simp -dsimp [ha]
    refine for_W (fun i e s1 => SrA l N m a k s x6 x7 x8 x9 x10 e s1) ⟨rfl, _, rfl⟩ (fun i e s1 hp => ?_) (fun i d e s1 hd hp => ?_) (fun e s1 hp => ?_)
    · obtain ⟨rfl, _⟩ := hp
      simp -dsimp [ha]
    · obtain ⟨rfl, x5, rfl⟩ := hp
      rw [List.getElem?_map] at hd
      obtain ⟨w, hwi, rfl⟩ := Option.map_eq_some_iff.mp hd
      have hwl := hw w (List.mem_of_getElem? hwi)
      have hno := no w (by omega)
      have M := p_is_mixed hls hE (r := w) (by intro q; rw [q] at hwl; simp at hwl) (by omega)
      rw [hno] at M
      simp -dsimp [M]
      exact ⟨rfl, _, rfl⟩
    obtain ⟨es, x5, rfl⟩ := hp
    rw [es]
    clear es
    simp -dsimp [app_old ha]
    refine for_W (fun i e s1 => SrB l N m a k s i e s1) ⟨s.length, [], _, _, _, _, _, pre2, app_get0, by simp, by simp, rfl⟩ (fun i e s1 hp => ?_) (fun i d e s1 hd hp => ?_) (fun e s1 hp => ?_)
    · obtain ⟨b, L, x5, x7, x8, x9, x10, hp1, _⟩ := hp
      simp -dsimp [hp1.get ha]
    · obtain ⟨b, L, x5, x7, x8, x9, x10, hp1, hb, hL, hLw, rfl⟩ := hp
      rw [List.getElem?_map] at hd
      obtain ⟨w, hwi, rfl⟩ := Option.map_eq_some_iff.mp hd
      have hwl := hw w (List.mem_of_getElem? hwi)
      have hi : i < 400 := by
        have := (List.getElem?_eq_some_iff.mp hwi).1
        omega
      have hne : w ≠ [] := by intro q; rw [q] at hwl; simp at hwl
      simp -dsimp [hp1.get hls]
      refine for_W (fun j e s1 => SrC l N m a k w s i j e s1) ⟨b, L, _, _, _, _, hp1, hb, by omega, hLw, rfl⟩ (fun j e s1 hp => ?_) (fun j d e s1 hd hp => ?_) (fun e s1 hp => ?_)
      · obtain ⟨b, L, x7, x8, x9, x10, hp1, _⟩ := hp
        simp -dsimp [hp1.get hls]
      · obtain ⟨b, L, x7, x8, x9, x10, hp1, hb, hL, hLw, rfl⟩ := hp
        rw [List.getElem?_map] at hd
        obtain ⟨⟨lb, u, v⟩, he, rfl⟩ := Option.map_eq_some_iff.mp hd
        have hj : j < 81 := by
          have := (List.getElem?_eq_some_iff.mp he).1
          omega
        have hLs := ix_last hne
        have hHs := ix_head hne
        have hlen : itemsOf s1 (nsD w) = some (w.map fun (n : Nat) => DV.int n) := rfl
        simp -dsimp [eD, ev_tgs0, ev_tgs1, hLs, hHs]
        by_cases hv : lastN w = u ∨ lastN w = v
        · obtain ⟨x, hxi⟩ : ∃ x : Nat, (u : Int) + (v : Int) - (lastN w : Nat) = (x : Nat) := by
            rcases hv with h | h
            · exact ⟨v, by rw [h]; omega⟩
            · exact ⟨u, by rw [h]; omega⟩
          have hd1 : (decide ((u : Int) = (lastN w : Nat)) || decide ((v : Int) = (lastN w : Nat))) = true := by
            rcases hv with h | h
            · rw [h]; simp
            · rw [h]; simp
          rw [hd1]
          have hz1 : w.length + 1 ≤ LIM := by show _ ≤ 10000000; omega
          by_cases hp1x : x ∈ w
          · have hz : L.length ≤ LIM := by show _ ≤ 10000000; omega
            simp -dsimp [hLs, hHs, hxi, notin_nsD, hp1x, hb, app_old hb, hz]
            exact ⟨s1.length + 1, L, _, _, _, _, hp1.app _, by rw [app_get]; rfl, by omega, hLw, rfl⟩
          · by_cases hp2 : headN w < x
            · have hp2' : ((headN w : Nat) : Int) < (x : Nat) := by omega
              have hz : L.length + 1 ≤ LIM := by show _ ≤ 10000000; omega
              simp -dsimp [hLs, hHs, hxi, notin_nsD, hp1x, hp2', hb, nsD_add1 hz1, app_old hb, hz]
              refine ⟨s1.length + 1, L ++ [w ++ [x]], _, _, _, _, hp1.app _, by rw [app_get, List.map_append]; rfl, by rw [List.length_append, List.length_singleton]; omega, fun y hy => ?_, rfl⟩
              rcases List.mem_append.mp hy with hy | hy
              · exact hLw y hy
              · rw [List.mem_singleton.mp hy, List.length_append, List.length_singleton]; omega
            · have hp2' : ¬ ((headN w : Nat) : Int) < (x : Nat) := by omega
              have hz : L.length ≤ LIM := by show _ ≤ 10000000; omega
              simp -dsimp [hLs, hHs, hxi, notin_nsD, hp1x, hp2', hb, app_old hb, hz]
              exact ⟨s1.length + 1, L, _, _, _, _, hp1.app _, by rw [app_get]; rfl, by omega, hLw, rfl⟩
        · have hd1 : (decide ((u : Int) = (lastN w : Nat)) || decide ((v : Int) = (lastN w : Nat))) = false := by
            have h1 : ¬ (u : Int) = (lastN w : Nat) := fun e => hv (.inl (Int.ofNat_inj.mp e).symm)
            have h2 : ¬ (v : Int) = (lastN w : Nat) := fun e => hv (.inr (Int.ofNat_inj.mp e).symm)
            rw [decide_eq_false h1, decide_eq_false h2]
            rfl
          rw [hd1]
          simp -dsimp
          exact ⟨b, L, _, _, _, _, hp1, hb, by omega, hLw, rfl⟩
      · obtain ⟨b, L, x7, x8, x9, x10, hp1, hb, hL, hLw, rfl⟩ := hp
        rw [List.length_map] at hL
        simp -dsimp
        exact ⟨b, L, _, _, _, _, _, hp1, hb, by omega, hLw, rfl⟩
    · obtain ⟨b, L, x5, x7, x8, x9, x10, hp1, hb, hL, hLw, rfl⟩ := hp
      simp -dsimp [hb]
      refine ⟨s1.length, L.take 400, _, _, _, _, _, _, _, (hpre.trans hp1).app _, ?_, by rw [List.length_take]; omega, fun w hw => hLw w (List.mem_of_mem_take hw), rfl⟩
      rw [app_get0]
      show some (DO.lst (cutD (L.map nsD) none (some ((400 : Nat) : Int)))) = _
      rw [cut_take, List.map_take]
  · obtain ⟨a, W, x4, x5, x6, x7, x8, x9, x10, hpre, ha, hW, hw, rfl⟩ := hp
    simp -dsimp [hpre]

def N_law : List Str := ["script", "pool", "programs", "none", "cuts", "some", "row", "pieces", "whole", "number", "piece", "found", "ring", "program", "place"]
noncomputable def m_law : MS :=
 (sSeq (sSet 1 (mCall G__law_pool [(mVar 0)]))
 (sSeq (sSet 2 (mCall G__law_programs [(mVar 1), (mC (.int 3))]))
 (sSeq (sSet 3 (mTupOf (mLc (itV (mVar 2)) [13] (.nm 13) (ME.pure true) (mTup []))))
 (sSeq (sSet 4 (mTupOf (mLc (itV (mVar 2)) [13] (.nm 13) (ME.pure true) (mTupOf (mLc (itF (mRg2 (mC (.int 1)) (mLen (mSeq (mVar 13))))) [14] (.nm 14) (mTst (mBin gEq (mCall G__law_draw [(mVar 1), (mC (.int 2))]) (mC (.int 0)))) (mVar 14))))))
 (sSeq (sSet 5 (mTupOf (mLc (itV (mVar 4)) [6] (.nm 6) (ME.pure true) (mTupOf (mLc (itV (mVar 6)) [14] (.nm 14) (mTst (mBin gEq (mCall G__law_draw [(mVar 1), (mC (.int 2))]) (mC (.int 0)))) (mVar 14))))))
 (sSeq (sIf (mOrT (mNotT (mTst (mCall G_is_as_good [(mVar 2), (mVar 3)]))) (mTst (mBin gIsNot (mCall G_mixed_ring [(mVar 2), (mVar 3)]) (mC .non))))
 (sRet (mC (.bl false)))
 sSkip)
 (sSeq (sIf (mAndT (mNotT (mTst (mCall G_is_as_good [(mVar 2), (mVar 5)]))) (mTst (mCall G_is_as_good [(mVar 2), (mVar 4)])))
 (sRet (mC (.bl false)))
 sSkip)
 (sSeq (sFor (itV (mTup [(mVar 5), (mVar 4)])) (tgN 6)
 (sSeq (sSet 7 (mCall G_pieces_of [(mVar 2), (mVar 6)]))
 (sSeq (sSet 8 (mNew (mLc (itV (mVar 2)) [13] (.nm 13) (ME.pure true) (mTup []))))
 (sSeq (sFor (itV (mVar 7)) (tgT [(tgN 9), (tgN 10)])
 (sAsg (tgI (mVar 8) (mBin gSub (mVar 9) (mC (.int 1)))) (mBin gAdd (mBin gIx (mVar 8) (mBin gSub (mVar 9) (mC (.int 1)))) (mVar 10))))
 (sSeq (sIf (mNotT (mTst (mCall G__law_same [(mTupOf (mSeq (mVar 8))), (mVar 2)])))
 (sRet (mC (.bl false)))
 sSkip)
 (sSeq (sPar 11 12 (mCall G_joins [(mVar 7)]) (mCall G_mixed_ring [(mVar 2), (mVar 6)]))
 (sSeq (sIf (mTst (mBin gNe (mCall G_is_as_good [(mVar 2), (mVar 6)]) (mBin gIs (mVar 12) (mC .non))))
 (sRet (mC (.bl false)))
 sSkip)
 (sSeq (sIf (mAndT (mTst (mBin gIsNot (mVar 12) (mC .non))) (mOrT (mNotT (mTst (mCall G__law_is_mixed [(mVar 11), (mVar 12)]))) (mTst (mCall G__law_some_ring [(mVar 11), (mLen (mSeq (mVar 7))), (mBin gSub (mLen (mSeq (mVar 12))) (mC (.int 1)))]))))
 (sRet (mC (.bl false)))
 sSkip)
 (sIf (mAndT (mTst (mBin gIs (mVar 12) (mC .non))) (mTst (mCall G__law_some_ring [(mVar 11), (mLen (mSeq (mVar 7))), (mC (.int 4))])))
 (sRet (mC (.bl false)))
 sSkip)))))))))
 (sRet (mC (.bl true)))))))))))
noncomputable def F_law : FM := bodyM 15 m_law

noncomputable def G_law : FM := F_law
theorem n_law : NrmF (F_law) G_law := fun ds st d st' h => ⟨d, st', h, .same d st'⟩
def topS (i : Nat) : Stmt := PySem.Challenge.pw_everyhistory_k75_whole_cuts_made_finer.main.body.getD i (.Pass ⟨0, 0, 0, 0⟩)
structure Txt (K : PySem.W.Frag) (w : World) (mg : Str → Option Value) where
  f_is_whole : Addr
  fd_is_whole : FuncData
  F_is_whole : Fun K "is_whole" "is_whole" (topS 3) f_is_whole fd_is_whole
  g_is_whole : mg "is_whole" = some (.ref f_is_whole)
  B_is_whole : Binds K fd_is_whole ["value"] []
  f_is_from : Addr
  fd_is_from : FuncData
  F_is_from : Fun K "is_from" "is_from" (topS 4) f_is_from fd_is_from
  g_is_from : mg "is_from" = some (.ref f_is_from)
  B_is_from : Binds K fd_is_from ["value", "low", "high"] []
  f_is_step : Addr
  fd_is_step : FuncData
  F_is_step : Fun K "is_step" "is_step" (topS 11) f_is_step fd_is_step
  g_is_step : mg "is_step" = some (.ref f_is_step)
  B_is_step : Binds K fd_is_step ["value"] []
  f_are_programs : Addr
  fd_are_programs : FuncData
  F_are_programs : Fun K "are_programs" "are_programs" (topS 10) f_are_programs fd_are_programs
  g_are_programs : mg "are_programs" = some (.ref f_are_programs)
  B_are_programs : Binds K fd_are_programs ["value"] []
  f_meets : Addr
  fd_meets : FuncData
  F_meets : Fun K "meets" "meets" (topS 13) f_meets fd_meets
  g_meets : mg "meets" = some (.ref f_meets)
  B_meets : Binds K fd_meets ["one", "two"] []
  f_are_cuts : Addr
  fd_are_cuts : FuncData
  F_are_cuts : Fun K "are_cuts" "are_cuts" (topS 16) f_are_cuts fd_are_cuts
  g_are_cuts : mg "are_cuts" = some (.ref f_are_cuts)
  B_are_cuts : Binds K fd_are_cuts ["programs", "cuts"] []
  f_pieces_of : Addr
  fd_pieces_of : FuncData
  F_pieces_of : Fun K "pieces_of" "pieces_of" (topS 17) f_pieces_of fd_pieces_of
  g_pieces_of : mg "pieces_of" = some (.ref f_pieces_of)
  B_pieces_of : Binds K fd_pieces_of ["programs", "cuts"] []
  f_joins : Addr
  fd_joins : FuncData
  F_joins : Fun K "joins" "joins" (topS 18) f_joins fd_joins
  g_joins : mg "joins" = some (.ref f_joins)
  B_joins : Binds K fd_joins ["pieces"] []
  f_mixed_ring : Addr
  fd_mixed_ring : FuncData
  F_mixed_ring : Fun K "mixed_ring" "mixed_ring" (topS 19) f_mixed_ring fd_mixed_ring
  g_mixed_ring : mg "mixed_ring" = some (.ref f_mixed_ring)
  B_mixed_ring : Binds K fd_mixed_ring ["programs", "cuts"] []
  f_is_as_good : Addr
  fd_is_as_good : FuncData
  F_is_as_good : Fun K "is_as_good" "is_as_good" (topS 20) f_is_as_good fd_is_as_good
  g_is_as_good : mg "is_as_good" = some (.ref f_is_as_good)
  B_is_as_good : Binds K fd_is_as_good ["programs", "cuts"] []
  f__law_same : Addr
  fd__law_same : FuncData
  F__law_same : Fun K "_law_same" "_law_same" (topS 22) f__law_same fd__law_same
  g__law_same : mg "_law_same" = some (.ref f__law_same)
  B__law_same : Binds K fd__law_same ["actual", "due"] []
  f__law_pool : Addr
  fd__law_pool : FuncData
  F__law_pool : Fun K "_law_pool" "_law_pool" (topS 23) f__law_pool fd__law_pool
  g__law_pool : mg "_law_pool" = some (.ref f__law_pool)
  B__law_pool : Binds K fd__law_pool ["script"] []
  f__law_spread : Addr
  fd__law_spread : FuncData
  F__law_spread : Fun K "_law_spread" "_law_spread" (topS 24) f__law_spread fd__law_spread
  g__law_spread : mg "_law_spread" = some (.ref f__law_spread)
  B__law_spread : Binds K fd__law_spread ["cell"] []
  f__law_draw : Addr
  fd__law_draw : FuncData
  F__law_draw : Fun K "_law_draw" "_law_draw" (topS 25) f__law_draw fd__law_draw
  g__law_draw : mg "_law_draw" = some (.ref f__law_draw)
  B__law_draw : Binds K fd__law_draw ["pool", "many"] []
  f__law_pick : Addr
  fd__law_pick : FuncData
  F__law_pick : Fun K "_law_pick" "_law_pick" (topS 26) f__law_pick fd__law_pick
  g__law_pick : mg "_law_pick" = some (.ref f__law_pick)
  B__law_pick : Binds K fd__law_pick ["pool", "items"] []
  f__law_programs : Addr
  fd__law_programs : FuncData
  F__law_programs : Fun K "_law_programs" "_law_programs" (topS 27) f__law_programs fd__law_programs
  g__law_programs : mg "_law_programs" = some (.ref f__law_programs)
  B__law_programs : Binds K fd__law_programs ["pool", "most"] []
  f__law_is_mixed : Addr
  fd__law_is_mixed : FuncData
  F__law_is_mixed : Fun K "_law_is_mixed" "_law_is_mixed" (topS 28) f__law_is_mixed fd__law_is_mixed
  g__law_is_mixed : mg "_law_is_mixed" = some (.ref f__law_is_mixed)
  B__law_is_mixed : Binds K fd__law_is_mixed ["found", "ring"] []
  f__law_some_ring : Addr
  fd__law_some_ring : FuncData
  F__law_some_ring : Fun K "_law_some_ring" "_law_some_ring" (topS 29) f__law_some_ring fd__law_some_ring
  g__law_some_ring : mg "_law_some_ring" = some (.ref f__law_some_ring)
  B__law_some_ring : Binds K fd__law_some_ring ["found", "many", "most"] []
  f_law : Addr
  fd_law : FuncData
  F_law : Fun K "law" "law" (topS 30) f_law fd_law
  g_law : mg "law" = some (.ref f_law)
  B_law : Binds K fd_law ["script"] []
  b_all : mg "all" = none
  b_any : mg "any" = none
  b_bool : mg "bool" = none
  b_int : mg "int" = none
  b_isinstance : mg "isinstance" = none
  b_len : mg "len" = none
  b_list : mg "list" = none
  b_max : mg "max" = none
  b_min : mg "min" = none
  b_range : mg "range" = none
  b_set : mg "set" = none
  b_sorted : mg "sorted" = none
  b_str : mg "str" = none
  b_sum : mg "sum" = none
  b_tuple : mg "tuple" = none
  b_zip : mg "zip" = none
  a_KEYS : Value
  v_KEYS : V
  g_KEYS : mg "KEYS" = some a_KEYS
  r_KEYS : RelV v_KEYS a_KEYS
  d_KEYS : ∀ H μ, RV K H μ c_KEYS v_KEYS
  a_HANDS : Value
  v_HANDS : V
  g_HANDS : mg "HANDS" = some a_HANDS
  r_HANDS : RelV v_HANDS a_HANDS
  d_HANDS : ∀ H μ, RV K H μ c_HANDS v_HANDS
  a_MOST_STEPS : Value
  v_MOST_STEPS : V
  g_MOST_STEPS : mg "MOST_STEPS" = some a_MOST_STEPS
  r_MOST_STEPS : RelV v_MOST_STEPS a_MOST_STEPS
  d_MOST_STEPS : ∀ H μ, RV K H μ c_MOST_STEPS v_MOST_STEPS
  a_MOST_PIECES : Value
  v_MOST_PIECES : V
  g_MOST_PIECES : mg "MOST_PIECES" = some a_MOST_PIECES
  r_MOST_PIECES : RelV v_MOST_PIECES a_MOST_PIECES
  d_MOST_PIECES : ∀ H μ, RV K H μ c_MOST_PIECES v_MOST_PIECES
section
variable {P : Program} {w : World} {K : PySem.W.Frag} {mg : Str → Option Value} {base : Heap}
abbrev s_is_whole : Stmt := topS 3
theorem sc_is_whole : FnScope N_is_whole ["value"] (defScope s_is_whole) := ⟨rfl, rfl, rfl, by decide +kernel, rfl, by decide +kernel, by decide +kernel⟩
theorem ok_is_whole (T : Txt K w mg) : FnOk P w K mg base CX0 1 T.f_is_whole T.fd_is_whole ["value"] (spM K 1 G_is_whole) := fn_nrm (fn_d (k := 0) T.F_is_whole sc_is_whole fun cdv A outer s H E hr =>
 (dss_one (ds_ret (de_and (de_isInt T.b_isinstance T.b_int (de_var 0)) (de_one (de_not (de_isBool T.b_isinstance T.b_bool (de_var 0)))))))) n_is_whole

abbrev s_is_from : Stmt := topS 4
theorem sc_is_from : FnScope N_is_from ["value", "low", "high"] (defScope s_is_from) := ⟨rfl, rfl, rfl, by decide +kernel, rfl, by decide +kernel, by decide +kernel⟩
theorem ok_is_from (T : Txt K w mg) : FnOk P w K mg base CX0 2 T.f_is_from T.fd_is_from ["value", "low", "high"] (spM K 3 G_is_from) := fn_nrm (fn_d (k := 1) T.F_is_from sc_is_from fun cdv A outer s H E hr =>
 (dss_one (ds_ret (de_and (de_call (ok_is_whole T) hr (by decide) T.g_is_whole T.F_is_whole.kp T.B_is_whole (da_cons (de_var 0) da_nil)) (de_one (de_chn od_le od_le (de_var 1) (de_var 0) (de_var 2))))))) n_is_from

abbrev s_is_step : Stmt := topS 11
theorem sc_is_step : FnScope N_is_step ["value"] (defScope s_is_step) := ⟨rfl, rfl, rfl, by decide +kernel, rfl, by decide +kernel, by decide +kernel⟩
theorem ok_is_step (T : Txt K w mg) : FnOk P w K mg base CX0 3 T.f_is_step T.fd_is_step ["value"] (spM K 1 G_is_step) := fn_nrm (fn_d (k := 2) T.F_is_step sc_is_step fun cdv A outer s H E hr =>
 (dss_cons (ds_if (dt_w (dw_or (dt_not (dt_val (de_isTuple T.b_isinstance T.b_tuple (de_var 0)))) (dw_or (dt_cmp (od_ne hr.units) (de_len T.b_len (dq_val (de_var 0))) de_int) (dw_or1 (dt_not (dt_val (de_call (ok_is_from T) hr (by decide) T.g_is_from T.F_is_from.kp T.B_is_from (da_cons (de_ix (de_var 0) de_int) (da_cons de_int (da_cons (de_bin od_sub (de_glob rfl T.g_KEYS T.r_KEYS T.d_KEYS) de_int) da_nil))))))))))
 (dss_one (ds_ret de_bl))
 dss_nil)
 (dss_one (ds_ret (de_and (de_isStr T.b_isinstance T.b_str (de_ix (de_var 0) de_int)) (de_one (de_cmp (od_in (hu_of hr)) (de_ix (de_var 0) de_int) (de_tup (da_cons de_str (da_cons de_str da_nil)))))))))) n_is_step

abbrev s_are_programs : Stmt := topS 10
theorem sc_are_programs : FnScope N_are_programs ["value"] (defScope s_are_programs) := ⟨rfl, rfl, rfl, by decide +kernel, rfl, by decide +kernel, by decide +kernel⟩
theorem ok_are_programs (T : Txt K w mg) : FnOk P w K mg base CX0 4 T.f_are_programs T.fd_are_programs ["value"] (spM K 1 G_are_programs) := fn_nrm (fn_d (k := 3) T.F_are_programs sc_are_programs fun cdv A outer s H E hr =>
 (dss_cons (ds_if (dt_w (dw_or (dt_not (dt_val (de_isTuple T.b_isinstance T.b_tuple (de_var 0)))) (dw_or (dt_cmp od_gt (de_len T.b_len (dq_val (de_var 0))) (de_glob rfl T.g_HANDS T.r_HANDS T.d_HANDS)) (dw_or1 (dt_not (dt_val (de_all rfl T.b_all (df_lc (own := [("part", 1)]) (t := (.nm 1)) rfl sc_are_programs.nd (di_val (de_var 0)) (blkOk_by (N := N_are_programs) (sc := defScope s_are_programs) (by decide +kernel)) (by decide) (fun _ _ _ _ _ => (pg_name (i := 1) sc_are_programs.nd rfl (Or.inl rfl))) (fun _ _ _ _ _ => dpt_nil) (fun _ _ _ _ _ => (de_isTuple T.b_isinstance T.b_tuple (de_var 1)))))))))))
 (dss_one (ds_ret de_bl))
 dss_nil)
 (dss_cons (ds_if (dt_val (de_any rfl T.b_any (df_lc (own := [("part", 1)]) (t := (.nm 1)) rfl sc_are_programs.nd (di_val (de_var 0)) (blkOk_by (N := N_are_programs) (sc := defScope s_are_programs) (by decide +kernel)) (by decide) (fun _ _ _ _ _ => (pg_name (i := 1) sc_are_programs.nd rfl (Or.inl rfl))) (fun _ _ _ _ _ => dpt_nil) (fun _ _ _ _ _ => (de_cmp od_gt (de_len T.b_len (dq_val (de_var 1))) (de_glob rfl T.g_MOST_STEPS T.r_MOST_STEPS T.d_MOST_STEPS))))))
 (dss_one (ds_ret de_bl))
 dss_nil)
 (dss_one (ds_ret (de_all rfl T.b_all (df_lc2 (own := [("part", 1), ("step", 2)]) (t := (.nm 1)) (t1 := (.nm 2)) [2] rfl sc_are_programs.nd (di_val (de_var 0)) (blkOk_by (N := N_are_programs) (sc := defScope s_are_programs) (by decide +kernel)) (by decide) (by decide) (by decide) (fun _ _ _ _ _ => (pg_name (i := 1) sc_are_programs.nd rfl (Or.inl rfl))) (fun _ _ _ _ _ => dpt_nil) (fun _ _ _ _ _ => (di_val (de_var 1))) (fun _ _ _ _ _ => (pg_name (i := 2) sc_are_programs.nd rfl (Or.inl rfl))) (fun _ _ _ _ _ => dpt_nil) (fun _ _ _ _ _ => (de_call (ok_is_step T) hr (by decide) T.g_is_step T.F_is_step.kp T.B_is_step (da_cons (de_var 2) da_nil)))))))))) n_are_programs

abbrev s_meets : Stmt := topS 13
theorem sc_meets : FnScope N_meets ["one", "two"] (defScope s_meets) := ⟨rfl, rfl, rfl, by decide +kernel, rfl, by decide +kernel, by decide +kernel⟩
theorem ok_meets (T : Txt K w mg) : FnOk P w K mg base CX0 1 T.f_meets T.fd_meets ["one", "two"] (spM K 2 G_meets) := fn_nrm (fn_d (k := 0) T.F_meets sc_meets fun cdv A outer s H E hr =>
 (dss_cons (ds_for PassesOwn.never rfl (di_rg1 T.b_range (de_glob rfl T.g_KEYS T.r_KEYS T.d_KEYS)) (dg_name (i := 2) sc_meets.nd)
 (dss_cons (ds_setLc (i := 3) (own := [("word", 5), ("other", 6)]) (t := (.tp [5, 6])) rfl sc_meets.nd (di_val (de_var 0)) (blkOk_by (N := N_meets) (sc := defScope s_meets) (by decide +kernel)) (by decide) (fun _ _ _ _ _ => (pg_tup rfl (pgs_cons (pg_name (i := 5) sc_meets.nd rfl (Or.inl rfl)) (pgs_cons (pg_name (i := 6) sc_meets.nd rfl (Or.inl rfl)) pgs_nil)))) (fun _ _ _ _ _ => (dpt_one (dt_cmp (od_eq hr.units) (de_var 6) (de_var 2)))) (fun _ _ _ _ _ => (de_var 5)) (sw_true rfl rfl rfl (by decide +kernel)))
 (dss_cons (ds_setLc (i := 4) (own := [("word", 5), ("other", 6)]) (t := (.tp [5, 6])) rfl sc_meets.nd (di_val (de_var 1)) (blkOk_by (N := N_meets) (sc := defScope s_meets) (by decide +kernel)) (by decide) (fun _ _ _ _ _ => (pg_tup rfl (pgs_cons (pg_name (i := 5) sc_meets.nd rfl (Or.inl rfl)) (pgs_cons (pg_name (i := 6) sc_meets.nd rfl (Or.inl rfl)) pgs_nil)))) (fun _ _ _ _ _ => (dpt_one (dt_cmp (od_eq hr.units) (de_var 6) (de_var 2)))) (fun _ _ _ _ _ => (de_var 5)) (sw_true rfl rfl rfl (by decide +kernel)))
 (dss_one (ds_if (dt_w (dw_and (dt_cmp od_gt (de_len T.b_len (dq_val (de_var 3))) de_int) (dw_and (dt_cmp od_gt (de_len T.b_len (dq_val (de_var 4))) de_int) (dw_and1 (dt_cmp (od_in (hu_of hr)) de_str (de_bin od_add (de_var 3) (de_var 4)))))))
 (dss_one (ds_ret de_bl))
 dss_nil)))))
 (dss_one (ds_ret de_bl)))) n_meets

abbrev s_are_cuts : Stmt := topS 16
theorem sc_are_cuts : FnScope N_are_cuts ["programs", "cuts"] (defScope s_are_cuts) := ⟨rfl, rfl, rfl, by decide +kernel, rfl, by decide +kernel, by decide +kernel⟩
theorem ok_are_cuts (T : Txt K w mg) : FnOk P w K mg base CX0 3 T.f_are_cuts T.fd_are_cuts ["programs", "cuts"] (spM K 2 G_are_cuts) := fn_nrm (fn_d (k := 2) T.F_are_cuts sc_are_cuts fun cdv A outer s H E hr =>
 (dss_cons (ds_if (dt_w (dw_or (dt_not (dt_val (de_isTuple T.b_isinstance T.b_tuple (de_var 1)))) (dw_or1 (dt_cmp (od_ne hr.units) (de_len T.b_len (dq_val (de_var 1))) (de_len T.b_len (dq_val (de_var 0)))))))
 (dss_one (ds_ret de_bl))
 dss_nil)
 (dss_cons (ds_for PassesOwn.never rfl (di_zip T.b_zip (de_var 0) (de_var 1)) (dg_tup rfl (dgs_cons (dg_name (i := 2) sc_are_cuts.nd) (dgs_cons (dg_name (i := 3) sc_are_cuts.nd) dgs_nil)))
 (dss_cons (ds_if (dt_w (dw_or (dt_not (dt_val (de_isTuple T.b_isinstance T.b_tuple (de_var 3)))) (dw_or1 (dt_not (dt_val (de_all rfl T.b_all (df_lc (own := [("place", 4)]) (t := (.nm 4)) rfl sc_are_cuts.nd (di_val (de_var 3)) (blkOk_by (N := N_are_cuts) (sc := defScope s_are_cuts) (by decide +kernel)) (by decide) (fun _ _ _ _ _ => (pg_name (i := 4) sc_are_cuts.nd rfl (Or.inl rfl))) (fun _ _ _ _ _ => dpt_nil) (fun _ _ _ _ _ => (de_call (ok_is_from T) hr (by decide) T.g_is_from T.F_is_from.kp T.B_is_from (da_cons (de_var 4) (da_cons de_int (da_cons (de_bin od_sub (de_len T.b_len (dq_val (de_var 2))) de_int) da_nil))))))))))))
 (dss_one (ds_ret de_bl))
 dss_nil)
 (dss_one (ds_if (dt_val (de_any rfl T.b_any (df_lc (own := [("a", 5), ("b", 6)]) (t := (.tp [5, 6])) rfl sc_are_cuts.nd (di_zip T.b_zip (de_var 3) (de_sl (de_var 3) (do_some de_int) do_none)) (blkOk_by (N := N_are_cuts) (sc := defScope s_are_cuts) (by decide +kernel)) (by decide) (fun _ _ _ _ _ => (pg_tup rfl (pgs_cons (pg_name (i := 5) sc_are_cuts.nd rfl (Or.inl rfl)) (pgs_cons (pg_name (i := 6) sc_are_cuts.nd rfl (Or.inl rfl)) pgs_nil)))) (fun _ _ _ _ _ => dpt_nil) (fun _ _ _ _ _ => (de_cmp od_ge (de_var 5) (de_var 6))))))
 (dss_one (ds_ret de_bl))
 dss_nil))))
 (dss_one (ds_ret (de_cmp od_le (de_bin od_add (de_len T.b_len (dq_val (de_var 0))) (de_sum rfl T.b_sum (df_lc (own := [("row", 3)]) (t := (.nm 3)) rfl sc_are_cuts.nd (di_val (de_var 1)) (blkOk_by (N := N_are_cuts) (sc := defScope s_are_cuts) (by decide +kernel)) (by decide) (fun _ _ _ _ _ => (pg_name (i := 3) sc_are_cuts.nd rfl (Or.inl rfl))) (fun _ _ _ _ _ => dpt_nil) (fun _ _ _ _ _ => (de_len T.b_len (dq_val (de_var 3))))))) (de_glob rfl T.g_MOST_PIECES T.r_MOST_PIECES T.d_MOST_PIECES))))))) n_are_cuts

abbrev s_pieces_of : Stmt := topS 17
theorem sc_pieces_of : FnScope N_pieces_of ["programs", "cuts"] (defScope s_pieces_of) := ⟨rfl, rfl, rfl, by decide +kernel, rfl, by decide +kernel, by decide +kernel⟩
theorem ok_pieces_of (T : Txt K w mg) : FnOk P w K mg base CX0 5 T.f_pieces_of T.fd_pieces_of ["programs", "cuts"] (spM K 2 G_pieces_of) := fn_nrm (fn_d (k := 4) T.F_pieces_of sc_pieces_of fun cdv A outer s H E hr =>
 (dss_cons (ds_if (dt_w (dw_or (dt_not (dt_val (de_call (ok_are_programs T) hr (by decide) T.g_are_programs T.F_are_programs.kp T.B_are_programs (da_cons (de_var 0) da_nil)))) (dw_or1 (dt_not (dt_val (de_call (ok_are_cuts T) hr (by decide) T.g_are_cuts T.F_are_cuts.kp T.B_are_cuts (da_cons (de_var 0) (da_cons (de_var 1) da_nil))))))))
 (dss_one ds_dead)
 dss_nil)
 (dss_cons (ds_set (i := 2) sc_pieces_of.nd (df_new (df_lst da_nil)))
 (dss_cons (ds_for PassesOwn.never rfl (di_rg1 T.b_range (de_len T.b_len (dq_val (de_var 0)))) (dg_name (i := 3) sc_pieces_of.nd)
 (dss_cons (ds_set (i := 4) sc_pieces_of.nd (de_bin od_add (de_bin od_add (de_tup (da_cons de_int da_nil)) (de_ix (de_var 1) (de_var 3))) (de_tup (da_cons (de_len T.b_len (dq_val (de_ix (de_var 0) (de_var 3)))) da_nil))))
 (dss_one (ds_expr (de_ext (de_var 2) (df_lc (own := [("a", 5), ("b", 6)]) (t := (.tp [5, 6])) rfl sc_pieces_of.nd (di_zip T.b_zip (de_var 4) (de_sl (de_var 4) (do_some de_int) do_none)) (blkOk_by (N := N_pieces_of) (sc := defScope s_pieces_of) (by decide +kernel)) (by decide) (fun _ _ _ _ _ => (pg_tup rfl (pgs_cons (pg_name (i := 5) sc_pieces_of.nd rfl (Or.inl rfl)) (pgs_cons (pg_name (i := 6) sc_pieces_of.nd rfl (Or.inl rfl)) pgs_nil)))) (fun _ _ _ _ _ => dpt_nil) (fun _ _ _ _ _ => (de_tup (da_cons (de_bin od_add (de_var 3) de_int) (da_cons (de_sl (de_ix (de_var 0) (de_var 3)) (do_some (de_var 5)) (do_some (de_var 6))) da_nil))))))))))
 (dss_one (ds_ret (de_var 2))))))) n_pieces_of

abbrev s_joins : Stmt := topS 18
theorem sc_joins : FnScope N_joins ["pieces"] (defScope s_joins) := ⟨rfl, rfl, rfl, by decide +kernel, rfl, by decide +kernel, by decide +kernel⟩
theorem ok_joins (T : Txt K w mg) : FnOk P w K mg base CX0 2 T.f_joins T.fd_joins ["pieces"] (spM K 1 G_joins) := fn_nrm (fn_d (k := 1) T.F_joins sc_joins fun cdv A outer s H E hr =>
 (dss_cons (ds_set (i := 1) sc_joins.nd (df_new (df_lst da_nil)))
 (dss_cons (ds_for PassesOwn.never rfl (di_rg1 T.b_range (de_len T.b_len (dq_val (de_var 0)))) (dg_name (i := 2) sc_joins.nd)
 (dss_one (ds_for PassesOwn.never rfl (di_rg1 T.b_range (de_var 2)) (dg_name (i := 3) sc_joins.nd)
 (dss_one (ds_if (dt_cmp (od_eq hr.units) (de_ix (de_ix (de_var 0) (de_var 3)) de_int) (de_ix (de_ix (de_var 0) (de_var 2)) de_int))
 (dss_one (ds_expr (de_app (de_var 1) (de_tup (da_cons de_str (da_cons (de_var 3) (da_cons (de_var 2) da_nil)))))))
 (dss_one (ds_if (dt_val (de_call (ok_meets T) hr (by decide) T.g_meets T.F_meets.kp T.B_meets (da_cons (de_ix (de_ix (de_var 0) (de_var 3)) de_int) (da_cons (de_ix (de_ix (de_var 0) (de_var 2)) de_int) da_nil))))
 (dss_one (ds_expr (de_app (de_var 1) (de_tup (da_cons de_str (da_cons (de_var 3) (da_cons (de_var 2) da_nil)))))))
 dss_nil)))))))
 (dss_one (ds_ret (de_var 1)))))) n_joins

abbrev s_mixed_ring : Stmt := topS 19
theorem sc_mixed_ring : FnScope N_mixed_ring ["programs", "cuts"] (defScope s_mixed_ring) := ⟨rfl, rfl, rfl, by decide +kernel, rfl, by decide +kernel, by decide +kernel⟩
theorem ok_mixed_ring (T : Txt K w mg) : FnOk P w K mg base CX0 6 T.f_mixed_ring T.fd_mixed_ring ["programs", "cuts"] (spM K 2 G_mixed_ring) := fn_nrm (fn_d (k := 5) T.F_mixed_ring sc_mixed_ring fun cdv A outer s H E hr =>
 (dss_cons (ds_set (i := 2) sc_mixed_ring.nd (de_call (ok_pieces_of T) hr (by decide) T.g_pieces_of T.F_pieces_of.kp T.B_pieces_of (da_cons (de_var 0) (da_cons (de_var 1) da_nil))))
 (dss_cons (ds_set (i := 3) sc_mixed_ring.nd (de_call (ok_joins T) hr (by decide) T.g_joins T.F_joins.kp T.B_joins (da_cons (de_var 2) da_nil)))
 (dss_cons (ds_setLc (i := 4) (own := [("a", 8)]) (t := (.nm 8)) rfl sc_mixed_ring.nd (di_rg1 T.b_range (de_len T.b_len (dq_val (de_var 2)))) (blkOk_by (N := N_mixed_ring) (sc := defScope s_mixed_ring) (by decide +kernel)) (by decide) (fun _ _ _ _ _ => (pg_name (i := 8) sc_mixed_ring.nd rfl (Or.inl rfl))) (fun _ _ _ _ _ => dpt_nil) (fun _ _ _ _ _ => (de_tup (da_cons (de_tup (da_cons (de_var 8) da_nil)) (da_cons de_str da_nil)))) (sw_true rfl rfl rfl (by decide +kernel)))
 (dss_cons (ds_while 2000000 PassesOwn.never (dt_cmp od_gt (de_len T.b_len (dq_val (de_var 4))) de_int)
 (dss_cons (ds_asg (de_popAt (de_var 4) de_int) (dg_tup rfl (dgs_cons (dg_name (i := 5) sc_mixed_ring.nd) (dgs_cons (dg_name (i := 6) sc_mixed_ring.nd) dgs_nil))))
 (dss_one (ds_for PassesOwn.never rfl (di_val (de_var 3)) (dg_tup rfl (dgs_cons (dg_name (i := 7) sc_mixed_ring.nd) (dgs_cons (dg_name (i := 8) sc_mixed_ring.nd) (dgs_cons (dg_name (i := 9) sc_mixed_ring.nd) dgs_nil))))
 (dss_one (ds_if (dt_cmp (od_in (hu_of hr)) (de_ix (de_var 5) (de_neg de_int)) (de_tup (da_cons (de_var 8) (da_cons (de_var 9) da_nil))))
 (dss_cons (ds_set (i := 10) sc_mixed_ring.nd (de_bin od_sub (de_bin od_add (de_var 8) (de_var 9)) (de_ix (de_var 5) (de_neg de_int))))
 (dss_cons (ds_set (i := 11) sc_mixed_ring.nd (de_and (de_cmp od_inS de_str (de_bin od_add (de_var 6) (de_var 7))) (de_one (de_cmp od_inS de_str (de_bin od_add (de_var 6) (de_var 7))))))
 (dss_cons (ds_if (dt_w (dw_and (dt_cmp (od_eq hr.units) (de_var 10) (de_ix (de_var 5) de_int)) (dw_and (dt_cmp od_gt (de_len T.b_len (dq_val (de_var 5))) de_int) (dw_and1 (dt_val (de_var 11))))))
 (dss_one (ds_ret (de_var 5)))
 dss_nil)
 (dss_one (ds_if (dt_w (dw_and (dt_cmp (od_notin (hu_of hr)) (de_var 10) (de_var 5)) (dw_and1 (dt_cmp od_gt (de_var 10) (de_ix (de_var 5) de_int)))))
 (dss_one (ds_expr (de_app (de_var 4) (de_tup (da_cons (de_bin od_add (de_var 5) (de_tup (da_cons (de_var 10) da_nil))) (da_cons (de_bin od_add (de_var 6) (de_var 7)) da_nil))))))
 dss_nil)))))
 dss_nil))))))
 (dss_one (ds_ret de_non))))))) n_mixed_ring

abbrev s_is_as_good : Stmt := topS 20
theorem sc_is_as_good : FnScope N_is_as_good ["programs", "cuts"] (defScope s_is_as_good) := ⟨rfl, rfl, rfl, by decide +kernel, rfl, by decide +kernel, by decide +kernel⟩
theorem ok_is_as_good (T : Txt K w mg) : FnOk P w K mg base CX0 7 T.f_is_as_good T.fd_is_as_good ["programs", "cuts"] (spM K 2 G_is_as_good) := fn_nrm (fn_d (k := 6) T.F_is_as_good sc_is_as_good fun cdv A outer s H E hr =>
 (dss_one (ds_ret (de_cmp od_is (de_call (ok_mixed_ring T) hr (by decide) T.g_mixed_ring T.F_mixed_ring.kp T.B_mixed_ring (da_cons (de_var 0) (da_cons (de_var 1) da_nil))) de_non)))) n_is_as_good

abbrev s__law_same : Stmt := topS 22
theorem sc__law_same : FnScope N__law_same ["actual", "due"] (defScope s__law_same) := ⟨rfl, rfl, rfl, by decide +kernel, rfl, by decide +kernel, by decide +kernel⟩
theorem okr__law_same (T : Txt K w mg) : ∀ k, FnOk P w K mg base CX0 (0 + k) T.f__law_same T.fd__law_same ["actual", "due"] (spM K 2 (F__law_same k))
  | 0 => fn_zero _
  | k + 1 => by
    have ih := okr__law_same T k
    exact fn_d (k := 0 + k) T.F__law_same sc__law_same fun cdv A outer s H E hr => by
      have hih : 0 + k ≤ 0 + k := Nat.le_refl _
      exact (dss_cons (ds_if (dt_w (dw_or (dt_val (de_isTuple T.b_isinstance T.b_tuple (de_var 1))) (dw_or1 (dt_val (de_isList T.b_isinstance T.b_list (de_var 1))))))
 (dss_cons (ds_if (dt_w (dw_or (dt_cmp (od_ne hr.units) (de_isTuple T.b_isinstance T.b_tuple (de_var 1)) (de_isTuple T.b_isinstance T.b_tuple (de_var 0))) (dw_or (dt_cmp (od_ne hr.units) (de_isList T.b_isinstance T.b_list (de_var 1)) (de_isList T.b_isinstance T.b_list (de_var 0))) (dw_or1 (dt_cmp (od_ne hr.units) (de_len T.b_len (dq_val (de_var 0))) (de_len T.b_len (dq_val (de_var 1))))))))
 (dss_one (ds_ret de_bl))
 dss_nil)
 (dss_one (ds_ret (de_cmp (od_eq hr.units) (de_len T.b_len (df_q (df_lc (own := [("k", 2)]) (t := (.nm 2)) rfl sc__law_same.nd (di_rg1 T.b_range (de_len T.b_len (dq_val (de_var 1)))) (blkOk_by (N := N__law_same) (sc := defScope s__law_same) (by decide +kernel)) (by decide) (fun _ _ _ _ _ => (pg_name (i := 2) sc__law_same.nd rfl (Or.inl rfl))) (fun _ _ _ _ _ => (dpt_one (dt_not (dt_val (de_call ih hr hih T.g__law_same T.F__law_same.kp T.B__law_same (da_cons (de_ix (de_var 0) (de_var 2)) (da_cons (de_ix (de_var 1) (de_var 2)) da_nil))))))) (fun _ _ _ _ _ => (de_var 2))))) de_int))))
 dss_nil)
 (dss_cons (ds_if (dt_cmp od_is (de_var 1) de_non)
 (dss_one (ds_ret (de_cmp od_is (de_var 0) de_non)))
 dss_nil)
 (dss_cons (ds_if (dt_w (dw_or (dt_val (de_isBool T.b_isinstance T.b_bool (de_var 1))) (dw_or1 (dt_val (de_isBool T.b_isinstance T.b_bool (de_var 0))))))
 (dss_one (ds_ret (de_and (de_isBool T.b_isinstance T.b_bool (de_var 1)) (de_and (de_isBool T.b_isinstance T.b_bool (de_var 0)) (de_one (de_cmp (od_eq hr.units) (de_var 0) (de_var 1)))))))
 dss_nil)
 (dss_cons (ds_if (dt_val (de_isInt T.b_isinstance T.b_int (de_var 1)))
 (dss_one (ds_ret (de_and (de_isInt T.b_isinstance T.b_int (de_var 0)) (de_one (de_cmp (od_eq hr.units) (de_var 0) (de_var 1))))))
 dss_nil)
 (dss_one (ds_ret (de_and (de_isStr T.b_isinstance T.b_str (de_var 0)) (de_and (de_isStr T.b_isinstance T.b_str (de_var 1)) (de_one (de_cmp (od_eq hr.units) (de_var 0) (de_var 1)))))))))))
theorem ok__law_same (T : Txt K w mg) : FnOk P w K mg base CX0 9 T.f__law_same T.fd__law_same ["actual", "due"] (spM K 2 G__law_same) := fn_nrm ((okr__law_same T 8).mono (by decide)) n__law_same

abbrev s__law_pool : Stmt := topS 23
theorem sc__law_pool : FnScope N__law_pool ["script"] (defScope s__law_pool) := ⟨rfl, rfl, rfl, by decide +kernel, rfl, by decide +kernel, by decide +kernel⟩
theorem ok__law_pool (T : Txt K w mg) : FnOk P w K mg base CX0 1 T.f__law_pool T.fd__law_pool ["script"] (spM K 1 G__law_pool) := fn_nrm (fn_d (k := 0) T.F__law_pool sc__law_pool fun cdv A outer s H E hr =>
 (dss_cons (ds_set (i := 1) sc__law_pool.nd de_int)
 (dss_cons (ds_for PassesOwn.never rfl (di_val (de_sl (de_var 0) do_none (do_some de_int))) (dg_name (i := 2) sc__law_pool.nd)
 (dss_one (ds_set (i := 1) sc__law_pool.nd (de_bin od_mod (de_intOf T.b_int (de_bin od_add (de_bin od_mul (de_var 1) de_int) (de_var 2))) de_int))))
 (dss_one (ds_ret (df_new (df_lst (da_cons (df_new (df_listOf T.b_list (dq_val (de_var 0)))) (da_cons de_int (da_cons de_int (da_cons de_int (da_cons (de_var 1) da_nil)))))))))))) n__law_pool

abbrev s__law_spread : Stmt := topS 24
theorem sc__law_spread : FnScope N__law_spread ["cell"] (defScope s__law_spread) := ⟨rfl, rfl, rfl, by decide +kernel, rfl, by decide +kernel, by decide +kernel⟩
theorem ok__law_spread (T : Txt K w mg) : FnOk P w K mg base CX0 1 T.f__law_spread T.fd__law_spread ["cell"] (spM K 1 G__law_spread) := fn_nrm (fn_d (k := 0) T.F__law_spread sc__law_spread fun cdv A outer s H E hr =>
 (dss_cons (ds_set (i := 1) sc__law_spread.nd (de_bin od_mod (de_intOf T.b_int (de_var 0)) de_int))
 (dss_cons (ds_set (i := 2) sc__law_spread.nd de_int)
 (dss_cons (ds_for PassesOwn.never rfl (di_rg1 T.b_range de_int) (dg_name (i := 3) sc__law_spread.nd)
 (dss_cons (ds_set (i := 1) sc__law_spread.nd (de_bin od_mod (de_intOf T.b_int (de_bin od_add (de_bin od_add (de_bin od_mul (de_var 1) de_int) de_int) (de_var 3))) de_int))
 (dss_one (ds_set (i := 2) sc__law_spread.nd (de_bin od_add (de_bin od_mul (de_var 2) de_int) (de_var 1))))))
 (dss_one (ds_ret (de_var 2))))))) n__law_spread

abbrev s__law_draw : Stmt := topS 25
theorem sc__law_draw : FnScope N__law_draw ["pool", "many"] (defScope s__law_draw) := ⟨rfl, rfl, rfl, by decide +kernel, rfl, by decide +kernel, by decide +kernel⟩
theorem ok__law_draw (T : Txt K w mg) : FnOk P w K mg base CX0 2 T.f__law_draw T.fd__law_draw ["pool", "many"] (spM K 2 G__law_draw) := fn_nrm (fn_d (k := 1) T.F__law_draw sc__law_draw fun cdv A outer s H E hr =>
 (dss_cons (ds_if (dt_w (dw_and (dt_cmp od_le (de_ix (de_var 0) de_int) de_int) (dw_and1 (dt_cmp od_lt (de_ix (de_var 0) de_int) (de_len T.b_len (dq_val (de_ix (de_var 0) de_int)))))))
 (dss_cons (ds_set (i := 2) sc__law_draw.nd (de_ix (de_ix (de_var 0) de_int) (de_ix (de_var 0) de_int)))
 (dss_cons (ds_asg (de_bin od_add (de_ix (de_var 0) de_int) de_int) (dg_sub (hu_of hr) (de_var 0) de_int))
 (dss_cons (ds_asg (de_var 2) (dg_sub (hu_of hr) (de_var 0) de_int))
 (dss_one (ds_if (dt_cmp od_lt (de_var 2) de_int)
 (dss_one (ds_asg (de_call (ok__law_spread T) hr (by decide) T.g__law_spread T.F__law_spread.kp T.B__law_spread (da_cons (de_var 2) da_nil)) (dg_sub (hu_of hr) (de_var 0) de_int)))
 dss_nil)))))
 dss_nil)
 (dss_cons (ds_asg (de_bin od_add (de_ix (de_var 0) de_int) de_int) (dg_sub (hu_of hr) (de_var 0) de_int))
 (dss_cons (ds_if (dt_cmp od_le (de_ix (de_var 0) de_int) de_int)
 (dss_cons (ds_set (i := 3) sc__law_draw.nd (de_bin od_mod (de_intOf T.b_int (de_bin od_add (de_bin od_add (de_bin od_mul (de_ix (de_var 0) de_int) de_int) (de_bin od_mul (de_ix (de_var 0) de_int) de_int)) de_int)) de_int))
 (dss_cons (ds_set (i := 3) sc__law_draw.nd (de_bin od_mod (de_intOf T.b_int (de_bin od_add (de_bin od_mul (de_var 3) de_int) (de_ix (de_var 0) de_int))) de_int))
 (dss_one (ds_ret (de_bin od_mod (de_bin od_div (de_var 3) de_int) (de_var 1))))))
 dss_nil)
 (dss_cons (ds_set (i := 4) sc__law_draw.nd (de_bin od_mod (de_intOf T.b_int (de_ix (de_var 0) de_int)) (de_var 1)))
 (dss_cons (ds_asg (de_bin od_div (de_ix (de_var 0) de_int) (de_var 1)) (dg_sub (hu_of hr) (de_var 0) de_int))
 (dss_one (ds_ret (de_var 4))))))))) n__law_draw

abbrev s__law_pick : Stmt := topS 26
theorem sc__law_pick : FnScope N__law_pick ["pool", "items"] (defScope s__law_pick) := ⟨rfl, rfl, rfl, by decide +kernel, rfl, by decide +kernel, by decide +kernel⟩
theorem ok__law_pick (T : Txt K w mg) : FnOk P w K mg base CX0 3 T.f__law_pick T.fd__law_pick ["pool", "items"] (spM K 2 G__law_pick) := fn_nrm (fn_d (k := 2) T.F__law_pick sc__law_pick fun cdv A outer s H E hr =>
 (dss_one (ds_ret (de_ix (de_var 1) (de_call (ok__law_draw T) hr (by decide) T.g__law_draw T.F__law_draw.kp T.B__law_draw (da_cons (de_var 0) (da_cons (de_len T.b_len (dq_val (de_var 1))) da_nil))))))) n__law_pick

abbrev s__law_programs : Stmt := topS 27
theorem sc__law_programs : FnScope N__law_programs ["pool", "most"] (defScope s__law_programs) := ⟨rfl, rfl, rfl, by decide +kernel, rfl, by decide +kernel, by decide +kernel⟩
theorem ok__law_programs (T : Txt K w mg) : FnOk P w K mg base CX0 4 T.f__law_programs T.fd__law_programs ["pool", "most"] (spM K 2 G__law_programs) := fn_nrm (fn_d (k := 3) T.F__law_programs sc__law_programs fun cdv A outer s H E hr =>
 (dss_cons (ds_set (i := 2) sc__law_programs.nd (de_bin od_add de_int (de_call (ok__law_draw T) hr (by decide) T.g__law_draw T.F__law_draw.kp T.B__law_draw (da_cons (de_var 0) (da_cons (de_var 1) da_nil)))))
 (dss_cons (ds_set (i := 3) sc__law_programs.nd (de_bin od_add de_int (de_call (ok__law_draw T) hr (by decide) T.g__law_draw T.F__law_draw.kp T.B__law_draw (da_cons (de_var 0) (da_cons de_int da_nil)))))
 (dss_one (ds_ret (de_tupOf T.b_tuple (df_q (df_lc (own := [("work", 4)]) (t := (.nm 4)) rfl sc__law_programs.nd (di_rg1 T.b_range (de_var 2)) (blkOk_by (N := N__law_programs) (sc := defScope s__law_programs) (by decide +kernel)) (by decide) (fun _ _ _ _ _ => (pg_name (i := 4) sc__law_programs.nd rfl (Or.inl rfl))) (fun _ _ _ _ _ => dpt_nil) (fun _ _ _ _ _ => (de_tupOf T.b_tuple (df_q (df_lc (own := [("k", 5)]) (t := (.nm 5)) rfl sc__law_programs.nd (di_rg1 T.b_range (de_call (ok__law_draw T) hr (by decide) T.g__law_draw T.F__law_draw.kp T.B__law_draw (da_cons (de_var 0) (da_cons de_int da_nil)))) (blkOk_by (by kernel_rfl)) (by decide) (fun _ _ _ _ _ => (pg_name (i := 5) sc__law_programs.nd rfl (Or.inl rfl))) (fun _ _ _ _ _ => dpt_nil) (fun _ _ _ _ _ => (de_tup (da_cons (de_call (ok__law_pick T) hr (by decide) T.g__law_pick T.F__law_pick.kp T.B__law_pick (da_cons (de_var 0) (da_cons (df_new (df_lst (da_cons de_str (da_cons de_str da_nil)))) da_nil))) (da_cons (de_call (ok__law_draw T) hr (by decide) T.g__law_draw T.F__law_draw.kp T.B__law_draw (da_cons (de_var 0) (da_cons (de_var 3) da_nil))) da_nil)))))))))))))))) n__law_programs

abbrev s__law_is_mixed : Stmt := topS 28
theorem sc__law_is_mixed : FnScope N__law_is_mixed ["found", "ring"] (defScope s__law_is_mixed) := ⟨rfl, rfl, rfl, by decide +kernel, rfl, by decide +kernel, by decide +kernel⟩
theorem ok__law_is_mixed (T : Txt K w mg) : FnOk P w K mg base CX0 1 T.f__law_is_mixed T.fd__law_is_mixed ["found", "ring"] (spM K 2 G__law_is_mixed) := fn_nrm (fn_d (k := 0) T.F__law_is_mixed sc__law_is_mixed fun cdv A outer s H E hr =>
 (dss_cons (ds_if (dt_w (dw_or (dt_cmp od_lt (de_len T.b_len (dq_val (de_var 1))) de_int) (dw_or (dt_cmp (od_ne hr.units) (de_len T.b_len (df_q (df_srtSet rfl T.b_sorted T.b_set (dq_val (de_var 1))))) (de_len T.b_len (dq_val (de_var 1)))) (dw_or1 (dt_cmp (od_ne hr.units) (de_ix (de_var 1) de_int) (de_minS rfl T.b_min (dq_val (de_var 1))))))))
 (dss_one (ds_ret de_bl))
 dss_nil)
 (dss_cons (ds_set (i := 2) sc__law_is_mixed.nd (df_new (df_lst da_nil)))
 (dss_cons (ds_for PassesOwn.never rfl (di_rg1 T.b_range (de_len T.b_len (dq_val (de_var 1)))) (dg_name (i := 3) sc__law_is_mixed.nd)
 (dss_cons (ds_asg (de_tup (da_cons (de_min2 rfl T.b_min (de_ix (de_var 1) (de_bin od_sub (de_var 3) de_int)) (de_ix (de_var 1) (de_var 3))) (da_cons (de_max2 rfl T.b_max (de_ix (de_var 1) (de_bin od_sub (de_var 3) de_int)) (de_ix (de_var 1) (de_var 3))) da_nil))) (dg_tup rfl (dgs_cons (dg_name (i := 4) sc__law_is_mixed.nd) (dgs_cons (dg_name (i := 5) sc__law_is_mixed.nd) dgs_nil))))
 (dss_cons (ds_setLc (i := 6) (own := [("word", 7), ("x", 8), ("y", 9)]) (t := (.tp [7, 8, 9])) rfl sc__law_is_mixed.nd (di_val (de_var 0)) (blkOk_by (N := N__law_is_mixed) (sc := defScope s__law_is_mixed) (by decide +kernel)) (by decide) (fun _ _ _ _ _ => (pg_tup rfl (pgs_cons (pg_name (i := 7) sc__law_is_mixed.nd rfl (Or.inl rfl)) (pgs_cons (pg_name (i := 8) sc__law_is_mixed.nd rfl (Or.inl rfl)) (pgs_cons (pg_name (i := 9) sc__law_is_mixed.nd rfl (Or.inl rfl)) pgs_nil))))) (fun _ _ _ _ _ => (dpt_one (dt_cmp (od_eq hr.units) (de_tup (da_cons (de_var 8) (da_cons (de_var 9) da_nil))) (de_tup (da_cons (de_var 4) (da_cons (de_var 5) da_nil)))))) (fun _ _ _ _ _ => (de_var 7)) (sw_true rfl rfl rfl (by decide +kernel)))
 (dss_cons (ds_if (dt_cmp (od_eq hr.units) (de_var 6) (df_new (df_lst da_nil)))
 (dss_one (ds_ret de_bl))
 dss_nil)
 (dss_one (ds_set (i := 2) sc__law_is_mixed.nd (de_bin od_add (de_var 2) (de_var 6))))))))
 (dss_one (ds_ret (de_and (de_cmp (od_in (hu_of hr)) de_str (de_var 2)) (de_one (de_cmp (od_in (hu_of hr)) de_str (de_var 2)))))))))) n__law_is_mixed

abbrev s__law_some_ring : Stmt := topS 29
theorem sc__law_some_ring : FnScope N__law_some_ring ["found", "many", "most"] (defScope s__law_some_ring) := ⟨rfl, rfl, rfl, by decide +kernel, rfl, by decide +kernel, by decide +kernel⟩
theorem ok__law_some_ring (T : Txt K w mg) : FnOk P w K mg base CX0 2 T.f__law_some_ring T.fd__law_some_ring ["found", "many", "most"] (spM K 3 G__law_some_ring) := fn_nrm (fn_d (k := 1) T.F__law_some_ring sc__law_some_ring fun cdv A outer s H E hr =>
 (dss_cons (ds_setLc (i := 3) (own := [("k", 4)]) (t := (.nm 4)) rfl sc__law_some_ring.nd (di_rg1 T.b_range (de_var 1)) (blkOk_by (N := N__law_some_ring) (sc := defScope s__law_some_ring) (by decide +kernel)) (by decide) (fun _ _ _ _ _ => (pg_name (i := 4) sc__law_some_ring.nd rfl (Or.inl rfl))) (fun _ _ _ _ _ => dpt_nil) (fun _ _ _ _ _ => (de_tup (da_cons (de_var 4) da_nil))) (sw_true rfl rfl rfl (by decide +kernel)))
 (dss_cons (ds_for PassesOwn.never rfl (di_rg1 T.b_range (de_var 2)) (dg_name (i := 4) sc__law_some_ring.nd)
 (dss_cons (ds_for PassesOwn.never rfl (di_val (de_var 3)) (dg_name (i := 5) sc__law_some_ring.nd)
 (dss_one (ds_if (dt_val (de_call (ok__law_is_mixed T) hr (by decide) T.g__law_is_mixed T.F__law_is_mixed.kp T.B__law_is_mixed (da_cons (de_var 0) (da_cons (de_var 5) da_nil))))
 (dss_one (ds_ret de_bl))
 dss_nil)))
 (dss_cons (ds_set (i := 6) sc__law_some_ring.nd (df_new (df_lst da_nil)))
 (dss_cons (ds_for PassesOwn.never rfl (di_val (de_var 3)) (dg_name (i := 5) sc__law_some_ring.nd)
 (dss_one (ds_for PassesOwn.never rfl (di_val (de_var 0)) (dg_tup rfl (dgs_cons (dg_name (i := 7) sc__law_some_ring.nd) (dgs_cons (dg_name (i := 8) sc__law_some_ring.nd) (dgs_cons (dg_name (i := 9) sc__law_some_ring.nd) dgs_nil))))
 (dss_one (ds_if (dt_cmp (od_in (hu_of hr)) (de_ix (de_var 5) (de_neg de_int)) (de_tup (da_cons (de_var 8) (da_cons (de_var 9) da_nil))))
 (dss_cons (ds_set (i := 10) sc__law_some_ring.nd (de_bin od_sub (de_bin od_add (de_var 8) (de_var 9)) (de_ix (de_var 5) (de_neg de_int))))
 (dss_one (ds_set (i := 6) sc__law_some_ring.nd (de_bin od_add (de_var 6) (de_if (dt_w (dw_and (dt_cmp (od_notin (hu_of hr)) (de_var 10) (de_var 5)) (dw_and1 (dt_cmp od_gt (de_var 10) (de_ix (de_var 5) de_int))))) (df_new (df_lst (da_cons (de_bin od_add (de_var 5) (de_tup (da_cons (de_var 10) da_nil))) da_nil))) (df_new (df_lst da_nil)))))))
 dss_nil)))))
 (dss_one (ds_set (i := 3) sc__law_some_ring.nd (de_sl (de_var 6) do_none (do_some de_int))))))))
 (dss_one (ds_ret de_bl))))) n__law_some_ring

abbrev s_law : Stmt := topS 30
theorem sc_law : FnScope N_law ["script"] (defScope s_law) := ⟨rfl, rfl, rfl, by decide +kernel, rfl, by decide +kernel, by decide +kernel⟩
theorem ok_law (T : Txt K w mg) : FnOk P w K mg base CX0 10 T.f_law T.fd_law ["script"] (spM K 1 G_law) := fn_nrm (fn_d (k := 9) T.F_law sc_law fun cdv A outer s H E hr =>
 (dss_cons (ds_set (i := 1) sc_law.nd (de_call (ok__law_pool T) hr (by decide) T.g__law_pool T.F__law_pool.kp T.B__law_pool (da_cons (de_var 0) da_nil)))
 (dss_cons (ds_set (i := 2) sc_law.nd (de_call (ok__law_programs T) hr (by decide) T.g__law_programs T.F__law_programs.kp T.B__law_programs (da_cons (de_var 1) (da_cons de_int da_nil))))
 (dss_cons (ds_set (i := 3) sc_law.nd (de_tupOf T.b_tuple (df_q (df_lc (own := [("program", 13)]) (t := (.nm 13)) rfl sc_law.nd (di_val (de_var 2)) (blkOk_by (N := N_law) (sc := defScope s_law) (by decide +kernel)) (by decide) (fun _ _ _ _ _ => (pg_name (i := 13) sc_law.nd rfl (Or.inl rfl))) (fun _ _ _ _ _ => dpt_nil) (fun _ _ _ _ _ => (de_tup da_nil))))))
 (dss_cons (ds_set (i := 4) sc_law.nd (de_tupOf T.b_tuple (df_q (df_lc (own := [("program", 13)]) (t := (.nm 13)) rfl sc_law.nd (di_val (de_var 2)) (blkOk_by (N := N_law) (sc := defScope s_law) (by decide +kernel)) (by decide) (fun _ _ _ _ _ => (pg_name (i := 13) sc_law.nd rfl (Or.inl rfl))) (fun _ _ _ _ _ => dpt_nil) (fun _ _ _ _ _ => (de_tupOf T.b_tuple (df_q (df_lc (own := [("place", 14)]) (t := (.nm 14)) rfl sc_law.nd (di_rg2 T.b_range de_int (de_len T.b_len (dq_val (de_var 13)))) (blkOk_by (by kernel_rfl)) (by decide) (fun _ _ _ _ _ => (pg_name (i := 14) sc_law.nd rfl (Or.inl rfl))) (fun _ _ _ _ _ => (dpt_one (dt_cmp (od_eq hr.units) (de_call (ok__law_draw T) hr (by decide) T.g__law_draw T.F__law_draw.kp T.B__law_draw (da_cons (de_var 1) (da_cons de_int da_nil))) de_int))) (fun _ _ _ _ _ => (de_var 14))))))))))
 (dss_cons (ds_set (i := 5) sc_law.nd (de_tupOf T.b_tuple (df_q (df_lc (own := [("row", 6)]) (t := (.nm 6)) rfl sc_law.nd (di_val (de_var 4)) (blkOk_by (N := N_law) (sc := defScope s_law) (by decide +kernel)) (by decide) (fun _ _ _ _ _ => (pg_name (i := 6) sc_law.nd rfl (Or.inl rfl))) (fun _ _ _ _ _ => dpt_nil) (fun _ _ _ _ _ => (de_tupOf T.b_tuple (df_q (df_lc (own := [("place", 14)]) (t := (.nm 14)) rfl sc_law.nd (di_val (de_var 6)) (blkOk_by (by kernel_rfl)) (by decide) (fun _ _ _ _ _ => (pg_name (i := 14) sc_law.nd rfl (Or.inl rfl))) (fun _ _ _ _ _ => (dpt_one (dt_cmp (od_eq hr.units) (de_call (ok__law_draw T) hr (by decide) T.g__law_draw T.F__law_draw.kp T.B__law_draw (da_cons (de_var 1) (da_cons de_int da_nil))) de_int))) (fun _ _ _ _ _ => (de_var 14))))))))))
 (dss_cons (ds_if (dt_w (dw_or (dt_not (dt_val (de_call (ok_is_as_good T) hr (by decide) T.g_is_as_good T.F_is_as_good.kp T.B_is_as_good (da_cons (de_var 2) (da_cons (de_var 3) da_nil))))) (dw_or1 (dt_cmp od_isnot (de_call (ok_mixed_ring T) hr (by decide) T.g_mixed_ring T.F_mixed_ring.kp T.B_mixed_ring (da_cons (de_var 2) (da_cons (de_var 3) da_nil))) de_non))))
 (dss_one (ds_ret de_bl))
 dss_nil)
 (dss_cons (ds_if (dt_w (dw_and (dt_not (dt_val (de_call (ok_is_as_good T) hr (by decide) T.g_is_as_good T.F_is_as_good.kp T.B_is_as_good (da_cons (de_var 2) (da_cons (de_var 5) da_nil))))) (dw_and1 (dt_val (de_call (ok_is_as_good T) hr (by decide) T.g_is_as_good T.F_is_as_good.kp T.B_is_as_good (da_cons (de_var 2) (da_cons (de_var 4) da_nil)))))))
 (dss_one (ds_ret de_bl))
 dss_nil)
 (dss_cons (ds_for PassesOwn.never rfl (di_val (de_tup (da_cons (de_var 5) (da_cons (de_var 4) da_nil)))) (dg_name (i := 6) sc_law.nd)
 (dss_cons (ds_set (i := 7) sc_law.nd (de_call (ok_pieces_of T) hr (by decide) T.g_pieces_of T.F_pieces_of.kp T.B_pieces_of (da_cons (de_var 2) (da_cons (de_var 6) da_nil))))
 (dss_cons (ds_setLc (i := 8) (own := [("program", 13)]) (t := (.nm 13)) rfl sc_law.nd (di_val (de_var 2)) (blkOk_by (N := N_law) (sc := defScope s_law) (by decide +kernel)) (by decide) (fun _ _ _ _ _ => (pg_name (i := 13) sc_law.nd rfl (Or.inl rfl))) (fun _ _ _ _ _ => dpt_nil) (fun _ _ _ _ _ => (de_tup da_nil)) (sw_true rfl rfl rfl (by decide +kernel)))
 (dss_cons (ds_for PassesOwn.never rfl (di_val (de_var 7)) (dg_tup rfl (dgs_cons (dg_name (i := 9) sc_law.nd) (dgs_cons (dg_name (i := 10) sc_law.nd) dgs_nil)))
 (dss_one (ds_asg (de_bin od_add (de_ix (de_var 8) (de_bin od_sub (de_var 9) de_int)) (de_var 10)) (dg_sub (hu_of hr) (de_var 8) (de_bin od_sub (de_var 9) de_int)))))
 (dss_cons (ds_if (dt_not (dt_val (de_call (ok__law_same T) hr (by decide) T.g__law_same T.F__law_same.kp T.B__law_same (da_cons (de_tupOf T.b_tuple (dq_val (de_var 8))) (da_cons (de_var 2) da_nil)))))
 (dss_one (ds_ret de_bl))
 dss_nil)
 (dss_cons (ds_par (i := 11) (j := 12) rfl sc_law.nd (by decide) (de_call (ok_joins T) hr (by decide) T.g_joins T.F_joins.kp T.B_joins (da_cons (de_var 7) da_nil)) (de_call (ok_mixed_ring T) hr (by decide) T.g_mixed_ring T.F_mixed_ring.kp T.B_mixed_ring (da_cons (de_var 2) (da_cons (de_var 6) da_nil))))
 (dss_cons (ds_if (dt_cmp (od_ne hr.units) (de_call (ok_is_as_good T) hr (by decide) T.g_is_as_good T.F_is_as_good.kp T.B_is_as_good (da_cons (de_var 2) (da_cons (de_var 6) da_nil))) (de_cmp od_is (de_var 12) de_non))
 (dss_one (ds_ret de_bl))
 dss_nil)
 (dss_cons (ds_if (dt_w (dw_and (dt_cmp od_isnot (de_var 12) de_non) (dw_and1 (dt_w (dw_or (dt_not (dt_val (de_call (ok__law_is_mixed T) hr (by decide) T.g__law_is_mixed T.F__law_is_mixed.kp T.B__law_is_mixed (da_cons (de_var 11) (da_cons (de_var 12) da_nil))))) (dw_or1 (dt_val (de_call (ok__law_some_ring T) hr (by decide) T.g__law_some_ring T.F__law_some_ring.kp T.B__law_some_ring (da_cons (de_var 11) (da_cons (de_len T.b_len (dq_val (de_var 7))) (da_cons (de_bin od_sub (de_len T.b_len (dq_val (de_var 12))) de_int) da_nil)))))))))))
 (dss_one (ds_ret de_bl))
 dss_nil)
 (dss_one (ds_if (dt_w (dw_and (dt_cmp od_is (de_var 12) de_non) (dw_and1 (dt_val (de_call (ok__law_some_ring T) hr (by decide) T.g__law_some_ring T.F__law_some_ring.kp T.B__law_some_ring (da_cons (de_var 11) (da_cons (de_len T.b_len (dq_val (de_var 7))) (da_cons de_int da_nil))))))))
 (dss_one (ds_ret de_bl))
 dss_nil))))))))))
 (dss_one (ds_ret de_bl))))))))))) n_law

end

end Law

namespace Law
open PySem PySem.Spec PyProof.Rows L2 DL
def CtP (ps : List Prog) (i : Nat) (acc : List DV) (s : Sto) : Prop := ∃ (p : PS) (G : Sto) (cs : List (List Nat)), s = p.st ++ G ∧ OkP p ∧ acc = cs.map nsD ∧ cs.length = i ∧ ∀ k < i, OkCut (pAt ps k) (cAt cs k)
def CiP (G : Sto) (j : Nat) (acc : List DV) (s : Sto) : Prop := ∃ (p : PS) (c : List Nat), s = p.st ++ G ∧ OkP p ∧ acc = c.map (fun (n : Nat) => DV.int n) ∧ c.Pairwise (· < ·) ∧ ∀ x ∈ c, 0 < x ∧ x ≤ j
def SmP (cs : List (List Nat)) (i : Nat) (acc : List DV) (s : Sto) : Prop := ∃ (p : PS) (G : Sto) (ss : List (List Nat)), s = p.st ++ G ∧ OkP p ∧ acc = ss.map nsD ∧ ss.length = i ∧ ∀ k < i, (cAt ss k).Sublist (cAt cs k)
def SiP (G : Sto) (c : List Nat) (j : Nat) (acc : List DV) (s : Sto) : Prop := ∃ (p : PS) (d : List Nat), s = p.st ++ G ∧ OkP p ∧ acc = d.map (fun (n : Nat) => DV.int n) ∧ d.Sublist (c.take j)
def LwP (ns : List Int) (ps : List Prog) (cs ss : List (List Nat)) (e : DL.Env) : Prop := ∃ x6 x7 x8 x9 x10 x11 x12, e = [some (.scr (ns.map DV.int)), some (.ref 2), some (psD ps), some (csD (ps.map fun _ => [])), some (csD cs), some (csD ss), x6, x7, x8, x9, x10, x11, x12, none, none]
def WhP (ns : List Int) (ps : List Prog) (cs ss rs : List (List Nat)) (x11 x12 : Option DV) (a b : Nat) (s0 : Sto) (i : Nat) (e : DL.Env) (s : Sto) : Prop := Pre s0 s ∧ s[b]? = some (.lst ((List.range ps.length).map fun k => pD (wholeK ps ((ivs ps rs).take i) k))) ∧ ∃ x9 x10, e = [some (.scr (ns.map DV.int)), some (.ref 2), some (psD ps), some (csD (ps.map fun _ => [])), some (csD cs), some (csD ss), some (csD rs), some (.ref a), some (.ref b), x9, x10, x11, x12, none, none]
theorem programs_V0 {p : PS} (ok : OkP p) {Q : DV → Sto → Prop} (q : ∀ ps p', OkP p' → OkProgs ps → Q (psD ps) (p'.st ++ [])) : V (G__law_programs [.ref 2, .int 3] p.st) Q := by
  have := programs_V ok (g := []) q
  rwa [List.append_nil] at this
theorem cAt_snoc {cs : List (List Nat)} {c : List Nat} {k i : Nat} (h : cs.length = i) : cAt (cs ++ [c]) k = if k = i then c else cAt cs k := by
  unfold cAt
  subst h
  by_cases q : k = cs.length
  · subst q; rw [if_pos rfl, List.getElem?_append_right (Nat.le_refl _), Nat.sub_self]; rfl
  · rw [if_neg q]
    by_cases q2 : k < cs.length
    · rw [List.getElem?_append_left q2]
    · rw [List.getElem?_eq_none (by rw [List.length_append, List.length_singleton]; omega), List.getElem?_eq_none (by omega)]
theorem ne_bl {a b : Bool} {st : Sto} : gNe (.bl a) (.bl b) st = some (.bl (!(a == b)), st) := by
  show some (DV.bl (!PyData.eqv (.bool a) (.bool b)), st) = _
  simp only [PyData.eqv]
theorem law_true (ns : List Int) (hn : ns.length ≤ 63) : V (F_law [.scr (ns.map DV.int)] []) fun d _ => d = .bl true := by
  obtain ⟨p0, hp0, ok0⟩ := p_pool hn
  simp -dsimp [F_law, m_law, hp0]
  refine programs_V0 ok0 fun ps p1 ok1 H => ?_
  have hps : ∀ s, itemsOf s (psD ps) = some (ps.map pD) := fun _ => rfl
  simp -dsimp [hps]
  refine lc_map ps pD (fun _ => nsD []) rfl trivial (fun p hp => by simp -dsimp [nsD]) ?_
  have hnone : DV.tup (ps.map fun _ => nsD []) = csD (ps.map fun _ => []) := by unfold csD; rw [List.map_map]; rfl
  simp -dsimp [hnone, hps]
  refine lc_V (fun i acc s => CtP ps i acc s) ⟨p1, [], [], by simp, ok1, rfl, rfl, fun k hk => by omega⟩ (fun _ _ _ _ => trivial) (fun i d acc s hd hp => ?_) (fun acc s hp => ?_)
  · obtain ⟨p, G, cs, rfl, ok, rfl, hi, hcs⟩ := hp
    rw [List.getElem?_map] at hd
    obtain ⟨q, hq, rfl⟩ := Option.map_eq_some_iff.mp hd
    have hqp : pAt ps i = q := by unfold pAt; rw [hq]; rfl
    have hql : q.length ≤ 3 := (H.one q (List.mem_of_getElem? hq)).len
    have hqi : ∀ s, itemsOf s (pD q) = some (q.map sD) := fun _ => rfl
    have hr : okR 1 (q.length : Int) = true := by simp [okR]; omega
    simp -dsimp [hqi, hr]
    refine lc_V (fun j acc s => CiP G j acc s) ⟨p, [], rfl, ok, rfl, by simp, by simp⟩ (fun _ _ _ _ => trivial) (fun j d2 acc s hd2 hp => ?_) (fun acc s hp => ?_)
    · obtain ⟨p, c, rfl, ok, rfl, hc, hcj⟩ := hp
      obtain ⟨hj, rfl⟩ := rgD_get1 hd2
      simp -dsimp
      refine draw_V ok (by decide) (by decide) fun v p' ok' v0 v1 => ?_
      simp -dsimp
      by_cases v2 : v = 0
      · rw [decide_eq_true v2]
        simp -dsimp
        refine ⟨p', c ++ [j + 1], rfl, ok', by simp, ?_, fun x hx => ?_⟩
        · rw [List.pairwise_append]
          exact ⟨hc, by simp, fun x hx y hy => by rw [List.mem_singleton.mp hy]; have := hcj x hx; omega⟩
        · rcases List.mem_append.mp hx with hx | hx
          · have := hcj x hx; omega
          · rw [List.mem_singleton.mp hx]; omega
      · rw [decide_eq_false v2]
        simp -dsimp
        exact ⟨p', c, rfl, ok', rfl, hc, fun x hx => by have := hcj x hx; omega⟩
    · obtain ⟨p, c, rfl, ok, rfl, hc, hcj⟩ := hp
      rw [rgD_len] at hcj
      refine ⟨p, G, cs ++ [c], rfl, ok, by simp [nsD], by simp [hi], fun k hk => ?_⟩
      rw [cAt_snoc hi]
      by_cases q2 : k = i
      · rw [if_pos q2, q2, hqp]
        exact ⟨hc, fun x hx => by have := hcj x hx; omega⟩
      · rw [if_neg q2]
        exact hcs k (by omega)
  obtain ⟨p2, G, cs, rfl, ok2, rfl, hi, hcs⟩ := hp
  rw [List.length_map] at hi hcs
  have C : OkCs2 ps cs := ⟨hi, hcs⟩
  clear hnone
  simp -dsimp
  refine lc_V (fun i acc s => SmP cs i acc s) ⟨p2, G, [], rfl, ok2, rfl, rfl, fun k hk => by omega⟩ (fun _ _ _ _ => trivial) (fun i d acc s hd hp => ?_) (fun acc s hp => ?_)
  · obtain ⟨p, G, ss, rfl, ok, rfl, hi, hss⟩ := hp
    rw [List.getElem?_map] at hd
    obtain ⟨c, hq, rfl⟩ := Option.map_eq_some_iff.mp hd
    have hqp : cAt cs i = c := by unfold cAt; rw [hq]; rfl
    have hqi : ∀ s, itemsOf s (nsD c) = some (c.map fun (n : Nat) => DV.int n) := fun _ => rfl
    simp -dsimp [hqi]
    refine lc_V (fun j acc s => SiP G c j acc s) ⟨p, [], rfl, ok, rfl, by simp⟩ (fun _ _ _ _ => trivial) (fun j d2 acc s hd2 hp => ?_) (fun acc s hp => ?_)
    · obtain ⟨p, d, rfl, ok, rfl, hdc⟩ := hp
      rw [List.getElem?_map] at hd2
      obtain ⟨x, hx, rfl⟩ := Option.map_eq_some_iff.mp hd2
      have htk : c.take (j + 1) = c.take j ++ [x] := by rw [List.take_add_one, hx]; rfl
      simp -dsimp
      refine draw_V ok (by decide) (by decide) fun v p' ok' v0 v1 => ?_
      simp -dsimp
      by_cases v2 : v = 0
      · rw [decide_eq_true v2]
        simp -dsimp
        exact ⟨p', d ++ [x], rfl, ok', by simp, by rw [htk]; exact List.Sublist.append hdc (List.Sublist.refl _)⟩
      · rw [decide_eq_false v2]
        simp -dsimp
        exact ⟨p', d, rfl, ok', rfl, by rw [htk]; exact hdc.trans (List.sublist_append_left _ _)⟩
    · obtain ⟨p, d, rfl, ok, rfl, hdc⟩ := hp
      rw [List.length_map, List.take_length] at hdc
      refine ⟨p, G, ss ++ [d], rfl, ok, by simp [nsD], by simp [hi], fun k hk => ?_⟩
      rw [cAt_snoc hi]
      by_cases q2 : k = i
      · rw [if_pos q2, q2, hqp]
        exact hdc
      · rw [if_neg q2]
        exact hss k (by omega)
  obtain ⟨p3, G3, ss, rfl, ok3, rfl, si, hss⟩ := hp
  rw [List.length_map] at si hss
  have S : OkCs2 ps ss := ⟨by omega, fun k hk => sub_ok (C.ok k hk) (hss k (by omega))⟩
  have F : Finer ps ss cs := ⟨S.ok, C.ok, fun k x hx => by
    by_cases hk : k < cs.length
    · exact (hss k hk).subset hx
    · unfold cAt at hx
      rw [List.getElem?_eq_none (by omega)] at hx
      cases hx⟩
  generalize p3.st ++ G3 = s0
  have N1 : ringOf ps (ps.map fun _ => []) = none := none_free ps
  have A1 : ∀ s, G_is_as_good [psD ps, csD (ps.map fun _ => [])] s = some (.bl true, s) := fun s => by rw [p_is_as_good H (none_ok ps), N1]; rfl
  have A2 : ∀ s, G_mixed_ring [psD ps, csD (ps.map fun _ => [])] s = some (.non, s) := fun s => by rw [p_mixed_ring H (none_ok ps), N1]; rfl
  have A3 : ∀ s, G_is_as_good [psD ps, .tup (cs.map nsD)] s = some (.bl (ringOf ps cs).isNone, s) := fun s => p_is_as_good H C s
  have A4 : ∀ s, G_is_as_good [psD ps, .tup (ss.map nsD)] s = some (.bl (ringOf ps ss).isNone, s) := fun s => p_is_as_good H S s
  have N2 : (ringOf ps cs).isNone = true → (ringOf ps ss).isNone = true := fun h => by
    have h : ringOf ps cs = none := Option.isNone_iff_eq_none.mp h
    have : ringOf ps ss = none := ring_of_finer H C F h
    rw [this]
    rfl
  generalize (ringOf ps cs).isNone = b1 at A3 N2
  generalize (ringOf ps ss).isNone = b2 at A4 N2
  simp -dsimp [-DL.w_if]
  refine if_skip2 (s := s0) ?_ ?_
  · simp -dsimp [A1, A2]
  simp -dsimp [-DL.w_if]
  refine if_skip2 (s := s0) ?_ ?_
  · cases b2 with
    | true => simp -dsimp [A4]
    | false =>
      cases b1 with
      | true => exact absurd (N2 rfl) (by decide)
      | false => simp -dsimp [A4, A3]
  simp -dsimp
  refine for_W (fun i e s => LwP ns ps cs ss e) ⟨_, _, _, _, _, _, _, rfl⟩ (fun _ _ _ _ => trivial) (fun i d e s hd hp => ?_) (fun e s hp => ?_)
  · obtain ⟨x6, x7, x8, x9, x10, x11, x12, rfl⟩ := hp
    obtain ⟨rs, rfl, R⟩ : ∃ rs, d = csD rs ∧ OkCs2 ps rs := by
      have := List.mem_of_getElem? hd
      simp only [List.mem_cons, List.not_mem_nil, or_false] at this
      rcases this with rfl | rfl
      · exact ⟨ss, rfl, S⟩
      · exact ⟨cs, rfl, C⟩
    clear hd N2 A3 A4 A1 A2 F N1
    have hN := pieces_len H R
    have hpl : ∀ x ∈ piecesV ps rs, x.2.length ≤ 3 := fun x hx => by
      obtain ⟨v, _, rfl⟩ := List.mem_map.mp hx
      exact slice_len (pAt_ok H _) _ _
    have okE := edges_ok (piecesV ps rs)
    have hEl : (edgesV (piecesV ps rs)).length ≤ 81 := by
      have := rows_len (piecesV ps rs) (piecesV ps rs).length hN
      unfold edgesV
      omega
    have B1 : ∀ s, G_pieces_of [psD ps, csD rs] s = some (.ref s.length, s ++ [.lst ((piecesV ps rs).map pieceD)]) := fun s => p_pieces_of H R s
    have B2 : ∀ s, G_mixed_ring [psD ps, csD rs] s = some (oT (ringOf ps rs), s) := fun s => p_mixed_ring H R s
    have B3 : ∀ s, G_is_as_good [psD ps, csD rs] s = some (.bl (ringOf ps rs).isNone, s) := fun s => p_is_as_good H R s
    simp -dsimp [B1, hps]
    refine lc_map ps pD (fun _ => pD []) rfl trivial (fun p hp => by simp -dsimp [pD]) ?_
    have hw0 : ps.map (fun _ => pD []) = (List.range ps.length).map fun k => pD (wholeK ps ((ivs ps rs).take 0) k) := (pAt_map (f := fun _ => pD []) ps).symm
    have hpc : (s ++ [DO.lst ((piecesV ps rs).map pieceD)])[s.length]? = some (.lst ((piecesV ps rs).map pieceD)) := app_get0
    simp -dsimp [app_old hpc]
    refine for_W (fun i e s' => WhP ns ps cs ss rs x11 x12 s.length (s.length + 1) (s ++ [.lst ((piecesV ps rs).map pieceD)]) i e s') ⟨⟨[.lst (ps.map fun _ => pD [])], by simp⟩, by rw [app_get, hw0]; rfl, _, _, rfl⟩ (fun i e s' hp => ?_) (fun i d e s' hd hp => ?_) (fun e s' hp => ?_)
    · obtain ⟨hpre, _⟩ := hp
      simp -dsimp [hpre.get hpc]
    · obtain ⟨hpre, hb, x9, x10, rfl⟩ := hp
      rw [List.getElem?_map] at hd
      obtain ⟨x, hx, rfl⟩ := Option.map_eq_some_iff.mp hd
      obtain ⟨v, hv, rfl⟩ := piece_iv hx
      have hvk : v.1 < ps.length := (mem_ivs.mp (List.mem_of_getElem? hv)).1
      have htk : (ivs ps rs).take (i + 1) = (ivs ps rs).take i ++ [v] := by rw [List.take_add_one, hv]; rfl
      have hwl := whole_len H ((ivs ps rs).take i) v.1
      have hil : ((ivs ps rs).take i).length ≤ 9 := by
        rw [List.length_take]
        have : (piecesV ps rs).length = (ivs ps rs).length := List.length_map _
        omega
      have hsl := slice_len (pAt_ok H v.1) v.2.1 v.2.2
      have hz : (wholeK ps ((ivs ps rs).take i) v.1).length + (sliceN (pAt ps v.1) v.2.1 v.2.2).length ≤ LIM := by show _ ≤ 10000000; omega
      have hsub : (((v.1 + 1 : Nat) : Int)) - 1 = (v.1 : Nat) := by omega
      have hblt := (List.getElem?_eq_some_iff.mp hb).1
      have hat : atI ((List.range ps.length).map fun k => pD (wholeK ps ((ivs ps rs).take i) k)) ((v.1 : Nat) : Int) = some (pD (wholeK ps ((ivs ps rs).take i) v.1)) := by
        rw [atI_ofNat, List.getElem?_map, List.getElem?_range hvk]
        rfl
      have hadd : ∀ st, gAdd (pD (wholeK ps ((ivs ps rs).take i) v.1)) (pD (sliceN (pAt ps v.1) v.2.1 v.2.2)) st = some (pD (wholeK ps ((ivs ps rs).take i) v.1 ++ sliceN (pAt ps v.1) v.2.1 v.2.2), st) := fun st => by
        unfold pD
        rw [ev_addT, if_pos (by simpa using hz), List.map_append]
      have hset := rg_set (f := fun k => pD (wholeK ps ((ivs ps rs).take i) k)) (g := fun k => pD (wholeK ps ((ivs ps rs).take (i + 1)) k)) hvk (fun j hj => by
        rw [htk, whole_snoc, if_neg (fun e => hj e.symm)])
      have hnew : wholeK ps ((ivs ps rs).take (i + 1)) v.1 = wholeK ps ((ivs ps rs).take i) v.1 ++ sliceN (pAt ps v.1) v.2.1 v.2.2 := by rw [htk, whole_snoc, if_pos rfl]
      rw [hnew] at hset
      have hix : ixN ((List.range ps.length).map fun k => pD (wholeK ps ((ivs ps rs).take i) k)).length ((v.1 : Nat) : Int) = some v.1 := by
        rw [List.length_map, List.length_range]
        rw [ixN_nat (by omega) (by omega), Int.toNat_natCast]
      have hgs : ∀ d, gSet (.ref (s.length + 1)) (.int ((v.1 : Nat) : Int)) d s' = _ := fun d => gset_lst (d := d) hb hix
      simp -dsimp [pieceD, pieceOf, ev_tgs0, ev_tgs1, hb, hat, hadd, hgs]
      refine ⟨hpre.set (by simp) _, ?_, _, _, rfl⟩
      rw [List.getElem?_set_self hblt, hset]
    · obtain ⟨hpre, hb, x9, x10, rfl⟩ := hp
      rw [List.length_map] at hb
      have hfin : (List.range ps.length).map (fun k => pD (wholeK ps ((ivs ps rs).take (piecesV ps rs).length) k)) = ps.map pD := by
        rw [← pAt_map]
        refine List.map_congr_left fun k hk => ?_
        have e1 : (piecesV ps rs).length = (ivs ps rs).length := List.length_map _
        rw [e1, List.take_length, whole_all R.ok (List.mem_range.mp hk)]
      rw [hfin] at hb
      have SM : ∀ st, G__law_same [.tup (ps.map pD), psD ps] st = some (.bl true, st) := fun st => p_same (same_psD H) (by decide)
      have hq := hpre.get hpc
      have J := p_joins hq hN hpl
      clear hfin
      have hM := fun r (h : ringOf ps rs = some r) => mixed_ring okE h
      have hS := fun r (h : ringOf ps rs = some r) => no_short okE hN h
      have hO := fun (h : ringOf ps rs = none) => no_ring okE hN h
      generalize ringOf ps rs = T at B2 B3 hM hS hO
      generalize piecesV ps rs = P at *
      generalize edgesV P = E at *
      have hE0 : (s' ++ [DO.lst (E.map eD)])[s'.length]? = some (.lst (E.map eD)) := app_get0
      have hq2 := app_old (g := [DO.lst (E.map eD)]) hq
      cases T with
      | none =>
        have SR : ∀ Z, G__law_some_ring [.ref s'.length, .int P.length, .int 4] (s' ++ [DO.lst (E.map eD)]) = some (.bl false, Z) ↔ s' ++ [DO.lst (E.map eD)] = Z := fun Z => by
          have := p_some_ring (m := 4) hE0 hEl hN (by decide) fun r _ => hO rfl r
          rw [show G__law_some_ring [.ref s'.length, .int P.length, .int 4] (s' ++ [DO.lst (E.map eD)]) = _ from this]
          simp
        have SR := (SR _).mpr rfl
        simp -dsimp [hb, SM, J, B2, B3, oT, ne_bl, hq2, SR]
        exact ⟨_, _, _, _, _, _, _, rfl⟩
      | some r =>
        obtain ⟨ls, hr1, hr2⟩ := hM r rfl
        have hrl := ring_le okE hr1
        have hr3 := hr1.len
        have IM := p_is_mixed hE0 hEl (r := r) (by intro q; rw [q] at hr3; simp at hr3) (by omega)
        rw [ring_mixed okE hr1 hr2] at IM
        have SR := p_some_ring (m := r.length - 1) hE0 hEl hN (by omega) (hS r rfl)
        have hcast : ((r.length - 1 : Nat) : Int) = (r.length : Int) - 1 := by omega
        rw [hcast] at SR
        have hlen : ∀ s, itemsOf s (nsD r) = some (r.map fun (n : Nat) => DV.int n) := fun _ => rfl
        have hnn : isN (nsD r) = false := rfl
        simp -dsimp [hb, SM, J, B2, B3, oT, ne_bl, hq2, SR, IM, hlen, hnn]
        exact ⟨_, _, _, _, _, _, _, rfl⟩
  · obtain ⟨x6, x7, x8, x9, x10, x11, x12, rfl⟩ := hp
    simp -dsimp

theorem the_law (ns : List Int) (hn : ns.length ≤ 63) : ∃ st', G_law [.scr (ns.map DV.int)] [] = some (.bl true, st') := by
  obtain ⟨_, st', h, rfl⟩ := law_true ns hn
  exact ⟨st', h⟩

end Law
namespace Law
open PySem PySem.Spec PyProof.Rows L2 DL

theorem all_mk {w : World} {K : PySem.W.Frag} {h : Heap} {mg : Str → Option Value} {fa : Addr} (X : K.In h) (G : h.Ns mainGlobals mg) (hfa : mg "law" = some (.ref fa))
    {fa0 : Addr} {od0 an0 : Option Addr} {sl0 : Array (Option Value)} {oc0 kV0 dc0 pm0 cd0 ct0 : Value} (a0 : PySem.W.nsIn K mainGlobals "is_whole" = some (some (.ref fa0))) (l0 : K.lookup fa0 = some ⟨oc0, od0, .func (PySem.W.fnOf "is_whole" "is_whole" (defArgs (topS 3)) (defBody (topS 3)) (defScope (topS 3)) .none kV0 dc0 pm0 an0 cd0 ct0), sl0⟩) (c0 : PySem.W.codeIn K cd0 "is_whole" = true) (k0 : PySem.W.keepIn K (.ref fa0) = true)
    {fa1 : Addr} {od1 an1 : Option Addr} {sl1 : Array (Option Value)} {oc1 kV1 dc1 pm1 cd1 ct1 : Value} (a1 : PySem.W.nsIn K mainGlobals "is_from" = some (some (.ref fa1))) (l1 : K.lookup fa1 = some ⟨oc1, od1, .func (PySem.W.fnOf "is_from" "is_from" (defArgs (topS 4)) (defBody (topS 4)) (defScope (topS 4)) .none kV1 dc1 pm1 an1 cd1 ct1), sl1⟩) (c1 : PySem.W.codeIn K cd1 "is_from" = true) (k1 : PySem.W.keepIn K (.ref fa1) = true)
    {fa2 : Addr} {od2 an2 : Option Addr} {sl2 : Array (Option Value)} {oc2 kV2 dc2 pm2 cd2 ct2 : Value} (a2 : PySem.W.nsIn K mainGlobals "is_step" = some (some (.ref fa2))) (l2 : K.lookup fa2 = some ⟨oc2, od2, .func (PySem.W.fnOf "is_step" "is_step" (defArgs (topS 11)) (defBody (topS 11)) (defScope (topS 11)) .none kV2 dc2 pm2 an2 cd2 ct2), sl2⟩) (c2 : PySem.W.codeIn K cd2 "is_step" = true) (k2 : PySem.W.keepIn K (.ref fa2) = true)
    {fa3 : Addr} {od3 an3 : Option Addr} {sl3 : Array (Option Value)} {oc3 kV3 dc3 pm3 cd3 ct3 : Value} (a3 : PySem.W.nsIn K mainGlobals "are_programs" = some (some (.ref fa3))) (l3 : K.lookup fa3 = some ⟨oc3, od3, .func (PySem.W.fnOf "are_programs" "are_programs" (defArgs (topS 10)) (defBody (topS 10)) (defScope (topS 10)) .none kV3 dc3 pm3 an3 cd3 ct3), sl3⟩) (c3 : PySem.W.codeIn K cd3 "are_programs" = true) (k3 : PySem.W.keepIn K (.ref fa3) = true)
    {fa4 : Addr} {od4 an4 : Option Addr} {sl4 : Array (Option Value)} {oc4 kV4 dc4 pm4 cd4 ct4 : Value} (a4 : PySem.W.nsIn K mainGlobals "meets" = some (some (.ref fa4))) (l4 : K.lookup fa4 = some ⟨oc4, od4, .func (PySem.W.fnOf "meets" "meets" (defArgs (topS 13)) (defBody (topS 13)) (defScope (topS 13)) .none kV4 dc4 pm4 an4 cd4 ct4), sl4⟩) (c4 : PySem.W.codeIn K cd4 "meets" = true) (k4 : PySem.W.keepIn K (.ref fa4) = true)
    {fa5 : Addr} {od5 an5 : Option Addr} {sl5 : Array (Option Value)} {oc5 kV5 dc5 pm5 cd5 ct5 : Value} (a5 : PySem.W.nsIn K mainGlobals "are_cuts" = some (some (.ref fa5))) (l5 : K.lookup fa5 = some ⟨oc5, od5, .func (PySem.W.fnOf "are_cuts" "are_cuts" (defArgs (topS 16)) (defBody (topS 16)) (defScope (topS 16)) .none kV5 dc5 pm5 an5 cd5 ct5), sl5⟩) (c5 : PySem.W.codeIn K cd5 "are_cuts" = true) (k5 : PySem.W.keepIn K (.ref fa5) = true)
    {fa6 : Addr} {od6 an6 : Option Addr} {sl6 : Array (Option Value)} {oc6 kV6 dc6 pm6 cd6 ct6 : Value} (a6 : PySem.W.nsIn K mainGlobals "pieces_of" = some (some (.ref fa6))) (l6 : K.lookup fa6 = some ⟨oc6, od6, .func (PySem.W.fnOf "pieces_of" "pieces_of" (defArgs (topS 17)) (defBody (topS 17)) (defScope (topS 17)) .none kV6 dc6 pm6 an6 cd6 ct6), sl6⟩) (c6 : PySem.W.codeIn K cd6 "pieces_of" = true) (k6 : PySem.W.keepIn K (.ref fa6) = true)
    {fa7 : Addr} {od7 an7 : Option Addr} {sl7 : Array (Option Value)} {oc7 kV7 dc7 pm7 cd7 ct7 : Value} (a7 : PySem.W.nsIn K mainGlobals "joins" = some (some (.ref fa7))) (l7 : K.lookup fa7 = some ⟨oc7, od7, .func (PySem.W.fnOf "joins" "joins" (defArgs (topS 18)) (defBody (topS 18)) (defScope (topS 18)) .none kV7 dc7 pm7 an7 cd7 ct7), sl7⟩) (c7 : PySem.W.codeIn K cd7 "joins" = true) (k7 : PySem.W.keepIn K (.ref fa7) = true)
    {fa8 : Addr} {od8 an8 : Option Addr} {sl8 : Array (Option Value)} {oc8 kV8 dc8 pm8 cd8 ct8 : Value} (a8 : PySem.W.nsIn K mainGlobals "mixed_ring" = some (some (.ref fa8))) (l8 : K.lookup fa8 = some ⟨oc8, od8, .func (PySem.W.fnOf "mixed_ring" "mixed_ring" (defArgs (topS 19)) (defBody (topS 19)) (defScope (topS 19)) .none kV8 dc8 pm8 an8 cd8 ct8), sl8⟩) (c8 : PySem.W.codeIn K cd8 "mixed_ring" = true) (k8 : PySem.W.keepIn K (.ref fa8) = true)
    {fa9 : Addr} {od9 an9 : Option Addr} {sl9 : Array (Option Value)} {oc9 kV9 dc9 pm9 cd9 ct9 : Value} (a9 : PySem.W.nsIn K mainGlobals "is_as_good" = some (some (.ref fa9))) (l9 : K.lookup fa9 = some ⟨oc9, od9, .func (PySem.W.fnOf "is_as_good" "is_as_good" (defArgs (topS 20)) (defBody (topS 20)) (defScope (topS 20)) .none kV9 dc9 pm9 an9 cd9 ct9), sl9⟩) (c9 : PySem.W.codeIn K cd9 "is_as_good" = true) (k9 : PySem.W.keepIn K (.ref fa9) = true)
    {fa10 : Addr} {od10 an10 : Option Addr} {sl10 : Array (Option Value)} {oc10 kV10 dc10 pm10 cd10 ct10 : Value} (a10 : PySem.W.nsIn K mainGlobals "_law_same" = some (some (.ref fa10))) (l10 : K.lookup fa10 = some ⟨oc10, od10, .func (PySem.W.fnOf "_law_same" "_law_same" (defArgs (topS 22)) (defBody (topS 22)) (defScope (topS 22)) .none kV10 dc10 pm10 an10 cd10 ct10), sl10⟩) (c10 : PySem.W.codeIn K cd10 "_law_same" = true) (k10 : PySem.W.keepIn K (.ref fa10) = true)
    {fa11 : Addr} {od11 an11 : Option Addr} {sl11 : Array (Option Value)} {oc11 kV11 dc11 pm11 cd11 ct11 : Value} (a11 : PySem.W.nsIn K mainGlobals "_law_pool" = some (some (.ref fa11))) (l11 : K.lookup fa11 = some ⟨oc11, od11, .func (PySem.W.fnOf "_law_pool" "_law_pool" (defArgs (topS 23)) (defBody (topS 23)) (defScope (topS 23)) .none kV11 dc11 pm11 an11 cd11 ct11), sl11⟩) (c11 : PySem.W.codeIn K cd11 "_law_pool" = true) (k11 : PySem.W.keepIn K (.ref fa11) = true)
    {fa12 : Addr} {od12 an12 : Option Addr} {sl12 : Array (Option Value)} {oc12 kV12 dc12 pm12 cd12 ct12 : Value} (a12 : PySem.W.nsIn K mainGlobals "_law_spread" = some (some (.ref fa12))) (l12 : K.lookup fa12 = some ⟨oc12, od12, .func (PySem.W.fnOf "_law_spread" "_law_spread" (defArgs (topS 24)) (defBody (topS 24)) (defScope (topS 24)) .none kV12 dc12 pm12 an12 cd12 ct12), sl12⟩) (c12 : PySem.W.codeIn K cd12 "_law_spread" = true) (k12 : PySem.W.keepIn K (.ref fa12) = true)
    {fa13 : Addr} {od13 an13 : Option Addr} {sl13 : Array (Option Value)} {oc13 kV13 dc13 pm13 cd13 ct13 : Value} (a13 : PySem.W.nsIn K mainGlobals "_law_draw" = some (some (.ref fa13))) (l13 : K.lookup fa13 = some ⟨oc13, od13, .func (PySem.W.fnOf "_law_draw" "_law_draw" (defArgs (topS 25)) (defBody (topS 25)) (defScope (topS 25)) .none kV13 dc13 pm13 an13 cd13 ct13), sl13⟩) (c13 : PySem.W.codeIn K cd13 "_law_draw" = true) (k13 : PySem.W.keepIn K (.ref fa13) = true)
    {fa14 : Addr} {od14 an14 : Option Addr} {sl14 : Array (Option Value)} {oc14 kV14 dc14 pm14 cd14 ct14 : Value} (a14 : PySem.W.nsIn K mainGlobals "_law_pick" = some (some (.ref fa14))) (l14 : K.lookup fa14 = some ⟨oc14, od14, .func (PySem.W.fnOf "_law_pick" "_law_pick" (defArgs (topS 26)) (defBody (topS 26)) (defScope (topS 26)) .none kV14 dc14 pm14 an14 cd14 ct14), sl14⟩) (c14 : PySem.W.codeIn K cd14 "_law_pick" = true) (k14 : PySem.W.keepIn K (.ref fa14) = true)
    {fa15 : Addr} {od15 an15 : Option Addr} {sl15 : Array (Option Value)} {oc15 kV15 dc15 pm15 cd15 ct15 : Value} (a15 : PySem.W.nsIn K mainGlobals "_law_programs" = some (some (.ref fa15))) (l15 : K.lookup fa15 = some ⟨oc15, od15, .func (PySem.W.fnOf "_law_programs" "_law_programs" (defArgs (topS 27)) (defBody (topS 27)) (defScope (topS 27)) .none kV15 dc15 pm15 an15 cd15 ct15), sl15⟩) (c15 : PySem.W.codeIn K cd15 "_law_programs" = true) (k15 : PySem.W.keepIn K (.ref fa15) = true)
    {fa16 : Addr} {od16 an16 : Option Addr} {sl16 : Array (Option Value)} {oc16 kV16 dc16 pm16 cd16 ct16 : Value} (a16 : PySem.W.nsIn K mainGlobals "_law_is_mixed" = some (some (.ref fa16))) (l16 : K.lookup fa16 = some ⟨oc16, od16, .func (PySem.W.fnOf "_law_is_mixed" "_law_is_mixed" (defArgs (topS 28)) (defBody (topS 28)) (defScope (topS 28)) .none kV16 dc16 pm16 an16 cd16 ct16), sl16⟩) (c16 : PySem.W.codeIn K cd16 "_law_is_mixed" = true) (k16 : PySem.W.keepIn K (.ref fa16) = true)
    {fa17 : Addr} {od17 an17 : Option Addr} {sl17 : Array (Option Value)} {oc17 kV17 dc17 pm17 cd17 ct17 : Value} (a17 : PySem.W.nsIn K mainGlobals "_law_some_ring" = some (some (.ref fa17))) (l17 : K.lookup fa17 = some ⟨oc17, od17, .func (PySem.W.fnOf "_law_some_ring" "_law_some_ring" (defArgs (topS 29)) (defBody (topS 29)) (defScope (topS 29)) .none kV17 dc17 pm17 an17 cd17 ct17), sl17⟩) (c17 : PySem.W.codeIn K cd17 "_law_some_ring" = true) (k17 : PySem.W.keepIn K (.ref fa17) = true)
    {fa18 : Addr} {od18 an18 : Option Addr} {sl18 : Array (Option Value)} {oc18 kV18 dc18 pm18 cd18 ct18 : Value} (a18 : PySem.W.nsIn K mainGlobals "law" = some (some (.ref fa18))) (l18 : K.lookup fa18 = some ⟨oc18, od18, .func (PySem.W.fnOf "law" "law" (defArgs (topS 30)) (defBody (topS 30)) (defScope (topS 30)) .none kV18 dc18 pm18 an18 cd18 ct18), sl18⟩) (c18 : PySem.W.codeIn K cd18 "law" = true) (k18 : PySem.W.keepIn K (.ref fa18) = true)
    (z_all : PySem.W.nsIn K mainGlobals "all" = some none)
    (z_any : PySem.W.nsIn K mainGlobals "any" = some none)
    (z_bool : PySem.W.nsIn K mainGlobals "bool" = some none)
    (z_int : PySem.W.nsIn K mainGlobals "int" = some none)
    (z_isinstance : PySem.W.nsIn K mainGlobals "isinstance" = some none)
    (z_len : PySem.W.nsIn K mainGlobals "len" = some none)
    (z_list : PySem.W.nsIn K mainGlobals "list" = some none)
    (z_max : PySem.W.nsIn K mainGlobals "max" = some none)
    (z_min : PySem.W.nsIn K mainGlobals "min" = some none)
    (z_range : PySem.W.nsIn K mainGlobals "range" = some none)
    (z_set : PySem.W.nsIn K mainGlobals "set" = some none)
    (z_sorted : PySem.W.nsIn K mainGlobals "sorted" = some none)
    (z_str : PySem.W.nsIn K mainGlobals "str" = some none)
    (z_sum : PySem.W.nsIn K mainGlobals "sum" = some none)
    (z_tuple : PySem.W.nsIn K mainGlobals "tuple" = some none)
    (z_zip : PySem.W.nsIn K mainGlobals "zip" = some none)
    {tk_KEYS : Tok} (g_KEYS : PySem.W.nsIn K mainGlobals "KEYS" = some (some (.int 4 tk_KEYS)))
    {tk_HANDS : Tok} (g_HANDS : PySem.W.nsIn K mainGlobals "HANDS" = some (some (.int 9 tk_HANDS)))
    {tk_MOST_STEPS : Tok} (g_MOST_STEPS : PySem.W.nsIn K mainGlobals "MOST_STEPS" = some (some (.int 12 tk_MOST_STEPS)))
    {tk_MOST_PIECES : Tok} (g_MOST_PIECES : PySem.W.nsIn K mainGlobals "MOST_PIECES" = some (some (.int 9 tk_MOST_PIECES))) :
    ∃ fd : FuncData, (∀ (s : Shared) (v : Value), BindsTo s fd ⟨[v], []⟩ [("script", v)]) ∧ ∀ base : Heap, K.In base → base.Ns mainGlobals mg → FnOk PySem.Challenge.pw_everyhistory_k75_whole_cuts_made_finer w K mg base CX0 10 fa fd ["script"] (spM K 1 G_law) := by
  have e := hfa.symm.trans (PySem.W.mg_of X G a18)
  cases e
  let T : Txt K w mg := {
    f_is_whole := fa0, fd_is_whole := _, F_is_whole := fun_mk l0 c0 k0, g_is_whole := PySem.W.mg_of X G a0, B_is_whole := (fun_mk (st := (topS 3)) l0 c0 k0).binds fun _ _ _ _ _ _ us hl => match us, hl with | [_], _ => rfl,
    f_is_from := fa1, fd_is_from := _, F_is_from := fun_mk l1 c1 k1, g_is_from := PySem.W.mg_of X G a1, B_is_from := (fun_mk (st := (topS 4)) l1 c1 k1).binds fun _ _ _ _ _ _ us hl => match us, hl with | [_, _, _], _ => rfl,
    f_is_step := fa2, fd_is_step := _, F_is_step := fun_mk l2 c2 k2, g_is_step := PySem.W.mg_of X G a2, B_is_step := (fun_mk (st := (topS 11)) l2 c2 k2).binds fun _ _ _ _ _ _ us hl => match us, hl with | [_], _ => rfl,
    f_are_programs := fa3, fd_are_programs := _, F_are_programs := fun_mk l3 c3 k3, g_are_programs := PySem.W.mg_of X G a3, B_are_programs := (fun_mk (st := (topS 10)) l3 c3 k3).binds fun _ _ _ _ _ _ us hl => match us, hl with | [_], _ => rfl,
    f_meets := fa4, fd_meets := _, F_meets := fun_mk l4 c4 k4, g_meets := PySem.W.mg_of X G a4, B_meets := (fun_mk (st := (topS 13)) l4 c4 k4).binds fun _ _ _ _ _ _ us hl => match us, hl with | [_, _], _ => rfl,
    f_are_cuts := fa5, fd_are_cuts := _, F_are_cuts := fun_mk l5 c5 k5, g_are_cuts := PySem.W.mg_of X G a5, B_are_cuts := (fun_mk (st := (topS 16)) l5 c5 k5).binds fun _ _ _ _ _ _ us hl => match us, hl with | [_, _], _ => rfl,
    f_pieces_of := fa6, fd_pieces_of := _, F_pieces_of := fun_mk l6 c6 k6, g_pieces_of := PySem.W.mg_of X G a6, B_pieces_of := (fun_mk (st := (topS 17)) l6 c6 k6).binds fun _ _ _ _ _ _ us hl => match us, hl with | [_, _], _ => rfl,
    f_joins := fa7, fd_joins := _, F_joins := fun_mk l7 c7 k7, g_joins := PySem.W.mg_of X G a7, B_joins := (fun_mk (st := (topS 18)) l7 c7 k7).binds fun _ _ _ _ _ _ us hl => match us, hl with | [_], _ => rfl,
    f_mixed_ring := fa8, fd_mixed_ring := _, F_mixed_ring := fun_mk l8 c8 k8, g_mixed_ring := PySem.W.mg_of X G a8, B_mixed_ring := (fun_mk (st := (topS 19)) l8 c8 k8).binds fun _ _ _ _ _ _ us hl => match us, hl with | [_, _], _ => rfl,
    f_is_as_good := fa9, fd_is_as_good := _, F_is_as_good := fun_mk l9 c9 k9, g_is_as_good := PySem.W.mg_of X G a9, B_is_as_good := (fun_mk (st := (topS 20)) l9 c9 k9).binds fun _ _ _ _ _ _ us hl => match us, hl with | [_, _], _ => rfl,
    f__law_same := fa10, fd__law_same := _, F__law_same := fun_mk l10 c10 k10, g__law_same := PySem.W.mg_of X G a10, B__law_same := (fun_mk (st := (topS 22)) l10 c10 k10).binds fun _ _ _ _ _ _ us hl => match us, hl with | [_, _], _ => rfl,
    f__law_pool := fa11, fd__law_pool := _, F__law_pool := fun_mk l11 c11 k11, g__law_pool := PySem.W.mg_of X G a11, B__law_pool := (fun_mk (st := (topS 23)) l11 c11 k11).binds fun _ _ _ _ _ _ us hl => match us, hl with | [_], _ => rfl,
    f__law_spread := fa12, fd__law_spread := _, F__law_spread := fun_mk l12 c12 k12, g__law_spread := PySem.W.mg_of X G a12, B__law_spread := (fun_mk (st := (topS 24)) l12 c12 k12).binds fun _ _ _ _ _ _ us hl => match us, hl with | [_], _ => rfl,
    f__law_draw := fa13, fd__law_draw := _, F__law_draw := fun_mk l13 c13 k13, g__law_draw := PySem.W.mg_of X G a13, B__law_draw := (fun_mk (st := (topS 25)) l13 c13 k13).binds fun _ _ _ _ _ _ us hl => match us, hl with | [_, _], _ => rfl,
    f__law_pick := fa14, fd__law_pick := _, F__law_pick := fun_mk l14 c14 k14, g__law_pick := PySem.W.mg_of X G a14, B__law_pick := (fun_mk (st := (topS 26)) l14 c14 k14).binds fun _ _ _ _ _ _ us hl => match us, hl with | [_, _], _ => rfl,
    f__law_programs := fa15, fd__law_programs := _, F__law_programs := fun_mk l15 c15 k15, g__law_programs := PySem.W.mg_of X G a15, B__law_programs := (fun_mk (st := (topS 27)) l15 c15 k15).binds fun _ _ _ _ _ _ us hl => match us, hl with | [_, _], _ => rfl,
    f__law_is_mixed := fa16, fd__law_is_mixed := _, F__law_is_mixed := fun_mk l16 c16 k16, g__law_is_mixed := PySem.W.mg_of X G a16, B__law_is_mixed := (fun_mk (st := (topS 28)) l16 c16 k16).binds fun _ _ _ _ _ _ us hl => match us, hl with | [_, _], _ => rfl,
    f__law_some_ring := fa17, fd__law_some_ring := _, F__law_some_ring := fun_mk l17 c17 k17, g__law_some_ring := PySem.W.mg_of X G a17, B__law_some_ring := (fun_mk (st := (topS 29)) l17 c17 k17).binds fun _ _ _ _ _ _ us hl => match us, hl with | [_, _, _], _ => rfl,
    f_law := fa, fd_law := _, F_law := fun_mk l18 c18 k18, g_law := PySem.W.mg_of X G a18, B_law := (fun_mk (st := (topS 30)) l18 c18 k18).binds fun _ _ _ _ _ _ us hl => match us, hl with | [_], _ => rfl,
    b_all := PySem.W.mg_none_of X G z_all,
    b_any := PySem.W.mg_none_of X G z_any,
    b_bool := PySem.W.mg_none_of X G z_bool,
    b_int := PySem.W.mg_none_of X G z_int,
    b_isinstance := PySem.W.mg_none_of X G z_isinstance,
    b_len := PySem.W.mg_none_of X G z_len,
    b_list := PySem.W.mg_none_of X G z_list,
    b_max := PySem.W.mg_none_of X G z_max,
    b_min := PySem.W.mg_none_of X G z_min,
    b_range := PySem.W.mg_none_of X G z_range,
    b_set := PySem.W.mg_none_of X G z_set,
    b_sorted := PySem.W.mg_none_of X G z_sorted,
    b_str := PySem.W.mg_none_of X G z_str,
    b_sum := PySem.W.mg_none_of X G z_sum,
    b_tuple := PySem.W.mg_none_of X G z_tuple,
    b_zip := PySem.W.mg_none_of X G z_zip,
    a_KEYS := .int 4 tk_KEYS, v_KEYS := .int 4, g_KEYS := PySem.W.mg_of X G g_KEYS, r_KEYS := ⟨_, rfl⟩, d_KEYS := fun _ _ => .int _,
    a_HANDS := .int 9 tk_HANDS, v_HANDS := .int 9, g_HANDS := PySem.W.mg_of X G g_HANDS, r_HANDS := ⟨_, rfl⟩, d_HANDS := fun _ _ => .int _,
    a_MOST_STEPS := .int 12 tk_MOST_STEPS, v_MOST_STEPS := .int 12, g_MOST_STEPS := PySem.W.mg_of X G g_MOST_STEPS, r_MOST_STEPS := ⟨_, rfl⟩, d_MOST_STEPS := fun _ _ => .int _,
    a_MOST_PIECES := .int 9 tk_MOST_PIECES, v_MOST_PIECES := .int 9, g_MOST_PIECES := PySem.W.mg_of X G g_MOST_PIECES, r_MOST_PIECES := ⟨_, rfl⟩, d_MOST_PIECES := fun _ _ => .int _ }
  exact ⟨_, fun s v => .of_eq rfl, fun base _ _ => ok_law T⟩

end Law

open PySem PySem.W PyProof.Rows
theorem PySem.Challenge.cw_everyhistory_k75_whole_cuts_made_finer_holds : PySem.Challenge.rw_everyhistory_k75_whole_cuts_made_finer.Holds := by
  w_on; o_law; k_head; (case hw => w_witness2)
  k_fill
  refine L2.walk_of (l := PySem.Challenge.rw_everyhistory_k75_whole_cuts_made_finer) (n := 63) (k := 10) (x := "script") (CX := fun _ => L2.CX0) (sp := fun w => DL.spM _ 1 Law.G_law) rfl (by decide) rfl ⟨rfl, by decide, by decide⟩ (fun w h Y => PySem.W.kIn_of Y) ?F (fun _ H a ns hl hO hS => DL.hsp_of (by decide) Law.the_law H a ns hl hO hS) (fun _ _ _ _ _ h => h)
  case F =>
    intro w mg fa h KX G hmg
    refine' Law.all_mk KX G hmg ?a0 ?l0 ?c0 ?k0 ?a1 ?l1 ?c1 ?k1 ?a2 ?l2 ?c2 ?k2 ?a3 ?l3 ?c3 ?k3 ?a4 ?l4 ?c4 ?k4 ?a5 ?l5 ?c5 ?k5 ?a6 ?l6 ?c6 ?k6 ?a7 ?l7 ?c7 ?k7 ?a8 ?l8 ?c8 ?k8 ?a9 ?l9 ?c9 ?k9 ?a10 ?l10 ?c10 ?k10 ?a11 ?l11 ?c11 ?k11 ?a12 ?l12 ?c12 ?k12 ?a13 ?l13 ?c13 ?k13 ?a14 ?l14 ?c14 ?k14 ?a15 ?l15 ?c15 ?k15 ?a16 ?l16 ?c16 ?k16 ?a17 ?l17 ?c17 ?k17 ?a18 ?l18 ?c18 ?k18 ?z_all ?z_any ?z_bool ?z_int ?z_isinstance ?z_len ?z_list ?z_max ?z_min ?z_range ?z_set ?z_sorted ?z_str ?z_sum ?z_tuple ?z_zip ?g_KEYS ?g_HANDS ?g_MOST_STEPS ?g_MOST_PIECES
    (case a0 => k_is)
    (case l0 => k_is)
    (case c0 => k_is)
    (case k0 => k_is)
    (case a1 => k_is)
    (case l1 => k_is)
    (case c1 => k_is)
    (case k1 => k_is)
    (case a2 => k_is)
    (case l2 => k_is)
    (case c2 => k_is)
    (case k2 => k_is)
    (case a3 => k_is)
    (case l3 => k_is)
    (case c3 => k_is)
    (case k3 => k_is)
    (case a4 => k_is)
    (case l4 => k_is)
    (case c4 => k_is)
    (case k4 => k_is)
    (case a5 => k_is)
    (case l5 => k_is)
    (case c5 => k_is)
    (case k5 => k_is)
    (case a6 => k_is)
    (case l6 => k_is)
    (case c6 => k_is)
    (case k6 => k_is)
    (case a7 => k_is)
    (case l7 => k_is)
    (case c7 => k_is)
    (case k7 => k_is)
    (case a8 => k_is)
    (case l8 => k_is)
    (case c8 => k_is)
    (case k8 => k_is)
    (case a9 => k_is)
    (case l9 => k_is)
    (case c9 => k_is)
    (case k9 => k_is)
    (case a10 => k_is)
    (case l10 => k_is)
    (case c10 => k_is)
    (case k10 => k_is)
    (case a11 => k_is)
    (case l11 => k_is)
    (case c11 => k_is)
    (case k11 => k_is)
    (case a12 => k_is)
    (case l12 => k_is)
    (case c12 => k_is)
    (case k12 => k_is)
    (case a13 => k_is)
    (case l13 => k_is)
    (case c13 => k_is)
    (case k13 => k_is)
    (case a14 => k_is)
    (case l14 => k_is)
    (case c14 => k_is)
    (case k14 => k_is)
    (case a15 => k_is)
    (case l15 => k_is)
    (case c15 => k_is)
    (case k15 => k_is)
    (case a16 => k_is)
    (case l16 => k_is)
    (case c16 => k_is)
    (case k16 => k_is)
    (case a17 => k_is)
    (case l17 => k_is)
    (case c17 => k_is)
    (case k17 => k_is)
    (case a18 => k_is)
    (case l18 => k_is)
    (case c18 => k_is)
    (case k18 => k_is)
    (case z_all => k_is)
    (case z_any => k_is)
    (case z_bool => k_is)
    (case z_int => k_is)
    (case z_isinstance => k_is)
    (case z_len => k_is)
    (case z_list => k_is)
    (case z_max => k_is)
    (case z_min => k_is)
    (case z_range => k_is)
    (case z_set => k_is)
    (case z_sorted => k_is)
    (case z_str => k_is)
    (case z_sum => k_is)
    (case z_tuple => k_is)
    (case z_zip => k_is)
    (case g_KEYS => k_is)
    (case g_HANDS => k_is)
    (case g_MOST_STEPS => k_is)
    (case g_MOST_PIECES => k_is)

